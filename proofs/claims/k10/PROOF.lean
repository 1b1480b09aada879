import PyProof.Rows.All
import PySem.Challenge.RW_findlang_k10_phrases
import Wide.All
import OpenK.AllK
import Wide.FinOn
import HandS.ForMost
import HandS.ForExc
import HandS.CallSlots
import HandS.ExcInit
import HandS.Wide
import HandS.IsInst
import HandS.Flow
import HandS.Lambda
import HandS.EndTab
import HandS.TupAny
import KE.KExcSuper
import KE.KDflt
import HandS.Style
import KE.KExcIs
import HandS.Property
import HandS.MakeKwOnly
import HandS.ClsMeth
import HandS.Nested
import HandS.HeadHook1
import HandS.Head2
import HandS.More
import HandS.SortRule
import HandS.Iter
import HandS.Deep
import HandS.DictComp
import KE.GoesEnum
import HandS.FStr
import HandS.SetTxt0
import HandS.SetFor
import HandS.SortOrd
import HandS.Strs
import HandS.Conv
import HandS.SortInts
set_option Elab.async false
set_option linter.all false
set_option maxRecDepth 100000
set_option maxHeartbeats 4000000
/-! Part A: data as trees, what stands for them in the abstract heap, the state of the mirror machine. -/
namespace FL
open PySem L2 LamX

/-- a text by its code points -/
abbrev Tx := List Nat
def toS (x : Tx) : Str := ⟨x.toArray⟩
theorem toS_cps (x : Tx) : (toS x).cps.toList = x := rfl
theorem toS_len (x : Tx) : (toS x).length = x.length := by simp [toS, Str.length]
theorem toS_of (z : Str) : toS z.cps.toList = z := by cases z; simp [toS]
theorem toS_app (x y : Tx) : toS x ++ toS y = toS (x ++ y) := by
  show Str.append (toS x) (toS y) = _
  simp [toS, Str.append]
theorem toS_inj {x y : Tx} (h : toS x = toS y) : x = y := by
  have := congrArg (fun z => z.cps.toList) h
  simpa [toS] using this
/-- written text -/
def lit (s : String) : Tx := s.toList.map Char.toNat
theorem ofS_lit (s : String) : Str.ofString s = toS (lit s) := Str.ofString_eq_toList s
theorem cps_lit (s : String) : (Str.ofString s).cps.toList = lit s := by rw [ofS_lit]; rfl

/-- keys of dicts -/
inductive DK where
  | i (n : Int) | s (x : Tx)
  deriving DecidableEq
def DK.key : DK → Key
  | .i n => .inl n
  | .s x => .inr (toS x)
/-- data -/
inductive D where
  | non | bl (b : Bool) | int (i : Int) | str (x : Tx)
  | lst (xs : List D) | tup (xs : List D)
  | ro (xs : List D)
  | dct (ks : List DK) (vs : List D)
  | obj (k : Nat)
  | glo (x : String)
  | ty (n : String)
  | exn (c attr : String) (v : D)
  | ins (c : String) (ks : List String) (vs : List D)
  | unk

/-- what is owned: it may be changed -/
inductive Own where
  | lst (xs : List D)
  | dct (ks : List DK) (vs : List D)
  | tab (P : Addr) (q : Str)
  | ins (c : String) (kd : Nat) (ks : List String) (vs : List D)
  | idc (k : Nat)
def Own.d : Own → D
  | .lst xs => .lst xs
  | .dct ks vs => .dct ks vs
  | .tab _ _ => .unk
  | .ins _ _ _ _ => .unk
  | .idc _ => .unk
inductive Slot where
  | fr (d : D) | own (o : Own)
def Slot.d : Slot → D
  | .fr d => d
  | .own o => o.d

/-- an exception that is kept: its class and its dict -/
def ErrO (a : Addr) (cls : Value) (d : Option Addr) : HO := .ext fun h => ∃ oe vs, h.get? a = some oe ∧ oe.cls = cls ∧ oe.dict = d ∧ oe.data = .fields vs

section
variable (K : PySem.W.Frag) (mg : Str → Option Value) (F : Hp) (ρ : List Addr)
mutual
inductive Rep : V → D → Prop where
  | non : Rep .non .non
  | bl {b} : Rep (.bl b) (.bl b)
  | int {i} : Rep (.int i) (.int i)
  | str {x} : Rep (.str (toS x)) (.str x)
  | lst {p vs ds} (h : F p = some (.lst vs)) (r : RepL vs ds) : Rep (.ref p) (.lst ds)
  | ro {p vs ds} (h : SqL K F p vs) (r : RepL vs ds) : Rep (.ref p) (.ro ds)
  | tup {p vs ds} (h : SqT K F p vs) (r : RepL vs ds) : Rep (.ref p) (.tup ds)
  | dct {p ks vs ds} (h : Rd F p (.dK ((ks.map DK.key).zip vs))) (l : ks.length = vs.length) (r : RepL vs ds) : Rep (.ref p) (.dct ks ds)
  | obj {k p} (h : ρ[k]? = some p) : Rep (.ref p) (.obj k)
  | glo {x v u} (h : mg (Str.ofString x) = some u) (r : RelV v u) : Rep v (.glo x)
  | ty {n} : Rep (.ty n) (.ty n)
  | exn {c attr C dx v d p} (h : mg (Str.ofString c) = some (.ref C)) (e : Rd F dx (.xd [(Str.ofString attr, v)])) (o : F p = some (ErrO p (.ref C) (some dx))) (r : Rep v d) : Rep (.ref p) (.exn c attr d)
  | ins {c C dx ks vs ds p} (h : mg (Str.ofString c) = some (.ref C)) (e : F p = some (.ins C dx ((ks.map Str.ofString).zip vs))) (o : F dx = some (.own p)) (l : ks.length = vs.length) (r : RepL vs ds) : Rep (.ref p) (.ins c ks ds)
  | unk {p} : Rep (.ref p) .unk
inductive RepL : List V → List D → Prop where
  | nil : RepL [] []
  | cons {v d vs ds} (h : Rep v d) (t : RepL vs ds) : RepL (v :: vs) (d :: ds)
end
end

/-- F' has what F has; what is new in it is free in Z -/
structure Le (Z F F' : Hp) : Prop where
  to : ∀ p o, F p = some o → F' p = some o
  new : ∀ p o, F' p = some o → F p = some o ∨ Z p = none
structure LeR (Z : Hp) (ρ ρ' : List Addr) : Prop where
  to : ∀ (k : Nat) p, ρ[k]? = some p → ρ'[k]? = some p
  new : ∀ p ∈ ρ', p ∈ ρ ∨ Z p = none
theorem Le.refl {Z F : Hp} : Le Z F F := ⟨fun _ _ h => h, fun _ _ h => .inl h⟩
theorem Le.trans {Z F F1 F2 : Hp} (a : Le Z F F1) (b : Le Z F1 F2) : Le Z F F2 :=
  ⟨fun p o h => b.to p o (a.to p o h), fun p o h => (b.new p o h).elim (fun h => a.new p o h) .inr⟩
theorem LeR.refl {Z : Hp} {ρ : List Addr} : LeR Z ρ ρ := ⟨fun _ _ h => h, fun _ h => .inl h⟩
theorem LeR.trans {Z : Hp} {ρ ρ1 ρ2 : List Addr} (a : LeR Z ρ ρ1) (b : LeR Z ρ1 ρ2) : LeR Z ρ ρ2 :=
  ⟨fun k p h => b.to k p (a.to k p h), fun p h => (b.new p h).elim (fun h => a.new p h) .inr⟩

section
variable {K : PySem.W.Frag} {mg : Str → Option Value} {Z F F' : Hp} {ρ ρ' : List Addr}
theorem Rd.up (l : ∀ p o, F p = some o → F' p = some o) {p : Addr} {u : HO} (h : Rd F p u) : Rd F' p u := by
  rcases h with h | ⟨o, h⟩
  · exact .inl (l _ _ h)
  · exact .inr ⟨o, l _ _ h⟩
theorem SqL.up (l : ∀ p o, F p = some o → F' p = some o) {p : Addr} {xs : List V} (h : SqL K F p xs) : SqL K F' p xs :=
  h.elim (fun h => .inl (Rd.up l h)) .inr
theorem SqT.up (l : ∀ p o, F p = some o → F' p = some o) {p : Addr} {xs : List V} (h : SqT K F p xs) : SqT K F' p xs :=
  h.elim (fun h => .inl (Rd.up l h)) .inr
mutual
theorem Rep.up (l : ∀ p o, F p = some o → F' p = some o) (lr : ∀ (k : Nat) p, ρ[k]? = some p → ρ'[k]? = some p) :
    ∀ {v : V} {d : D}, Rep K mg F ρ v d → Rep K mg F' ρ' v d
  | _, _, .non => .non
  | _, _, .bl => .bl
  | _, _, .int => .int
  | _, _, .str => .str
  | _, _, .lst h r => .lst (l _ _ h) (RepL.up l lr r)
  | _, _, .ro h r => .ro (SqL.up l h) (RepL.up l lr r)
  | _, _, .tup h r => .tup (SqT.up l h) (RepL.up l lr r)
  | _, _, .dct h e r => .dct (Rd.up l h) e (RepL.up l lr r)
  | _, _, .obj h => .obj (lr _ _ h)
  | _, _, .glo h r => .glo h r
  | _, _, .ty => .ty
  | _, _, .exn h e o r => .exn h (Rd.up l e) (l _ _ o) (Rep.up l lr r)
  | _, _, .ins h e o n r => .ins h (l _ _ e) (l _ _ o) n (RepL.up l lr r)
  | _, _, .unk => .unk
theorem RepL.up (l : ∀ p o, F p = some o → F' p = some o) (lr : ∀ (k : Nat) p, ρ[k]? = some p → ρ'[k]? = some p) :
    ∀ {vs : List V} {ds : List D}, RepL K mg F ρ vs ds → RepL K mg F' ρ' vs ds
  | _, _, .nil => .nil
  | _, _, .cons h t => .cons (Rep.up l lr h) (RepL.up l lr t)
end
theorem RepL.len : ∀ {vs : List V} {ds : List D}, RepL K mg F ρ vs ds → vs.length = ds.length
  | _, _, .nil => rfl
  | _, _, .cons _ t => by rw [List.length_cons, List.length_cons, RepL.len t]
theorem RepL.app : ∀ {vs ws : List V} {ds es : List D}, RepL K mg F ρ vs ds → RepL K mg F ρ ws es → RepL K mg F ρ (vs ++ ws) (ds ++ es)
  | _, _, _, _, .nil, h => h
  | _, _, _, _, .cons h t, r => .cons h (RepL.app t r)
theorem RepL.get : ∀ {vs : List V} {ds : List D} {i : Nat} {d : D}, RepL K mg F ρ vs ds → ds[i]? = some d → ∃ v, vs[i]? = some v ∧ Rep K mg F ρ v d
  | _, _, _, _, .nil, e => by simp at e
  | _, _, 0, _, .cons h _, e => by simp at e; subst e; exact ⟨_, rfl, h⟩
  | _, _, i + 1, _, .cons _ t, e => by
    obtain ⟨v, h1, h2⟩ := RepL.get (i := i) t (by simpa using e)
    exact ⟨v, by simpa using h1, h2⟩
theorem RepL.getV : ∀ {vs : List V} {ds : List D} {i : Nat} {v : V}, RepL K mg F ρ vs ds → vs[i]? = some v → ∃ d, ds[i]? = some d ∧ Rep K mg F ρ v d
  | _, _, _, _, .nil, e => by simp at e
  | _, _, 0, _, .cons h _, e => by simp at e; subst e; exact ⟨_, rfl, h⟩
  | _, _, i + 1, _, .cons _ t, e => by
    obtain ⟨v, h1, h2⟩ := RepL.getV (i := i) t (by simpa using e)
    exact ⟨v, by simpa using h1, h2⟩
theorem RepL.take : ∀ {vs : List V} {ds : List D} (n : Nat), RepL K mg F ρ vs ds → RepL K mg F ρ (vs.take n) (ds.take n)
  | _, _, 0, _ => .nil
  | _, _, _ + 1, .nil => .nil
  | _, _, n + 1, .cons h t => .cons h (RepL.take n t)
theorem RepL.drop : ∀ {vs : List V} {ds : List D} (n : Nat), RepL K mg F ρ vs ds → RepL K mg F ρ (vs.drop n) (ds.drop n)
  | _, _, 0, r => r
  | _, _, _ + 1, .nil => .nil
  | _, _, n + 1, .cons h t => RepL.drop n t
theorem RepL.set {v : V} {d : D} (r : Rep K mg F ρ v d) : ∀ {vs : List V} {ds : List D} (i : Nat), RepL K mg F ρ vs ds → RepL K mg F ρ (vs.set i v) (ds.set i d)
  | _, _, _, .nil => .nil
  | _, _, 0, .cons _ t => .cons r t
  | _, _, i + 1, .cons h t => .cons h (RepL.set r i t)
theorem RepL.erase : ∀ {vs : List V} {ds : List D} (i : Nat), RepL K mg F ρ vs ds → RepL K mg F ρ (vs.eraseIdx i) (ds.eraseIdx i)
  | _, _, _, .nil => .nil
  | _, _, 0, .cons _ t => t
  | _, _, i + 1, .cons h t => .cons h (RepL.erase i t)
theorem RepL.rev {vs : List V} {ds : List D} (h : RepL K mg F ρ vs ds) : RepL K mg F ρ vs.reverse ds.reverse := by
  induction vs generalizing ds with
  | nil => cases h; exact .nil
  | cons v vs ih =>
    cases h with
    | cons h t =>
      rw [List.reverse_cons, List.reverse_cons]
      exact (ih t).app (.cons h .nil)
theorem RepL.ints : ∀ {vs : List V} {ns : List Int}, RepL K mg F ρ vs (ns.map D.int) → vs = ns.map V.int := by
  intro vs ns
  induction ns generalizing vs with
  | nil => intro h; cases h; rfl
  | cons n ns ih =>
    intro h
    rw [List.map_cons] at h
    cases h with
    | cons h t =>
      cases h
      rw [List.map_cons, ih t]
theorem RepL.ofInts : ∀ (ns : List Int), RepL K mg F ρ (ns.map V.int) (ns.map D.int)
  | [] => .nil
  | _ :: ns => .cons .int (RepL.ofInts ns)
theorem RepL.strs : ∀ {vs : List V} {xs : List Tx}, RepL K mg F ρ vs (xs.map D.str) → vs = (xs.map toS).map V.str := by
  intro vs xs
  induction xs generalizing vs with
  | nil => intro h; cases h; rfl
  | cons n ns ih =>
    intro h
    rw [List.map_cons] at h
    cases h with
    | cons h t =>
      cases h
      rw [List.map_cons, List.map_cons, ih t]
theorem RepL.ofStrs : ∀ (xs : List Tx), RepL K mg F ρ ((xs.map toS).map V.str) (xs.map D.str)
  | [] => .nil
  | _ :: ns => .cons .str (RepL.ofStrs ns)
theorem RepL.bls : ∀ {vs : List V} {xs : List Bool}, RepL K mg F ρ vs (xs.map D.bl) → vs = xs.map V.bl := by
  intro vs xs
  induction xs generalizing vs with
  | nil => intro h; cases h; rfl
  | cons n ns ih =>
    intro h
    rw [List.map_cons] at h
    cases h with
    | cons h t =>
      cases h
      rw [List.map_cons, ih t]
end

abbrev Loc := List (Option Slot)
abbrev Mem := List Own
section
variable (K : PySem.W.Frag) (mg : Str → Option Value)
/-- an owned thing stands at p -/
def OwnR (F : Hp) (ρ : List Addr) (H : Hp) (p : Addr) : Own → Prop
  | .lst ds => ∃ vs, H p = some (.lst vs) ∧ RepL K mg F ρ vs ds
  | .dct ks ds => ∃ vs, H p = some (.dK ((ks.map DK.key).zip vs)) ∧ ks.length = vs.length ∧ RepL K mg F ρ vs ds
  | .ins c kd ks ds => ∃ C dx vs, mg (Str.ofString c) = some (.ref C) ∧ ρ[kd]? = some dx ∧ H p = some (.ins C dx ((ks.map Str.ofString).zip vs)) ∧ ks.length = vs.length ∧ RepL K mg F ρ vs ds
  | .idc k => ∃ q, ρ[k]? = some q ∧ H p = some (.own q)
  | .tab P q => p = P ∧ ∃ ps, H p = some (.tbl ps) ∧ TriplesOk ps.toList ∧ ∀ (pos : Pos) (cv : Value), codeAmong pos ps.toList = some cv → ∃ c, cv = .ref c ∧ F c = some (CodeO c q)
structure Free (Z F : Hp) (ρ : List Addr) (p : Addr) : Prop where
  f : F p = none
  z : Z p = none
  r : p ∉ ρ
/-- what a slot's value is -/
def SlotR (Z F : Hp) (ρ : List Addr) (H : Hp) (v : V) : Slot → Prop
  | .fr d => Rep K mg F ρ v d
  | .own o => ∃ p, v = .ref p ∧ Free Z F ρ p ∧ OwnR K mg F ρ H p o
structure Sim (Z F : Hp) (ρ : List Addr) (μ : Mem) (δ : Loc) (σ : St) (H : Hp) : Prop where
  le : ∀ p o, F p = some o → H p = some o ∨ ∃ ob kvs, o = .dK kvs ∧ H p = some (.frz ob (.dK kvs))
  zk : ∀ p o, Z p = some o → H p = some o
  len : σ.length = δ.length
  slot : ∀ (i : Nat) s, δ[i]? = some (some s) → ∃ v, σ[i]? = some (some v) ∧ SlotR K mg Z F ρ H v s
  apart : ∀ (i j : Nat) p s s', δ[i]? = some (some (.own s)) → δ[j]? = some (some (.own s')) → σ[i]? = some (some (.ref p)) → σ[j]? = some (some (.ref p)) → i = j
  mem : ∀ (k : Nat) c, μ[k]? = some c → ∃ a, ρ[k]? = some a ∧ F a = none ∧ Z a = none ∧ OwnR K mg F ρ H a c
  mlen : ρ.length = μ.length
  nod : ρ.Nodup
/-- a value that came: as a slot's, and what is owned stands in no slot -/
structure VR (Z F : Hp) (ρ : List Addr) (δ : Loc) (σ : St) (H : Hp) (v : V) (s : Slot) : Prop where
  r : SlotR K mg Z F ρ H v s
  no : ∀ o p, s = .own o → v = .ref p → ∀ (i : Nat) o', δ[i]? = some (some (.own o')) → σ[i]? ≠ some (some (.ref p))
end

section
variable {K : PySem.W.Frag} {mg : Str → Option Value} {Z F F' : Hp} {ρ ρ' : List Addr} {μ : Mem} {δ : Loc} {σ : St} {H H' : Hp} {p : Addr} {o : HO} {v : V} {s : Slot}
theorem OwnR.up {c : Own} (l : ∀ p o, F p = some o → F' p = some o) (lr : ∀ (k : Nat) p, ρ[k]? = some p → ρ'[k]? = some p) (hp : H' p = H p) (h : OwnR K mg F ρ H p c) : OwnR K mg F' ρ' H' p c := by
  cases c with
  | lst ds =>
    obtain ⟨vs, e, r⟩ := h
    exact ⟨vs, by rw [hp]; exact e, r.up l lr⟩
  | dct ks ds =>
    obtain ⟨vs, e, n, r⟩ := h
    exact ⟨vs, by rw [hp]; exact e, n, r.up l lr⟩
  | tab P q =>
    obtain ⟨e0, ps, e, t, r⟩ := h
    exact ⟨e0, ps, by rw [hp]; exact e, t, fun pos cv hc => by
      obtain ⟨c, e1, e2⟩ := r pos cv hc
      exact ⟨c, e1, l _ _ e2⟩⟩
  | ins c kd ks ds =>
    obtain ⟨C, dx, vs, e1, e2, e3, n, r⟩ := h
    exact ⟨C, dx, vs, e1, lr _ _ e2, by rw [hp]; exact e3, n, r.up l lr⟩
  | idc k =>
    obtain ⟨q, e1, e2⟩ := h
    exact ⟨q, lr _ _ e1, by rw [hp]; exact e2⟩
theorem OwnR.some {c : Own} (h : OwnR K mg F ρ H p c) : ∃ o, H p = Option.some o := by
  cases c with
  | lst ds => obtain ⟨vs, e, r⟩ := h; exact ⟨_, e⟩
  | dct ks ds => obtain ⟨vs, e, n, r⟩ := h; exact ⟨_, e⟩
  | tab P q => obtain ⟨_, ps, e, _⟩ := h; exact ⟨_, e⟩
  | ins c kd ks ds => obtain ⟨C, dx, vs, _, _, e, _⟩ := h; exact ⟨_, e⟩
  | idc k => obtain ⟨q, _, e⟩ := h; exact ⟨_, e⟩
theorem Sim.rd (S : Sim K mg Z F ρ μ δ σ H) {u : HO} (h : Rd F p u) : Rd H p u := by
  rcases h with h | ⟨ob, h⟩
  · rcases S.le p u h with q | ⟨ob, kvs, e, q⟩
    · exact .inl q
    · subst e; exact .inr ⟨ob, q⟩
  · rcases S.le p _ h with q | ⟨ob, kvs, e, q⟩
    · exact .inr ⟨_, q⟩
    · have e' : HO.frz _ u = HO.dK kvs := e
      cases e'
theorem Sim.notIn (S : Sim K mg Z F ρ μ δ σ H) (h : H p = none) : F p = none ∧ Z p = none ∧ p ∉ ρ ∧ ∀ (i : Nat) s, δ[i]? = some (some (.own s)) → σ[i]? ≠ some (some (.ref p)) := by
  refine ⟨?_, ?_, ?_, ?_⟩
  · cases e : F p with
    | none => rfl
    | some o =>
      rcases S.le p o e with q | ⟨_, _, _, q⟩ <;> rw [h] at q <;> cases q
  · cases e : Z p with
    | none => rfl
    | some o => have := S.zk p o e; rw [h] at this; cases this
  · intro hm
    obtain ⟨k, hk⟩ := List.getElem?_of_mem hm
    have hlt : k < μ.length := by
      rw [← S.mlen]; exact (List.getElem?_eq_some_iff.mp hk).1
    obtain ⟨a, e, _, _, r⟩ := S.mem k μ[k] (List.getElem?_eq_getElem hlt)
    rw [hk] at e; cases e
    obtain ⟨o, q⟩ := r.some
    rw [h] at q; cases q
  · intro i s hi hs
    obtain ⟨v, e, p', ev, fr, r⟩ := S.slot i _ hi
    rw [hs] at e; cases e
    cases ev
    obtain ⟨o, q⟩ := r.some
    rw [h] at q; cases q
theorem Sim.free (S : Sim K mg Z F ρ μ δ σ H) (h : H p = none) : Free Z F ρ p := let ⟨a, b, c, _⟩ := S.notIn h; ⟨a, b, c⟩

/-- H' has what was there and is not p's; p is no owned thing of the state -/
theorem Sim.heap (S : Sim K mg Z F ρ μ δ σ H) (hk : ∀ a, a ≠ p → H' a = H a) (hF : F p = none) (hZ : Z p = none) (hρ : p ∉ ρ)
    (hs : ∀ (i : Nat) s, δ[i]? = some (some (.own s)) → σ[i]? ≠ some (some (.ref p))) : Sim K mg Z F ρ μ δ σ H' := by
  refine ⟨fun a u h => ?_, fun a u h => ?_, S.len, fun i s h => ?_, S.apart, fun k c h => ?_, S.mlen, S.nod⟩
  · have ne : a ≠ p := fun e => by
      subst e
      rw [hF] at h; cases h
    have := S.le a u h
    rw [hk a ne]; exact this
  · have ne : a ≠ p := fun e => by subst e; rw [hZ] at h; cases h
    rw [hk a ne]; exact S.zk a u h
  · obtain ⟨v, e, r⟩ := S.slot i s h
    refine ⟨v, e, ?_⟩
    cases s with
    | fr d => exact r
    | own c =>
      obtain ⟨q, ev, fr, r⟩ := r
      subst ev
      have ne : q ≠ p := fun z => by subst z; exact hs i c h e
      exact ⟨q, rfl, fr, r.up (fun _ _ h => h) (fun _ _ h => h) (hk q ne)⟩
  · obtain ⟨a, e, f1, f2, r⟩ := S.mem k c h
    have ne : a ≠ p := fun z => by subst z; exact hρ (List.mem_of_getElem? e)
    exact ⟨a, e, f1, f2, r.up (fun _ _ h => h) (fun _ _ h => h) (hk a ne)⟩
theorem Sim.laid (S : Sim K mg Z F ρ μ δ σ H) (h : H p = none) : Sim K mg Z F ρ μ δ σ (upd H p o) := by
  obtain ⟨a, b, c, d⟩ := S.notIn h
  exact S.heap (fun q ne => upd_ne ne) a b c d
/-- a thing that no slot owns is locked for good -/
theorem Sim.freeze (S : Sim K mg Z F ρ μ δ σ H) (h : H p = some o) (fr : Free Z F ρ p) (hs : ∀ (i : Nat) s, δ[i]? = some (some (.own s)) → σ[i]? ≠ some (some (.ref p))) :
    Le Z F (upd F p o) ∧ Sim K mg Z (upd F p o) ρ μ δ σ H := by
  have to : ∀ q u, F q = some u → upd F p o q = some u := fun q u e => by
    rw [upd_ne (fun z => by subst z; rw [fr.f] at e; cases e)]; exact e
  refine ⟨⟨to, fun q u e => ?_⟩, ⟨fun q u e => ?_, S.zk, S.len, fun i s e => ?_, S.apart, fun k c e => ?_, S.mlen, S.nod⟩⟩
  · by_cases z : q = p
    · subst z; exact .inr fr.z
    · rw [upd_ne z] at e; exact .inl e
  · by_cases z : q = p
    · subst z
      rw [upd_same] at e; cases e; exact .inl h
    · refine S.le q u ?_
      rw [upd_ne z] at e; exact e
  · obtain ⟨v, e1, r⟩ := S.slot i s e
    refine ⟨v, e1, ?_⟩
    cases s with
    | fr d => exact Rep.up to (fun _ _ h => h) r
    | own c =>
      obtain ⟨q, ev, f1, r⟩ := r
      subst ev
      have ne : q ≠ p := fun z => by subst z; exact hs i c e e1
      exact ⟨q, rfl, ⟨by rw [upd_ne ne]; exact f1.f, f1.z, f1.r⟩, r.up to (fun _ _ h => h) rfl⟩
  · obtain ⟨a, e1, f1, f2, r⟩ := S.mem k c e
    have ne : a ≠ p := fun z => by subst z; exact fr.r (List.mem_of_getElem? e1)
    exact ⟨a, e1, by rw [upd_ne ne]; exact f1, f2, r.up to (fun _ _ h => h) rfl⟩
/-- what an owned thing is, locked -/
theorem OwnR.rep {c : Own} (h : OwnR K mg F ρ H p c) : ∃ o, H p = Option.some o ∧ ∀ F' ρ', (∀ p o, F p = Option.some o → F' p = Option.some o) → (∀ (k : Nat) p, ρ[k]? = Option.some p → ρ'[k]? = Option.some p) → F' p = Option.some o → Rep K mg F' ρ' (.ref p) c.d := by
  cases c with
  | lst ds =>
    obtain ⟨vs, e, r⟩ := h
    exact ⟨_, e, fun F' ρ' l lr q => .lst q (r.up l lr)⟩
  | dct ks ds =>
    obtain ⟨vs, e, n, r⟩ := h
    exact ⟨_, e, fun F' ρ' l lr q => .dct (.inl q) n (r.up l lr)⟩
  | tab P q =>
    obtain ⟨_, ps, e, _⟩ := h
    exact ⟨_, e, fun F' ρ' l lr q => .unk⟩
  | ins c kd ks ds =>
    obtain ⟨C, dx, vs, _, _, e, _⟩ := h
    exact ⟨_, e, fun F' ρ' l lr q => .unk⟩
  | idc k =>
    obtain ⟨q, _, e⟩ := h
    exact ⟨_, e, fun F' ρ' l lr q => .unk⟩
/-- a value that came is locked -/
theorem Sim.lock (S : Sim K mg Z F ρ μ δ σ H) (h : VR K mg Z F ρ δ σ H v s) : ∃ F', Le Z F F' ∧ Sim K mg Z F' ρ μ δ σ H ∧ Rep K mg F' ρ v s.d := by
  cases s with
  | fr d => exact ⟨F, .refl, S, h.r⟩
  | own c =>
    obtain ⟨p, ev, fr, r⟩ := h.r
    subst ev
    obtain ⟨o, e, rep⟩ := r.rep
    obtain ⟨l, S'⟩ := S.freeze e fr (h.no c p rfl rfl)
    exact ⟨_, l, S', rep _ _ l.to (fun _ _ h => h) upd_same⟩
/-- the slot i is set -/
theorem Sim.store {i : Nat} (S : Sim K mg Z F ρ μ δ σ H) (h : VR K mg Z F ρ δ σ H v s) (hi : i < δ.length) : Sim K mg Z F ρ μ (δ.set i (some s)) (σ.set i (some v)) H := by
  refine ⟨S.le, S.zk, by simp [S.len], fun j t e => ?_, fun j k p t t' e1 e2 e3 e4 => ?_, S.mem, S.mlen, S.nod⟩
  · by_cases z : j = i
    · subst z
      rw [List.getElem?_set_self hi] at e
      cases e
      exact ⟨v, List.getElem?_set_self (by rw [S.len]; exact hi), h.r⟩
    · rw [List.getElem?_set_ne (Ne.symm z)] at e
      obtain ⟨w, e1, r⟩ := S.slot j t e
      exact ⟨w, by rw [List.getElem?_set_ne (Ne.symm z)]; exact e1, r⟩
  · by_cases z1 : j = i
    · by_cases z2 : k = i
      · rw [z1, z2]
      · subst z1
        rw [List.getElem?_set_self hi] at e1
        cases e1
        rw [List.getElem?_set_self (by rw [S.len]; exact hi)] at e3
        cases e3
        rw [List.getElem?_set_ne (Ne.symm z2)] at e2 e4
        exact absurd e4 (h.no _ _ rfl rfl k _ e2)
    · by_cases z2 : k = i
      · subst z2
        rw [List.getElem?_set_self hi] at e2
        cases e2
        rw [List.getElem?_set_self (by rw [S.len]; exact hi)] at e4
        cases e4
        rw [List.getElem?_set_ne (Ne.symm z1)] at e1 e3
        exact absurd e3 (h.no _ _ rfl rfl j _ e1)
      · rw [List.getElem?_set_ne (Ne.symm z1)] at e1 e3
        rw [List.getElem?_set_ne (Ne.symm z2)] at e2 e4
        exact S.apart j k p t t' e1 e2 e3 e4
/-- the slot i is known no longer, or holds nothing -/
theorem Sim.forget {i : Nat} {x : Option V} (S : Sim K mg Z F ρ μ δ σ H) : Sim K mg Z F ρ μ (δ.set i none) (σ.set i x) H := by
  refine ⟨S.le, S.zk, by simp [S.len], fun j t e => ?_, fun j k p t t' e1 e2 e3 e4 => ?_, S.mem, S.mlen, S.nod⟩
  · by_cases z : j = i
    · subst z
      by_cases hj : j < δ.length
      · rw [List.getElem?_set_self hj] at e; cases e
      · rw [List.getElem?_eq_none (by simpa using hj)] at e; cases e
    · rw [List.getElem?_set_ne (Ne.symm z)] at e
      obtain ⟨w, e1, r⟩ := S.slot j t e
      exact ⟨w, by rw [List.getElem?_set_ne (Ne.symm z)]; exact e1, r⟩
  · have n : ∀ {j : Nat} {t}, (δ.set i none)[j]? = some (some t) → j ≠ i := fun {j t} e z => by
      subst z
      by_cases hj : j < δ.length
      · rw [List.getElem?_set_self hj] at e; cases e
      · rw [List.getElem?_eq_none (by simpa using hj)] at e; cases e
    have z1 := n e1
    have z2 := n e2
    rw [List.getElem?_set_ne (Ne.symm z1)] at e1 e3
    rw [List.getElem?_set_ne (Ne.symm z2)] at e2 e4
    exact S.apart j k p t t' e1 e2 e3 e4
/-- the slot i is locked where it stands -/
theorem Sim.lockAt {i : Nat} (S : Sim K mg Z F ρ μ δ σ H) (e : δ[i]? = some (some s)) :
    ∃ F' v, Le Z F F' ∧ σ[i]? = some (some v) ∧ Sim K mg Z F' ρ μ (δ.set i (some (.fr s.d))) σ H ∧ Rep K mg F' ρ v s.d := by
  obtain ⟨v, ev, r⟩ := S.slot i s e
  have hi : i < δ.length := (List.getElem?_eq_some_iff.mp e).1
  have same : σ.set i (some v) = σ := by
    apply List.ext_getElem?
    intro j
    by_cases z : j = i
    · subst z; rw [List.getElem?_set_self (by rw [S.len]; exact hi), ev]
    · rw [List.getElem?_set_ne (Ne.symm z)]
  cases s with
  | fr d =>
    have S1 := S.store (i := i) (v := v) (s := .fr d) ⟨r, fun o p z => by cases z⟩ hi
    rw [same] at S1
    exact ⟨F, v, .refl, ev, S1, r⟩
  | own c =>
    obtain ⟨p, evp, fr, r⟩ := r
    subst evp
    obtain ⟨o, eo, rep⟩ := r.rep
    have S0 := S.forget (i := i) (x := some (.ref p))
    rw [same] at S0
    obtain ⟨l, S1⟩ := S0.freeze eo fr (fun j t ej => by
      have nj : j ≠ i := fun z => by
        subst z; rw [List.getElem?_set_self hi] at ej; cases ej
      rw [List.getElem?_set_ne (Ne.symm nj)] at ej
      intro q
      exact nj (S.apart j i p t c ej e q ev))
    have rp := rep _ ρ l.to (fun _ _ h => h) upd_same
    have S2 := S1.store (i := i) (v := .ref p) (s := .fr c.d) ⟨rp, fun o p z => by cases z⟩ (by simpa using hi)
    rw [same, List.set_set] at S2
    exact ⟨_, _, l, ev, S2, rp⟩
/-- what slot i owns is changed -/
theorem Sim.write {i : Nat} {c c' : Own} (S : Sim K mg Z F ρ μ δ σ H) (e : δ[i]? = some (some (.own c))) (ev : σ[i]? = some (some (.ref p))) (r : OwnR K mg F ρ (upd H p o) p c') :
    Sim K mg Z F ρ μ (δ.set i (some (.own c'))) σ (upd H p o) := by
  obtain ⟨v, ev', q, evq, fr, r0⟩ := S.slot i _ e
  rw [ev] at ev'; cases ev'; cases evq
  have hi : i < δ.length := (List.getElem?_eq_some_iff.mp e).1
  have same : σ.set i (some (.ref p)) = σ := by
    apply List.ext_getElem?
    intro j
    by_cases z : j = i
    · subst z; rw [List.getElem?_set_self (by rw [S.len]; exact hi), ev]
    · rw [List.getElem?_set_ne (Ne.symm z)]
  have S0 := S.forget (i := i) (x := some (.ref p))
  rw [same] at S0
  have no : ∀ (j : Nat) t, (δ.set i none)[j]? = some (some (.own t)) → σ[j]? ≠ some (some (.ref p)) := fun j t ej q => by
    have nj : j ≠ i := fun z => by
      subst z; rw [List.getElem?_set_self hi] at ej; cases ej
    rw [List.getElem?_set_ne (Ne.symm nj)] at ej
    exact nj (S.apart j i p t c ej e q ev)
  have S1 : Sim K mg Z F ρ μ (δ.set i none) σ (upd H p o) := S0.heap (fun a ne => upd_ne ne) fr.f fr.z fr.r no
  have S2 := S1.store (i := i) (v := .ref p) (s := .own c') ⟨⟨p, rfl, fr, r⟩, fun o' p' z1 z2 => by cases z2; exact fun j t ej => no j t ej⟩ (by simpa using hi)
  rw [same, List.set_set] at S2
  exact S2
/-- a shared object is changed -/
theorem Sim.writeM {k : Nat} {c c' : Own} (S : Sim K mg Z F ρ μ δ σ H) (e : μ[k]? = some c) (ev : ρ[k]? = some p) (r : OwnR K mg F ρ (upd H p o) p c') :
    Sim K mg Z F ρ (μ.set k c') δ σ (upd H p o) := by
  obtain ⟨a, ea, f1, f2, r0⟩ := S.mem k c e
  rw [ev] at ea; cases ea
  have hm : p ∈ ρ := List.mem_of_getElem? ev
  have hk : k < μ.length := (List.getElem?_eq_some_iff.mp e).1
  refine ⟨fun a u h => ?_, fun a u h => ?_, S.len, fun i s h => ?_, S.apart, fun j x h => ?_, by simp [S.mlen], S.nod⟩
  · have ne : a ≠ p := fun z => by
      subst z
      rw [f1] at h; cases h
    have := S.le a u h
    rw [upd_ne ne]; exact this
  · have ne : a ≠ p := fun z => by subst z; rw [f2] at h; cases h
    rw [upd_ne ne]; exact S.zk a u h
  · obtain ⟨v, e1, r⟩ := S.slot i s h
    refine ⟨v, e1, ?_⟩
    cases s with
    | fr d => exact r
    | own c =>
      obtain ⟨q, eq, fr, r⟩ := r
      subst eq
      have ne : q ≠ p := fun z => by subst z; exact fr.r hm
      exact ⟨q, rfl, fr, r.up (fun _ _ h => h) (fun _ _ h => h) (upd_ne ne)⟩
  · by_cases z : j = k
    · subst z
      rw [List.getElem?_set_self hk] at h
      cases h
      exact ⟨p, ev, f1, f2, r⟩
    · rw [List.getElem?_set_ne (Ne.symm z)] at h
      obtain ⟨a, ea, g1, g2, r1⟩ := S.mem j x h
      have ne : a ≠ p := fun q => by
        subst q
        have h1 := (List.getElem?_eq_some_iff.mp ea).1
        exact z ((List.getElem?_inj h1 S.nod).mp (ea.trans ev.symm))
      exact ⟨a, ea, g1, g2, r1.up (fun _ _ h => h) (fun _ _ h => h) (upd_ne ne)⟩
/-- a value that came becomes a shared object -/
theorem Sim.share {c : Own} (S : Sim K mg Z F ρ μ δ σ H) (h : VR K mg Z F ρ δ σ H v (.own c)) : ∃ p, v = .ref p ∧ LeR Z ρ (ρ ++ [p]) ∧ Sim K mg Z F (ρ ++ [p]) (μ ++ [c]) δ σ H ∧ Rep K mg F (ρ ++ [p]) v (.obj μ.length) := by
  obtain ⟨p, ev, fr, r⟩ := h.r
  subst ev
  have to : ∀ (k : Nat) a, ρ[k]? = some a → (ρ ++ [p])[k]? = some a := fun k a e => by
    rw [List.getElem?_append_left (List.getElem?_eq_some_iff.mp e).1]; exact e
  refine ⟨p, rfl, ⟨to, fun a ha => ?_⟩, ⟨S.le, S.zk, S.len, fun i s e => ?_, S.apart, fun k x e => ?_, by simp [S.mlen], ?_⟩, ?_⟩
  · rcases List.mem_append.mp ha with ha | ha
    · exact .inl ha
    · have : a = p := by simpa using ha
      subst this; exact .inr fr.z
  · obtain ⟨w, e1, r1⟩ := S.slot i s e
    refine ⟨w, e1, ?_⟩
    cases s with
    | fr d => exact Rep.up (fun _ _ h => h) to r1
    | own c1 =>
      obtain ⟨q, eq, fr1, r1⟩ := r1
      subst eq
      refine ⟨q, rfl, ⟨fr1.f, fr1.z, fun hm => ?_⟩, r1.up (fun _ _ h => h) to rfl⟩
      rcases List.mem_append.mp hm with hm | hm
      · exact fr1.r hm
      · have : q = p := by simpa using hm
        subst this
        exact h.no c q rfl rfl i c1 e e1
  · by_cases hk : k < μ.length
    · rw [List.getElem?_append_left hk] at e
      obtain ⟨a, ea, g1, g2, r1⟩ := S.mem k x e
      exact ⟨a, to k a ea, g1, g2, r1.up (fun _ _ h => h) to rfl⟩
    · rw [List.getElem?_append_right (by omega)] at e
      have hk2 : k = μ.length := by
        have := (List.getElem?_eq_some_iff.mp e).1
        simp at this
        omega
      subst hk2
      simp at e
      subst e
      refine ⟨p, ?_, fr.f, fr.z, r.up (fun _ _ h => h) to rfl⟩
      rw [← S.mlen]; simp
  · rw [List.nodup_append]
    refine ⟨S.nod, by simp, fun a ha b hb e => ?_⟩
    have : b = p := by simpa using hb
    subst this
    subst e
    exact fr.r ha
  · refine .obj ?_
    rw [← S.mlen]; simp
end
end FL

/-! Part B: what a piece of code does to the mirror state, and the judgements; expressions. -/
namespace FL
open PySem L2

/-- an exception of an own class with one attribute -/
structure Exc where
  cls : String
  attr : String
  arg : D
inductive Out (α : Type) where
  | ok (a : α) (δ : Loc) (μ : Mem)
  | exc (x : Exc) (δ : Loc) (μ : Mem)
  | bad
def Out.bind {α β : Type} (r : Out α) (f : α → Loc → Mem → Out β) : Out β :=
  match r with
  | .ok a δ μ => f a δ μ
  | .exc x δ μ => .exc x δ μ
  | .bad => .bad
theorem Out.bind_ok {α β : Type} {a : α} {δ : Loc} {μ : Mem} {f : α → Loc → Mem → Out β} : (Out.ok a δ μ).bind f = f a δ μ := rfl
theorem Out.bind_exc {α β : Type} {x : Exc} {δ : Loc} {μ : Mem} {f : α → Loc → Mem → Out β} : (Out.exc x δ μ : Out α).bind f = .exc x δ μ := rfl
theorem Out.bind_bad {α β : Type} {f : α → Loc → Mem → Out β} : (Out.bad : Out α).bind f = .bad := rfl
abbrev MM (α : Type) := Loc → Mem → Out α
abbrev ME := MM Slot
abbrev MT := MM Bool
def lift (o : Option Slot) : ME := fun δ μ => match o with
  | some s => .ok s δ μ
  | none => .bad

/-- the exception's class and dict -/
def ExcR (K : PySem.W.Frag) (mg : Str → Option Value) (F : Hp) (ρ : List Addr) (c : Value) (d : Option Addr) (x : Exc) : Prop :=
  ∃ C dx v, c = .ref C ∧ d = some dx ∧ mg (Str.ofString x.cls) = some (.ref C) ∧ Rd F dx (.xd [(Str.ofString x.attr, v)]) ∧ Rep K mg F ρ v x.arg

section
variable (X : Cx) (W : WX)
abbrev SimX (Z F : Hp) (ρ : List Addr) (μ : Mem) (δ : Loc) (σ : St) (H : Hp) : Prop := Sim X.K X.mg Z F ρ μ δ σ H
/-- what follows an outcome, the slots' values as they are -/
def FinE {α : Type} (Z F : Hp) (ρ : List Addr) (σ : St) (P : α → Loc → Mem → Hp → List Addr → Hp → Prop) : Out α → Prop
  | .ok a δ μ => ∀ H' F' ρ', Le Z F F' → LeR Z ρ ρ' → Sim X.K X.mg Z F' ρ' μ δ σ H' → P a δ μ F' ρ' H'
  | .exc x δ μ => ∀ c d H' F' ρ', Le Z F F' → LeR Z ρ ρ' → Sim X.K X.mg Z F' ρ' μ δ σ H' → ExcR X.K X.mg F' ρ' c d x → W c d σ H'
  | .bad => False
end
section
variable {X : Cx} {W : WX} {Z F F1 : Hp} {ρ ρ1 : List Addr} {σ : St} {α β : Type}
theorem FinE.mono {P : α → Loc → Mem → Hp → List Addr → Hp → Prop} {r : Out α} (h : FinE X W Z F ρ σ P r) (l : Le Z F F1) (lr : LeR Z ρ ρ1) : FinE X W Z F1 ρ1 σ P r := by
  cases r with
  | ok a δ μ => exact fun H' F' ρ' l' lr' S => h H' F' ρ' (l.trans l') (lr.trans lr') S
  | exc x δ μ => exact fun c d H' F' ρ' l' lr' S e => h c d H' F' ρ' (l.trans l') (lr.trans lr') S e
  | bad => exact h
theorem FinE.bind {P : β → Loc → Mem → Hp → List Addr → Hp → Prop} {r : Out α} {f : α → Loc → Mem → Out β} (h : FinE X W Z F ρ σ P (r.bind f)) :
    FinE X W Z F ρ σ (fun a δ μ F' ρ' H' => Sim X.K X.mg Z F' ρ' μ δ σ H' ∧ Le Z F F' ∧ LeR Z ρ ρ' ∧ FinE X W Z F' ρ' σ P (f a δ μ)) r := by
  cases r with
  | ok a δ μ => exact fun H' F' ρ' l lr S => ⟨S, l, lr, h.mono l lr⟩
  | exc x δ μ => exact h
  | bad => exact h
theorem FinE.imp {P P' : α → Loc → Mem → Hp → List Addr → Hp → Prop} {r : Out α} (h : FinE X W Z F ρ σ P r)
    (hp : ∀ a δ μ H' F' ρ', Le Z F F' → LeR Z ρ ρ' → Sim X.K X.mg Z F' ρ' μ δ σ H' → P a δ μ F' ρ' H' → P' a δ μ F' ρ' H') : FinE X W Z F ρ σ P' r := by
  cases r with
  | ok a δ μ => exact fun H' F' ρ' l lr S => hp a δ μ H' F' ρ' l lr S (h H' F' ρ' l lr S)
  | exc x δ μ => exact h
  | bad => exact h
end

theorem _root_.L2.PE.imp {X : Cx} {e : Expr} {t t' : TE} (h : PE X e t) (hi : ∀ σ H Q, t' σ H Q → t σ H Q) : PE X e t' := ⟨fun pins s σ H Q I q => h.run pins s σ H Q I (hi σ H Q q)⟩
theorem _root_.L2.PT.imp {X : Cx} {e : Expr} {t t' : TT} (h : PT X e t) (hi : ∀ σ H Q, t' σ H Q → t σ H Q) : PT X e t' := ⟨fun pins s σ H Q I q => h.run pins s σ H Q I (hi σ H Q q)⟩
theorem _root_.L2.PW.imp {X : Cx} {e : Expr} {t t' : TT} (h : PW X e t) (hi : ∀ σ H Q, t' σ H Q → t σ H Q) : PW X e t' := ⟨fun wh pins s σ H Q I q => h.run wh pins s σ H Q I (hi σ H Q q)⟩
theorem _root_.L2.PA.imp {X : Cx} {e : List Expr} {t t' : TA} (h : PA X e t) (hi : ∀ σ H Q, t' σ H Q → t σ H Q) : PA X e t' := ⟨fun pos pins s σ H Q I q => h.run pos pins s σ H Q I (hi σ H Q q)⟩

/-! ### the readings -/
section
variable (X : Cx) (W : WX)
/-- an expression that gives a value, perhaps an owned one -/
def rdE (m : ME) : TE := fun σ H Q => ∃ Z F ρ μ δ, Sim X.K X.mg Z F ρ μ δ σ H ∧
  FinE X W Z F ρ σ (fun s δ' _ F' ρ' H' => ∀ v, VR X.K X.mg Z F' ρ' δ' σ H' v s → Q v H') (m δ μ)
def rdT (m : MT) : TT := fun σ H Q => ∃ Z F ρ μ δ, Sim X.K X.mg Z F ρ μ δ σ H ∧ FinE X W Z F ρ σ (fun b _ _ _ _ H' => Q b H') (m δ μ)
end
abbrev JE (X : Cx) (W : WX) (e : Expr) (m : ME) : Prop := PE X e (rdE X W m)
abbrev JT (X : Cx) (W : WX) (e : Expr) (m : MT) : Prop := PT X e (rdT X W m)

/-- an operand: an expression, or a variable that is looked at where it stands -/
inductive Opn where
  | e (m : ME) | v (i : Nat)
inductive OR where
  | d (d : D) | i (i : Nat)
def Opn.ev : Opn → MM OR
  | .e m => fun δ μ => (m δ μ).bind fun s δ1 μ1 => .ok (.d s.d) δ1 μ1
  | .v i => fun δ μ => match δ[i]? with
    | some (some _) => .ok (.i i) δ μ
    | _ => .bad
/-- a shared object is looked into -/
def look (μ : Mem) : D → Option D
  | .obj k => (μ[k]?).map Own.d
  | d => some d
def OR.at (δ : Loc) (μ : Mem) : OR → Option D
  | .d x => look μ x
  | .i j => match δ[j]? with
    | some (some s) => look μ s.d
    | _ => none
section
variable (K : PySem.W.Frag) (mg : Str → Option Value)
def OrR (F : Hp) (ρ : List Addr) (σ : St) (v : V) : OR → Prop
  | .d x => Rep K mg F ρ v x
  | .i j => σ[j]? = some (some v)
/-- v stands for d now -/
inductive Bor (F : Hp) (ρ : List Addr) (H : Hp) : V → D → Prop where
  | fr {v d} (h : Rep K mg F ρ v d) : Bor F ρ H v d
  | own {p o} (h : OwnR K mg F ρ H p o) : Bor F ρ H (.ref p) o.d
inductive BorL (F : Hp) (ρ : List Addr) (H : Hp) : List V → List D → Prop where
  | nil : BorL F ρ H [] []
  | cons {v d vs ds} (h : Bor K mg F ρ H v d) (t : BorL F ρ H vs ds) : BorL F ρ H (v :: vs) (d :: ds)
inductive OrRs (F : Hp) (ρ : List Addr) (σ : St) : List V → List OR → Prop where
  | nil : OrRs F ρ σ [] []
  | cons {v d vs ds} (h : OrR K mg F ρ σ v d) (t : OrRs F ρ σ vs ds) : OrRs F ρ σ (v :: vs) (d :: ds)
end
def OR.ats (δ : Loc) (μ : Mem) : List OR → Option (List D)
  | [] => some []
  | r :: rs => match r.at δ μ, OR.ats δ μ rs with
    | some x, some xs => some (x :: xs)
    | _, _ => none
section
variable {K : PySem.W.Frag} {mg : Str → Option Value} {Z F F' : Hp} {ρ ρ' : List Addr} {μ : Mem} {δ : Loc} {σ : St} {H H' : Hp} {v : V} {d : D}
theorem OrR.up {r : OR} (h : OrR K mg F ρ σ v r) (l : Le Z F F') (lr : LeR Z ρ ρ') : OrR K mg F' ρ' σ v r := by
  cases r with
  | d x => exact Rep.up l.to lr.to h
  | i j => exact h
theorem OrRs.up {vs : List V} {rs : List OR} (h : OrRs K mg F ρ σ vs rs) (l : Le Z F F') (lr : LeR Z ρ ρ') : OrRs K mg F' ρ' σ vs rs := by
  induction h with
  | nil => exact .nil
  | cons h t ih => exact .cons (h.up l lr) ih
theorem look_flat {d d' : D} (e : look μ d = some d') : (∃ k c, d = .obj k ∧ μ[k]? = some c ∧ d' = c.d) ∨ d' = d := by
  cases d <;> first
    | (right; have e' := e; unfold look at e'; exact (Option.some.inj e').symm)
    | (rename_i k
       left
       unfold look at e
       obtain ⟨c, e1, e2⟩ := Option.map_eq_some_iff.mp e
       exact ⟨k, c, rfl, e1, e2.symm⟩)
theorem Rep.seen (S : Sim K mg Z F ρ μ δ σ H) {d' : D} (h : Rep K mg F ρ v d) (e : look μ d = some d') : Bor K mg F ρ H v d' := by
  rcases look_flat e with ⟨k, c, rfl, hc, rfl⟩ | rfl
  · cases h with
    | obj hp =>
      obtain ⟨a, ea, _, _, r⟩ := S.mem k c hc
      rw [hp] at ea; cases ea
      exact .own r
  · exact .fr h
theorem OrR.bor {r : OR} (S : Sim K mg Z F ρ μ δ σ H) (h : OrR K mg F ρ σ v r) (e : r.at δ μ = some d) : Bor K mg F ρ H v d := by
  cases r with
  | d d' => exact Rep.seen S h e
  | i i =>
    have h' : σ[i]? = some (some v) := h
    have e : (match δ[i]? with | some (some s) => look μ s.d | _ => none) = some d := e
    cases q : δ[i]? with
    | none => rw [q] at e; cases e
    | some o =>
      cases o with
      | none => rw [q] at e; cases e
      | some s =>
        rw [q] at e
        have e' : look μ s.d = some d := e
        obtain ⟨w, ew, r⟩ := S.slot i s q
        rw [h'] at ew
        cases ew
        cases s with
        | fr d => exact Rep.seen S r e'
        | own o =>
          obtain ⟨p, ep, _, r⟩ := r
          subst ep
          have e2 : look μ o.d = some o.d := by cases o <;> rfl
          have e3 : some d = some o.d := e'.symm.trans e2
          cases e3
          exact .own r
theorem OrRs.bor (S : Sim K mg Z F ρ μ δ σ H) : ∀ {vs : List V} {rs : List OR} {ds : List D}, OrRs K mg F ρ σ vs rs → OR.ats δ μ rs = some ds → BorL K mg F ρ H vs ds := by
  intro vs rs ds h
  induction h generalizing ds with
  | nil =>
    intro e
    have e' : some ([] : List D) = some ds := e
    cases e'
    exact .nil
  | @cons v r vs rs h t ih =>
    intro e
    unfold OR.ats at e
    cases q1 : r.at δ μ with
    | none => rw [q1] at e; cases e
    | some d =>
      cases q2 : OR.ats δ μ rs with
      | none => rw [q1, q2] at e; cases e
      | some dr =>
        rw [q1, q2] at e
        have e' : some (d :: dr) = some ds := e
        cases e'
        exact .cons (h.bor S q1) (ih q2)
/-- what a list is -/
theorem Bor.lst (S : Sim K mg Z F ρ μ δ σ H) {ds : List D} (h : Bor K mg F ρ H v (.lst ds)) : ∃ p vs, v = .ref p ∧ H p = some (.lst vs) ∧ RepL K mg F ρ vs ds := by
  generalize e : D.lst ds = d at h
  cases h with
  | fr h =>
    subst e
    cases h with
    | lst h r =>
      refine ⟨_, _, rfl, ?_, r⟩
      rcases S.le _ _ h with q | ⟨ob, kvs, e, q⟩
      · exact q
      · cases e
  | @own p o h =>
    cases o with
    | lst xs =>
      cases e
      obtain ⟨vs, e, r⟩ := h
      exact ⟨p, vs, rfl, e, r⟩
    | dct ks xs => cases e
    | tab P q => cases e
    | ins c kd ks xs => cases e
    | idc k => cases e
theorem Bor.tup (S : Sim K mg Z F ρ μ δ σ H) {ds : List D} (h : Bor K mg F ρ H v (.tup ds)) : ∃ p vs, v = .ref p ∧ SqT K H p vs ∧ RepL K mg F ρ vs ds := by
  generalize e : D.tup ds = d at h
  cases h with
  | fr h =>
    subst e
    cases h with
    | tup h r => exact ⟨_, _, rfl, h.elim (fun h => .inl (S.rd h)) .inr, r⟩
  | @own p o h => cases o <;> cases e
theorem Bor.ro (S : Sim K mg Z F ρ μ δ σ H) {ds : List D} (h : Bor K mg F ρ H v (.ro ds)) : ∃ p vs, v = .ref p ∧ SqL K H p vs ∧ RepL K mg F ρ vs ds := by
  generalize e : D.ro ds = d at h
  cases h with
  | fr h =>
    subst e
    cases h with
    | ro h r => exact ⟨_, _, rfl, h.elim (fun h => .inl (S.rd h)) .inr, r⟩
  | @own p o h => cases o <;> cases e
theorem Bor.dct (S : Sim K mg Z F ρ μ δ σ H) {ks : List DK} {ds : List D} (h : Bor K mg F ρ H v (.dct ks ds)) : ∃ p vs, v = .ref p ∧ Rd H p (.dK ((ks.map DK.key).zip vs)) ∧ ks.length = vs.length ∧ RepL K mg F ρ vs ds := by
  generalize e : D.dct ks ds = d at h
  cases h with
  | fr h =>
    subst e
    cases h with
    | dct h l r => exact ⟨_, _, rfl, S.rd h, l, r⟩
  | @own p o h =>
    cases o with
    | lst xs => cases e
    | dct ks xs =>
      cases e
      obtain ⟨vs, e, n, r⟩ := h
      exact ⟨p, vs, rfl, .inl e, n, r⟩
    | tab P q => cases e
    | ins c kd ks xs => cases e
    | idc k => cases e
theorem Bor.rep (h : Bor K mg F ρ H v d) (n : ∀ o, d ≠ Own.d o) : Rep K mg F ρ v d := by
  cases h with
  | fr h => exact h
  | own h => exact absurd rfl (n _)
theorem Bor.int {i : Int} (h : Bor K mg F ρ H v (.int i)) : v = .int i := by
  cases h.rep (fun o e => by cases o <;> cases e); rfl
theorem Bor.bl {i : Bool} (h : Bor K mg F ρ H v (.bl i)) : v = .bl i := by
  cases h.rep (fun o e => by cases o <;> cases e); rfl
theorem Bor.str {i : Tx} (h : Bor K mg F ρ H v (.str i)) : v = .str (toS i) := by
  cases h.rep (fun o e => by cases o <;> cases e); rfl
theorem Bor.non (h : Bor K mg F ρ H v .non) : v = .non := by
  cases h.rep (fun o e => by cases o <;> cases e); rfl
end

section
variable (X : Cx) (W : WX)
def rdO (m : Opn) : TE := fun σ H Q => ∃ Z F ρ μ δ, Sim X.K X.mg Z F ρ μ δ σ H ∧
  FinE X W Z F ρ σ (fun r _ _ F' ρ' H' => ∀ v, OrR X.K X.mg F' ρ' σ v r → Q v H') (m.ev δ μ)
def evs : List Opn → MM (List OR)
  | [] => fun δ μ => .ok [] δ μ
  | o :: os => fun δ μ => (o.ev δ μ).bind fun r δ1 μ1 => (evs os δ1 μ1).bind fun rs δ2 μ2 => .ok (r :: rs) δ2 μ2
def rdOs (m : List Opn) : TA := fun σ H Q => ∃ Z F ρ μ δ, Sim X.K X.mg Z F ρ μ δ σ H ∧
  FinE X W Z F ρ σ (fun rs _ _ F' ρ' H' => ∀ vs, OrRs X.K X.mg F' ρ' σ vs rs → Q vs H') (evs m δ μ)
/-- arguments that are kept by whom they are given: locked -/
def evA : List ME → MM (List D)
  | [] => fun δ μ => .ok [] δ μ
  | m :: ms => fun δ μ => (m δ μ).bind fun s δ1 μ1 => (evA ms δ1 μ1).bind fun ds δ2 μ2 => .ok (s.d :: ds) δ2 μ2
def rdA (m : List ME) : TA := fun σ H Q => ∃ Z F ρ μ δ, Sim X.K X.mg Z F ρ μ δ σ H ∧
  FinE X W Z F ρ σ (fun ds _ _ F' ρ' H' => ∀ vs, RepL X.K X.mg F' ρ' vs ds → Q vs H') (evA m δ μ)
end
abbrev JO (X : Cx) (W : WX) (e : Expr) (m : Opn) : Prop := PE X e (rdO X W m)
abbrev JOs (X : Cx) (W : WX) (e : List Expr) (m : List Opn) : Prop := PA X e (rdOs X W m)
abbrev JA (X : Cx) (W : WX) (e : List Expr) (m : List ME) : Prop := PA X e (rdA X W m)

section
variable {X : Cx} {W : WX} {e a b : Expr} {es : List Expr} {pos : Pos}
/-- an expression, its value locked -/
theorem JE.locked {m : ME} (h : JE X W e m) : PE X e (fun σ H Q => ∃ Z F ρ μ δ, Sim X.K X.mg Z F ρ μ δ σ H ∧
    FinE X W Z F ρ σ (fun s δ' μ' F' ρ' H' => ∀ v, Rep X.K X.mg F' ρ' v s.d → Q v H') (m δ μ)) := by
  refine h.imp fun σ H Q ⟨Z, F, ρ, μ, δ, S, q⟩ => ⟨Z, F, ρ, μ, δ, S, ?_⟩
  cases r : m δ μ with
  | ok s δ' μ' =>
    rw [r] at q
    refine fun H' F' ρ' l lr S' v vr => ?_
    obtain ⟨F2, l2, S2, rep⟩ := S'.lock vr
    exact q H' F2 ρ' (l.trans l2) lr S2 v rep
  | exc x δ' μ' => rw [r] at q; exact q
  | bad => rw [r] at q; exact q
theorem jo_e {m : ME} (h : JE X W e m) : JO X W e (.e m) := by
  refine PE.imp h.locked fun σ H Q ⟨Z, F, ρ, μ, δ, S, q⟩ => ⟨Z, F, ρ, μ, δ, S, ?_⟩
  have q' : FinE X W Z F ρ σ (fun r _ _ F' ρ' H' => ∀ v, OrR X.K X.mg F' ρ' σ v r → Q v H') ((m δ μ).bind fun s δ1 μ1 => .ok (.d s.d) δ1 μ1) := q
  refine q'.bind.imp fun s δ' μ' H' F' ρ' l lr S' ⟨S2, l2, lr2, p⟩ v r => ?_
  exact p H' F' ρ' .refl .refl S2 v r
theorem jo_v {i : Nat} (h : PE X e (tVar i)) : JO X W e (.v i) := by
  refine h.imp fun σ H Q ⟨Z, F, ρ, μ, δ, S, q⟩ => ?_
  unfold Opn.ev at q
  cases e1 : δ[i]? with
  | none => simp only [e1] at q; exact q.elim
  | some o =>
    cases o with
    | none => simp only [e1] at q; exact q.elim
    | some s =>
      simp only [e1] at q
      obtain ⟨v, ev, _⟩ := S.slot i s e1
      exact ⟨v, ev, q H F ρ .refl .refl S v ev⟩
theorem jos_nil : JOs X W [] [] := pa_nil.imp fun σ H Q ⟨Z, F, ρ, μ, δ, S, q⟩ => q H F ρ .refl .refl S [] .nil
theorem jos_cons {o : Opn} {os : List Opn} (h : JO X W e o) (t : JOs X W es os) (hs : starEach (e :: es) X.env = (false, eval e X.env) :: starEach es X.env := by rfl) : JOs X W (e :: es) (o :: os) := by
  refine (pa_cons h t hs).imp fun σ H Q ⟨Z, F, ρ, μ, δ, S, q⟩ => ?_
  have q' : FinE X W Z F ρ σ (fun rs _ _ F' ρ' H' => ∀ vs, OrRs X.K X.mg F' ρ' σ vs rs → Q vs H') ((o.ev δ μ).bind fun r δ1 μ1 => (evs os δ1 μ1).bind fun rs δ2 μ2 => .ok (r :: rs) δ2 μ2) := q
  refine ⟨Z, F, ρ, μ, δ, S, q'.bind.imp fun r δ1 μ1 H1 F1 ρ1 l lr S1 ⟨_, _, _, p⟩ v hv => ?_⟩
  refine ⟨Z, F1, ρ1, μ1, δ1, S1, p.bind.imp fun rs δ2 μ2 H2 F2 ρ2 l2 lr2 S2 ⟨_, _, _, p2⟩ vs hvs => ?_⟩
  exact p2 H2 F2 ρ2 .refl .refl S2 (v :: vs) (.cons (hv.up l2 lr2) hvs)
theorem ja_nil : JA X W [] [] := pa_nil.imp fun σ H Q ⟨Z, F, ρ, μ, δ, S, q⟩ => q H F ρ .refl .refl S [] .nil
theorem ja_cons {m : ME} {ms : List ME} (h : JE X W e m) (t : JA X W es ms) (hs : starEach (e :: es) X.env = (false, eval e X.env) :: starEach es X.env := by rfl) : JA X W (e :: es) (m :: ms) := by
  refine (pa_cons h.locked t hs).imp fun σ H Q ⟨Z, F, ρ, μ, δ, S, q⟩ => ?_
  have q' : FinE X W Z F ρ σ (fun ds _ _ F' ρ' H' => ∀ vs, RepL X.K X.mg F' ρ' vs ds → Q vs H') ((m δ μ).bind fun s δ1 μ1 => (evA ms δ1 μ1).bind fun ds δ2 μ2 => .ok (s.d :: ds) δ2 μ2) := q
  refine ⟨Z, F, ρ, μ, δ, S, q'.bind.imp fun s δ1 μ1 H1 F1 ρ1 l lr S1 ⟨_, _, _, p⟩ v hv => ?_⟩
  refine ⟨Z, F1, ρ1, μ1, δ1, S1, p.bind.imp fun ds δ2 μ2 H2 F2 ρ2 l2 lr2 S2 ⟨_, _, _, p2⟩ vs hvs => ?_⟩
  exact p2 H2 F2 ρ2 .refl .refl S2 (v :: vs) (.cons (hv.up l2.to lr2.to) hvs)

/-! ### names and constants -/
def mD (d : D) : ME := fun δ μ => .ok (.fr d) δ μ
theorem je_c {v : V} {d : D} (h : PE X e (tC v)) (r : ∀ F ρ, Rep X.K X.mg F ρ v d) : JE X W e (mD d) :=
  h.imp fun σ H Q ⟨Z, F, ρ, μ, δ, S, q⟩ => q H F ρ .refl .refl S v ⟨r F ρ, fun o p z => by cases z⟩
theorem je_int {i j} : JE X W (.Constant (.int i) j pos) (mD (.int i)) := je_c pe_int fun _ _ => .int
theorem je_bl {b j} : JE X W (.Constant (.bool b) j pos) (mD (.bl b)) := je_c pe_bl fun _ _ => .bl
theorem je_non {j} : JE X W (.Constant .none j pos) (mD .non) := je_c pe_non fun _ _ => .non
theorem je_str {x j} : JE X W (.Constant (.str (Str.ofString x)) j pos) (mD (.str (lit x))) := je_c pe_str fun _ _ => by rw [ofS_lit]; exact .str
/-- a variable, its value given away: locked -/
def mV (i : Nat) : ME := fun δ μ => match δ[i]? with
  | some (some s) => .ok (.fr s.d) (δ.set i (some (.fr s.d))) μ
  | _ => .bad
theorem je_v {i : Nat} (h : PE X e (tVar i)) : JE X W e (mV i) := by
  refine h.imp fun σ H Q ⟨Z, F, ρ, μ, δ, S, q⟩ => ?_
  unfold mV at q
  cases e1 : δ[i]? with
  | none => simp only [e1] at q; exact q.elim
  | some o =>
    cases o with
    | none => simp only [e1] at q; exact q.elim
    | some s =>
      simp only [e1] at q
      obtain ⟨F', v, l, ev, S', r⟩ := S.lockAt e1
      exact ⟨v, ev, q H F' ρ l .refl S' v ⟨r, fun o p z => by cases z⟩⟩
/-- a name of the module: a constant told as data -/
theorem je_glo {x : String} {u : Value} {v : V} {p : Pos} (hg : Gl X (Str.ofString x)) (hm : X.mg (Str.ofString x) = some u) (r : RelV v u) (hd : (Str.ofString x == ("__debug__" : Str)) = false := by decide +kernel) : JE X W (.Name (Str.ofString x) p) (mD (.glo x)) :=
  je_c (pe_glob hg hm r hd) fun _ _ => .glo hm r
theorem je_mod {x : Str} {u : Value} {v : V} {d : D} {p : Pos} (hg : Gl X x) (hm : X.mg x = some u) (r : RelV v u) (hr : ∀ F ρ, Rep X.K X.mg F ρ v d) (hd : (x == ("__debug__" : Str)) = false := by decide +kernel) : JE X W (.Name x p) (mD d) :=
  je_c (pe_glob hg hm r hd) hr

/-! ### operators by values -/
/-- the rule r does what g says -/
def R2J (X : Cx) (r : R2) (g : D → D → Option Slot) : Prop := ∀ Z F ρ μ δ σ H x y dx dy s Q, Sim X.K X.mg Z F ρ μ δ σ H → Bor X.K X.mg F ρ H x dx → Bor X.K X.mg F ρ H y dy → g dx dy = some s →
  (∀ v H' F', Le Z F F' → Sim X.K X.mg Z F' ρ μ δ σ H' → VR X.K X.mg Z F' ρ δ σ H' v s → Q v H') → r x y H Q
def m2 (g : D → D → Option Slot) (oa ob : Opn) : ME := fun δ μ => (oa.ev δ μ).bind fun ra δ1 μ1 => (ob.ev δ1 μ1).bind fun rb δ2 μ2 =>
  match ra.at δ2 μ2, rb.at δ2 μ2 with
  | some da, some db => lift (g da db) δ2 μ2
  | _, _ => .bad
theorem m2_read {r : R2} {g : D → D → Option Slot} {oa ob : Opn} (hr : R2J X r g) : ∀ σ H Q, rdE X W (m2 g oa ob) σ H Q → tOp r (rdO X W oa) (rdO X W ob) σ H Q := by
  intro σ H Q ⟨Z, F, ρ, μ, δ, S, q⟩
  refine ⟨Z, F, ρ, μ, δ, S, (FinE.bind q).imp fun ra δ1 μ1 H1 F1 ρ1 l lr S1 ⟨_, _, _, p⟩ x hx => ?_⟩
  refine ⟨Z, F1, ρ1, μ1, δ1, S1, p.bind.imp fun rb δ2 μ2 H2 F2 ρ2 l2 lr2 S2 ⟨_, _, _, p2⟩ y hy => ?_⟩
  cases ea : ra.at δ2 μ2 with
  | none => rw [ea] at p2; exact p2.elim
  | some da =>
    cases eb : rb.at δ2 μ2 with
    | none => rw [ea, eb] at p2; exact p2.elim
    | some db =>
      rw [ea, eb] at p2
      unfold lift at p2
      cases eg : g da db with
      | none => simp only [eg] at p2; exact p2.elim
      | some s =>
        simp only [eg] at p2
        exact hr Z F2 ρ2 μ2 δ2 σ H2 x y da db s Q S2 ((hx.up l2 lr2).bor S2 ea) (hy.bor S2 eb) eg fun v H' F' l' S' vr => p2 H' F' ρ2 l' .refl S' v vr
theorem je_bin {op : Operator} {r : R2} {g : D → D → Option Slot} {oa ob : Opn} (ho : OpR X (binaryOp op) r) (hr : R2J X r g) (ha : JO X W a oa) (hb : JO X W b ob) : JE X W (.BinOp a op b pos) (m2 g oa ob) :=
  (pe_op ho ha hb).imp (m2_read hr)
theorem je_cmp {op : CmpOp} {r : R2} {g : D → D → Option Slot} {oa ob : Opn} (ho : OpR X (compareOp op) r) (hr : R2J X r g) (ha : JO X W a oa) (hb : JO X W b ob) (hm : behindInMarks op b = false) : JE X W (.Compare a [op] [b] pos) (m2 g oa ob) :=
  (pe_cmpR ho ha hb hm).imp (m2_read hr)
theorem je_ix {r : R2} {g : D → D → Option Slot} {oa ob : Opn} (ho : IxR X r) (hr : R2J X r g) (ha : JO X W a oa) (hb : JO X W b ob) (hs : PlainIx b) : JE X W (.Subscript a b pos) (m2 g oa ob) :=
  (pe_ix ho ha hb hs).imp (m2_read hr)
theorem R2J.or {r r' : R2} {g g' : D → D → Option Slot} (h : R2J X r g) (h' : R2J X r' g') : R2J X (fun x y H Q => r x y H Q ∨ r' x y H Q) (fun x y => (g x y).or (g' x y)) := by
  intro Z F ρ μ δ σ H x y dx dy s Q S bx bY e q
  have e : (g dx dy).or (g' dx dy) = some s := e
  cases eg : g dx dy with
  | some s' => rw [eg] at e; exact .inl (h Z F ρ μ δ σ H x y dx dy s Q S bx bY (by rw [eg]; exact e) q)
  | none => rw [eg] at e; exact .inr (h' Z F ρ μ δ σ H x y dx dy s Q S bx bY e q)
/-- a test of a value that is a truth value -/
def mTb (m : ME) : MT := fun δ μ => (m δ μ).bind fun s δ1 μ1 => match s with
  | .fr (.bl b) => .ok b δ1 μ1
  | _ => .bad
theorem mTb_read {t : TE} {m : ME} (h : ∀ σ H Q, rdE X W m σ H Q → t σ H Q) : ∀ σ H Q, rdT X W (mTb m) σ H Q → t σ H fun x H' => ∃ k, x = .bl k ∧ Q k H' := by
  intro σ H Q ⟨Z, F, ρ, μ, δ, S, q⟩
  refine h σ H _ ⟨Z, F, ρ, μ, δ, S, (FinE.bind q).imp fun s δ1 μ1 H1 F1 ρ1 l lr S1 ⟨_, _, _, p⟩ v vr => ?_⟩
  cases s with
  | own o => exact p.elim
  | fr d =>
    cases d with
    | bl b =>
      cases vr.r
      exact ⟨b, rfl, p H1 F1 ρ1 .refl .refl S1⟩
    | _ => exact p.elim
theorem jt_cmp {op : CmpOp} {r : R2} {g : D → D → Option Slot} {oa ob : Opn} (ho : OpR X (compareOp op) r) (hr : R2J X r g) (ha : JO X W a oa) (hb : JO X W b ob) (hm : behindInMarks op b = false) : JT X W (.Compare a [op] [b] pos) (mTb (m2 g oa ob)) :=
  (pt_cmpR ho ha hb hm).imp (mTb_read (m2_read hr))
/-- an expression that gives a truth value, as a test -/
theorem jt_e {m : ME} (h : JE X W e m) (he : ∀ whole, isTrue e X.env whole = (do let v ← whole; standAt e.pos; holding [v] (truthy v)) := by intro _; rfl) : JT X W e (mTb m) :=
  (pt_val h he).imp (mTb_read fun _ _ _ q => q)

/-! ### and, or, not, if -/
def mNot (m : MT) : MT := fun δ μ => (m δ μ).bind fun b δ1 μ1 => .ok (!b) δ1 μ1
theorem jt_not {m : MT} (h : JT X W a m) : JT X W (.UnaryOp .Not a pos) (mNot m) := by
  refine (pt_not h).imp fun σ H Q ⟨Z, F, ρ, μ, δ, S, q⟩ => ⟨Z, F, ρ, μ, δ, S, (FinE.bind q).imp fun b δ1 μ1 H1 F1 ρ1 l lr S1 ⟨_, _, _, p⟩ => ?_⟩
  exact p H1 F1 ρ1 .refl .refl S1
abbrev JW (X : Cx) (W : WX) (e : Expr) (m : MT) : Prop := PW X e (rdT X W m)
def mAnd (m n : MT) : MT := fun δ μ => (m δ μ).bind fun b δ1 μ1 => if b = true then n δ1 μ1 else .ok false δ1 μ1
def mOr (m n : MT) : MT := fun δ μ => (m δ μ).bind fun b δ1 μ1 => if b = true then .ok true δ1 μ1 else n δ1 μ1
theorem jw_and1 {m : MT} (h : JT X W a m) : JW X W (.BoolOp .And [a] pos) m := pw_and1 h
theorem jw_or1 {m : MT} (h : JT X W a m) : JW X W (.BoolOp .Or [a] pos) m := pw_or1 h
theorem jw_and {m n : MT} {rest : List Expr} (h : JT X W a m) (t : JW X W (.BoolOp .And (b :: rest) pos) n) : JW X W (.BoolOp .And (a :: b :: rest) pos) (mAnd m n) := by
  refine (pw_and h t).imp fun σ H Q ⟨Z, F, ρ, μ, δ, S, q⟩ => ⟨Z, F, ρ, μ, δ, S, (FinE.bind q).imp fun c δ1 μ1 H1 F1 ρ1 l lr S1 ⟨_, _, _, p⟩ => ?_⟩
  cases c with
  | true => exact ⟨Z, F1, ρ1, μ1, δ1, S1, p⟩
  | false => exact p H1 F1 ρ1 .refl .refl S1
theorem jw_or {m n : MT} {rest : List Expr} (h : JT X W a m) (t : JW X W (.BoolOp .Or (b :: rest) pos) n) : JW X W (.BoolOp .Or (a :: b :: rest) pos) (mOr m n) := by
  refine (pw_or h t).imp fun σ H Q ⟨Z, F, ρ, μ, δ, S, q⟩ => ⟨Z, F, ρ, μ, δ, S, (FinE.bind q).imp fun c δ1 μ1 H1 F1 ρ1 l lr S1 ⟨_, _, _, p⟩ => ?_⟩
  cases c with
  | false => exact ⟨Z, F1, ρ1, μ1, δ1, S1, p⟩
  | true => exact p H1 F1 ρ1 .refl .refl S1
theorem jt_w {m : MT} (h : JW X W e m) : JT X W e m := h.pt
def mIf (t : MT) (m n : ME) : ME := fun δ μ => (t δ μ).bind fun b δ1 μ1 => if b = true then m δ1 μ1 else n δ1 μ1
theorem je_if {c : Expr} {t : MT} {m n : ME} (hc : JT X W c t) (ha : JE X W a m) (hb : JE X W b n) : JE X W (.IfExp c a b pos) (mIf t m n) := by
  refine (pe_ifExp hc ha hb).imp fun σ H Q ⟨Z, F, ρ, μ, δ, S, q⟩ => ⟨Z, F, ρ, μ, δ, S, (FinE.bind q).imp fun c δ1 μ1 H1 F1 ρ1 l lr S1 ⟨_, _, _, p⟩ => ?_⟩
  cases c with
  | true => exact ⟨Z, F1, ρ1, μ1, δ1, S1, p⟩
  | false => exact ⟨Z, F1, ρ1, μ1, δ1, S1, p⟩
/-- .. as values: truth values all -/
def mAndV (m n : ME) : ME := fun δ μ => (m δ μ).bind fun s δ1 μ1 => match s with
  | .fr (.bl true) => n δ1 μ1
  | .fr (.bl false) => .ok (.fr (.bl false)) δ1 μ1
  | _ => .bad
def mOrV (m n : ME) : ME := fun δ μ => (m δ μ).bind fun s δ1 μ1 => match s with
  | .fr (.bl false) => n δ1 μ1
  | .fr (.bl true) => .ok (.fr (.bl true)) δ1 μ1
  | _ => .bad
theorem VR.bl {K : PySem.W.Frag} {mg : Str → Option Value} {Z F H : Hp} {ρ : List Addr} {δ : Loc} {σ : St} {b : Bool} : VR K mg Z F ρ δ σ H (.bl b) (.fr (.bl b)) := ⟨.bl, fun o p z => by cases z⟩
theorem je_one {op} {m : ME} (h : JE X W a m) : JE X W (.BoolOp op [a] pos) m := pe_one h
theorem je_and {m n : ME} {rest : List Expr} (h : JE X W a m) (t : JE X W (.BoolOp .And (b :: rest) pos) n) : JE X W (.BoolOp .And (a :: b :: rest) pos) (mAndV m n) := by
  refine (pe_and h t).imp fun σ H Q ⟨Z, F, ρ, μ, δ, S, q⟩ => ⟨Z, F, ρ, μ, δ, S, (FinE.bind q).imp fun s δ1 μ1 H1 F1 ρ1 l lr S1 ⟨_, _, _, p⟩ v vr => ?_⟩
  cases s with
  | own o => exact p.elim
  | fr d =>
    cases d with
    | bl b =>
      cases vr.r
      refine ⟨b, rfl, ?_⟩
      cases b with
      | true => exact ⟨Z, F1, ρ1, μ1, δ1, S1, p⟩
      | false => exact p H1 F1 ρ1 .refl .refl S1 _ .bl
    | _ => exact p.elim
theorem je_or {m n : ME} {rest : List Expr} (h : JE X W a m) (t : JE X W (.BoolOp .Or (b :: rest) pos) n) : JE X W (.BoolOp .Or (a :: b :: rest) pos) (mOrV m n) := by
  refine (pe_or h t).imp fun σ H Q ⟨Z, F, ρ, μ, δ, S, q⟩ => ⟨Z, F, ρ, μ, δ, S, (FinE.bind q).imp fun s δ1 μ1 H1 F1 ρ1 l lr S1 ⟨_, _, _, p⟩ v vr => ?_⟩
  cases s with
  | own o => exact p.elim
  | fr d =>
    cases d with
    | bl b =>
      cases vr.r
      refine ⟨b, rfl, ?_⟩
      cases b with
      | false => exact ⟨Z, F1, ρ1, μ1, δ1, S1, p⟩
      | true => exact p H1 F1 ρ1 .refl .refl S1 _ .bl
    | _ => exact p.elim
def mNotV (m : ME) : ME := fun δ μ => (m δ μ).bind fun s δ1 μ1 => match s with
  | .fr (.bl b) => .ok (.fr (.bl (!b))) δ1 μ1
  | _ => .bad
theorem je_not {m : ME} (h : JE X W a m) : JE X W (.UnaryOp .Not a pos) (mNotV m) := by
  refine (pe_not h).imp fun σ H Q ⟨Z, F, ρ, μ, δ, S, q⟩ => ⟨Z, F, ρ, μ, δ, S, (FinE.bind q).imp fun s δ1 μ1 H1 F1 ρ1 l lr S1 ⟨_, _, _, p⟩ v vr => ?_⟩
  cases s with
  | own o => exact p.elim
  | fr d =>
    cases d with
    | bl b =>
      cases vr.r
      exact ⟨b, rfl, p H1 F1 ρ1 .refl .refl S1 _ .bl⟩
    | _ => exact p.elim

/-! ### displays -/
def mTup (ms : List ME) : ME := fun δ μ => (evA ms δ μ).bind fun ds δ1 μ1 => if ds.length ≤ 16777216 then .ok (.fr (.tup ds)) δ1 μ1 else .bad
def mLst (ms : List ME) : ME := fun δ μ => (evA ms δ μ).bind fun ds δ1 μ1 => if ds.length ≤ 16777216 then .ok (.own (.lst ds)) δ1 μ1 else .bad
theorem je_tup {k} {ms : List ME} (h : JA X W es ms) : JE X W (.Tuple es k pos) (mTup ms) := by
  refine (pe_tup h).imp fun σ H Q ⟨Z, F, ρ, μ, δ, S, q⟩ => ⟨Z, F, ρ, μ, δ, S, (FinE.bind q).imp fun ds δ1 μ1 H1 F1 ρ1 l lr S1 ⟨_, _, _, p⟩ vs hv => ?_⟩
  by_cases hz : ds.length ≤ 16777216
  · rw [if_pos hz] at p
    refine ⟨by rw [hv.len, sizeLine_eq]; exact hz, fun a ha => ?_⟩
    obtain ⟨n1, n2, n3, n4⟩ := S1.notIn ha
    have S2 := S1.laid (o := .tup vs) ha
    obtain ⟨l3, S3⟩ := S2.freeze (p := a) upd_same ⟨n1, n2, n3⟩ n4
    exact p _ _ ρ1 l3 .refl S3 _ ⟨.tup (.inl (.inl upd_same)) (hv.up l3.to fun _ _ h => h), fun o p z => by cases z⟩
  · rw [if_neg hz] at p; exact p.elim
theorem je_lst {ms : List ME} (h : JA X W es ms) : JE X W (.List es pos) (mLst ms) := by
  refine (pe_lst h).imp fun σ H Q ⟨Z, F, ρ, μ, δ, S, q⟩ => ⟨Z, F, ρ, μ, δ, S, (FinE.bind q).imp fun ds δ1 μ1 H1 F1 ρ1 l lr S1 ⟨_, _, _, p⟩ vs hv => ?_⟩
  by_cases hz : ds.length ≤ 16777216
  · rw [if_pos hz] at p
    refine ⟨by rw [hv.len, sizeLine_eq]; exact hz, fun a ha => ?_⟩
    obtain ⟨n1, n2, n3, n4⟩ := S1.notIn ha
    exact p _ F1 ρ1 .refl .refl (S1.laid ha) _ ⟨⟨a, rfl, ⟨n1, n2, n3⟩, vs, upd_same, hv⟩, fun o p z z2 => by cases z2; exact n4⟩
  · rw [if_neg hz] at p; exact p.elim
/-- an owned thing is made a shared object -/
def mShare (m : ME) : ME := fun δ μ => (m δ μ).bind fun s δ1 μ1 => match s with
  | .own o => .ok (.fr (.obj μ1.length)) δ1 (μ1 ++ [o])
  | _ => .bad
theorem je_share {m : ME} (h : JE X W e m) : JE X W e (mShare m) := by
  refine h.imp fun σ H Q ⟨Z, F, ρ, μ, δ, S, q⟩ => ⟨Z, F, ρ, μ, δ, S, (FinE.bind q).imp fun s δ1 μ1 H1 F1 ρ1 l lr S1 ⟨_, _, _, p⟩ v vr => ?_⟩
  cases s with
  | fr d => exact p.elim
  | own o =>
    obtain ⟨a, ea, lr2, S2, rp⟩ := S1.share vr
    exact p H1 F1 _ .refl lr2 S2 v ⟨rp, fun o p z => by cases z⟩
end
end FL

/-! Part C: operators, built-in functions and methods by values. -/
namespace FL
open PySem L2

theorem line_eq : sizeLine = 16777216 := sizeLine_eq
section
variable {X : Cx} {W : WX} {e a b : Expr} {es : List Expr} {pos : Pos}
/-! ### whole numbers -/
def gInt (c : Int → Int → Bool) (f : Int → Int → D) : D → D → Option Slot
  | .int i, .int j => if c i j = true then some (.fr (f i j)) else none
  | _, _ => none
theorem r2_flat {r : R2} {g : D → D → Option Slot} (h : ∀ F ρ H x y dx dy s Q, Bor X.K X.mg F ρ H x dx → Bor X.K X.mg F ρ H y dy → g dx dy = some s → ∃ v, (Q v H → r x y H Q) ∧ ∃ d, s = .fr d ∧ ∀ F' ρ', Rep X.K X.mg F' ρ' v d) : R2J X r g := by
  intro Z F ρ μ δ σ H x y dx dy s Q S bx bY e q
  obtain ⟨v, h1, d, rfl, h2⟩ := h F ρ H x y dx dy s Q bx bY e
  exact h1 (q v H F .refl S ⟨h2 F ρ, fun o p z => by cases z⟩)
theorem r2_int {C : Int → Int → Prop} {c : Int → Int → Bool} {f : Int → Int → Int} (h : ∀ i j, c i j = true → C i j) : R2J X (rI C fun i j => .int (f i j)) (gInt c fun i j => .int (f i j)) := by
  refine r2_flat fun F ρ H x y dx dy s Q bx bY e => ?_
  unfold gInt at e
  cases dx <;> cases dy <;> first | (cases e; done) | skip
  rename_i i j
  cases bx.int
  cases bY.int
  by_cases hc : c i j = true
  · simp only [hc, if_true] at e
    cases e
    exact ⟨.int (f i j), fun q => ⟨i, j, rfl, rfl, h i j hc, q⟩, _, rfl, fun _ _ => .int⟩
  · simp only [hc] at e
    cases e
theorem r2_int0 {f : Int → Int → Int} : R2J X (rI0 fun i j => .int (f i j)) (gInt (fun _ _ => true) fun i j => .int (f i j)) := by
  refine r2_flat fun F ρ H x y dx dy s Q bx bY e => ?_
  unfold gInt at e
  cases dx <;> cases dy <;> first | (cases e; done) | skip
  rename_i i j
  cases bx.int
  cases bY.int
  simp only [if_true] at e
  cases e
  exact ⟨.int (f i j), fun q => ⟨i, j, rfl, rfl, q⟩, _, rfl, fun _ _ => .int⟩
theorem r2_intB {f : Int → Int → Bool} : R2J X (rI0 fun i j => .bl (f i j)) (gInt (fun _ _ => true) fun i j => .bl (f i j)) := by
  refine r2_flat fun F ρ H x y dx dy s Q bx bY e => ?_
  unfold gInt at e
  cases dx <;> cases dy <;> first | (cases e; done) | skip
  rename_i i j
  cases bx.int
  cases bY.int
  simp only [if_true] at e
  cases e
  exact ⟨.bl (f i j), fun q => ⟨i, j, rfl, rfl, q⟩, _, rfl, fun _ _ => .bl⟩
abbrev gSub : D → D → Option Slot := gInt (fun _ _ => true) fun i j => .int (i - j)
abbrev gMul : D → D → Option Slot := gInt (fun i j => decide (i.natAbs.log2 + j.natAbs.log2 < 1000000)) fun i j => .int (i * j)
abbrev gDiv : D → D → Option Slot := gInt (fun _ j => decide (0 < j) && decide (j.natAbs.log2 < 9000)) fun i j => .int (i / j)
abbrev gMod : D → D → Option Slot := gInt (fun _ j => decide (0 < j)) fun i j => .int (i % j)
abbrev gPow : D → D → Option Slot := gInt (fun i j => decide (0 ≤ j) && decide (j ≤ 1000000) && decide (i.natAbs < 2 ^ 64)) fun i j => .int (i ^ j.toNat)
abbrev gShl : D → D → Option Slot := gInt (fun i j => decide (0 ≤ j) && decide (j ≤ 1000000) && decide (i.natAbs < 2 ^ 64)) fun i j => .int (i * 2 ^ j.toNat)
theorem o_sub : OpR X (binaryOp .Sub) (rI0 fun i j => .int (i - j)) := op_sub
theorem j_sub : R2J X (rI0 fun i j => .int (i - j)) gSub := r2_int0
theorem j_mulI : R2J X (rI CMulW fun i j => .int (i * j)) gMul := r2_int fun i j h => (show i.natAbs.log2 + j.natAbs.log2 < 1000000 from of_decide_eq_true h)
theorem j_div : R2J X (rI CDivW fun i j => .int (i / j)) gDiv := r2_int fun i j h => by
  have h' := Bool.and_eq_true_iff.mp h
  exact ⟨of_decide_eq_true h'.1, of_decide_eq_true h'.2⟩
theorem j_mod : R2J X (rI (fun _ j => 0 < j) fun i j => .int (i % j)) gMod := r2_int fun i j h => of_decide_eq_true h
theorem cpow {i j : Int} (h : (decide (0 ≤ j) && decide (j ≤ 1000000) && decide (i.natAbs < 2 ^ 64)) = true) : CPow i j := by
  have h' := Bool.and_eq_true_iff.mp h
  have h2 := Bool.and_eq_true_iff.mp h'.1
  exact ⟨of_decide_eq_true h2.1, of_decide_eq_true h2.2, of_decide_eq_true h'.2⟩
theorem j_pow : R2J X (rI CPow fun i j => .int (i ^ j.toNat)) gPow := r2_int fun i j h => cpow h
theorem j_shl : R2J X (rI CPow fun i j => .int (i * 2 ^ j.toNat)) gShl := r2_int fun i j h => cpow h
/-! ### + -/
def gAddS : D → D → Option Slot
  | .str x, .str y => if x.length + y.length ≤ 16777216 then some (.fr (.str (x ++ y))) else none
  | _, _ => none
def gAddL : D → D → Option Slot
  | .lst x, .lst y => if x.length + y.length ≤ 16777216 then some (.own (.lst (x ++ y))) else none
  | _, _ => none
def gAddT : D → D → Option Slot
  | .tup x, .tup y => if x.length + y.length ≤ 16777216 then some (.fr (.tup (x ++ y))) else none
  | _, _ => none
theorem j_addS : R2J X (fun x y H Q => ∃ i j, x = .str i ∧ y = .str j ∧ i.length + j.length ≤ sizeLine ∧ Q (.str (i ++ j)) H) gAddS := by
  refine r2_flat fun F ρ H x y dx dy s Q bx bY e => ?_
  unfold gAddS at e
  cases dx <;> cases dy <;> first | (cases e; done) | skip
  rename_i i j
  cases bx.str
  cases bY.str
  by_cases hz : i.length + j.length ≤ 16777216
  · simp only [hz, if_true] at e
    cases e
    exact ⟨.str (toS i ++ toS j), fun q => ⟨_, _, rfl, rfl, by rw [toS_len, toS_len, line_eq]; exact hz, q⟩, _, rfl, fun _ _ => by rw [toS_app]; exact .str⟩
  · simp only [hz] at e; cases e
/-- a list that is looked at is there to be copied: tracked, or locked -/
def rCatL (K : PySem.W.Frag) : R2 := fun x y H Q => ∃ a b xs zs, x = .ref a ∧ y = .ref b ∧ SqL K H a xs ∧ SqL K H b zs ∧ xs.length + zs.length ≤ sizeLine ∧ ∀ p, H p = none → Q (.ref p) (upd H p (.lst (xs ++ zs)))
theorem sum_lists {prog : Program} {w : World} {A : Around} {E : Value → Shared → Prop} {s : Shared} {l b : Addr} {u v : List Value} {Q : Value → Shared → Prop}
    (hl : s.heap.IsList l u.toArray) (hb : s.heap.IsList b v.toArray) (hz : u.length + v.length ≤ sizeLine)
    (h : Q (.ref s.heap.objs.size) { s with heap := s.heap.push { cls := .type "list", data := .seq (u ++ v).toArray } }) : wpAny (model prog w) A (binaryOp .Add (.ref l) (.ref b)) Q E s := by
  rcases hl with ⟨⟨k1, d1, t1, z1⟩, g1, y1, n1, x1⟩
  rcases hb with ⟨⟨k2, d2, t2, z2⟩, g2, y2, n2, x2⟩
  dsimp only at y1 x1 y2 x2
  cases y1; cases x1; cases y2; cases x2
  have hcat : (u ++ v).toArray = u.toArray ++ v.toArray := by simp
  rw [hcat] at h
  exact concat_meets ⟨_, g1, rfl⟩ ⟨_, g2, rfl⟩ noFill_list_add seq_list_add PySem.F.slot_list_add PySem.F.entry_list_add (PySem.F.args_list_add_2 _ _)
    (PyProof.Rows.list_addW l b u.toArray v.toArray n1 n2 d1 d2 z1 z2 (by simpa using hz)) ⟨g1, g2, h⟩
theorem o_cat : OpR X (binaryOp .Add) (rCatL X.K) := by
  intro pins s σ H x y v u Q I rx ry h
  obtain ⟨l, b, xs, zs, rfl, rfl, hl, hb, hz, q⟩ := h
  cases rx
  cases ry
  obtain ⟨ia, ra, pa, za⟩ := I.list hl
  obtain ⟨ib, rb, pb, zb⟩ := I.list hb
  refine sum_lists pa.isList pb.isList (by rw [← ra.length, ← rb.length]; exact hz) ?_
  exact ⟨.ref s.heap.objs.size, _, I.lnew (t' := s.toks) (ra.append rb) (by rw [List.length_append]; exact hz), rfl, q _ I.fresh⟩
theorem vr_newL {Z F : Hp} {ρ : List Addr} {μ : Mem} {δ : Loc} {σ : St} {H : Hp} {p : Addr} {vs : List V} {ds : List D} (S : Sim X.K X.mg Z F ρ μ δ σ H) (hp : H p = none) (r : RepL X.K X.mg F ρ vs ds) :
    Sim X.K X.mg Z F ρ μ δ σ (upd H p (.lst vs)) ∧ VR X.K X.mg Z F ρ δ σ (upd H p (.lst vs)) (.ref p) (.own (.lst ds)) := by
  obtain ⟨n1, n2, n3, n4⟩ := S.notIn hp
  exact ⟨S.laid hp, ⟨p, rfl, ⟨n1, n2, n3⟩, vs, upd_same, r⟩, fun o p z z2 => by cases z2; exact n4⟩
theorem vr_newT {Z F : Hp} {ρ : List Addr} {μ : Mem} {δ : Loc} {σ : St} {H : Hp} {p : Addr} {vs : List V} {ds : List D} (S : Sim X.K X.mg Z F ρ μ δ σ H) (hp : H p = none) (r : RepL X.K X.mg F ρ vs ds) :
    ∃ F', Le Z F F' ∧ Sim X.K X.mg Z F' ρ μ δ σ (upd H p (.tup vs)) ∧ VR X.K X.mg Z F' ρ δ σ (upd H p (.tup vs)) (.ref p) (.fr (.tup ds)) := by
  obtain ⟨n1, n2, n3, n4⟩ := S.notIn hp
  obtain ⟨l3, S3⟩ := (S.laid (o := .tup vs) hp).freeze (p := p) upd_same ⟨n1, n2, n3⟩ n4
  exact ⟨_, l3, S3, .tup (.inl (.inl upd_same)) (r.up l3.to fun _ _ h => h), fun o p z => by cases z⟩
theorem j_addL : R2J X (rCatL X.K) gAddL := by
  intro Z F ρ μ δ σ H x y dx dy s Q S bx bY e q
  unfold gAddL at e
  cases dx <;> cases dy <;> first | (cases e; done) | skip
  rename_i i j
  by_cases hz : i.length + j.length ≤ 16777216
  · simp only [hz, if_true] at e
    cases e
    obtain ⟨p1, v1, rfl, h1, r1⟩ := bx.lst S
    obtain ⟨p2, v2, rfl, h2, r2⟩ := bY.lst S
    refine ⟨p1, p2, v1, v2, rfl, rfl, .of h1, .of h2, by rw [r1.len, r2.len, line_eq]; exact hz, fun p hp => ?_⟩
    obtain ⟨S', vr⟩ := vr_newL S hp (r1.app r2)
    exact q _ _ F .refl S' vr
  · simp only [hz] at e; cases e
theorem j_addT : R2J X (rCatA X.K) gAddT := by
  intro Z F ρ μ δ σ H x y dx dy s Q S bx bY e q
  unfold gAddT at e
  cases dx <;> cases dy <;> first | (cases e; done) | skip
  rename_i i j
  by_cases hz : i.length + j.length ≤ 16777216
  · simp only [hz, if_true] at e
    cases e
    have b1 := bx.rep fun o e => by cases o <;> cases e
    have b2 := bY.rep fun o e => by cases o <;> cases e
    obtain ⟨p1, v1, rfl, h1, r1⟩ := bx.tup S
    obtain ⟨p2, v2, rfl, h2, r2⟩ := bY.tup S
    refine ⟨p1, p2, v1, v2, rfl, rfl, h1, h2, by rw [r1.len, r2.len, line_eq]; exact hz, fun z => ?_, fun _ z => ?_, fun _ _ p hp => ?_⟩
    · subst z
      cases r1
      exact q _ H F .refl S ⟨b2, fun o p z => by cases z⟩
    · subst z
      cases r2
      rw [List.append_nil] at q
      exact q _ H F .refl S ⟨b1, fun o p z => by cases z⟩
    · obtain ⟨F', l', S', vr⟩ := vr_newT S hp (r1.app r2)
      exact q _ _ F' l' S' vr
  · simp only [hz] at e; cases e
/-- + of any two things that can be added -/
def gAdd : D → D → Option Slot := fun x y => (gInt (fun _ _ => true) (fun i j => .int (i + j)) x y).or ((gAddS x y).or ((gAddL x y).or (gAddT x y)))
abbrev rAddA (K : PySem.W.Frag) : R2 := fun x y H Q => rI0 (fun i j => .int (i + j)) x y H Q ∨ ((∃ i j, x = .str i ∧ y = .str j ∧ i.length + j.length ≤ sizeLine ∧ Q (.str (i ++ j)) H) ∨ (rCatL K x y H Q ∨ rCatA K x y H Q))
theorem o_add : OpR X (binaryOp .Add) (rAddA X.K) := op_add.or (op_add_str.or (o_cat.or op_catA))
theorem j_add : R2J X (rAddA X.K) gAdd := R2J.or r2_int0 (R2J.or j_addS (R2J.or j_addL j_addT))
/-! ### * -/
def gRep : D → D → Option Slot
  | .lst x, .int k => if (decide (-(2 ^ 63) ≤ k) && decide (k < 2 ^ 63) && decide (x.length * k.toNat ≤ 16777216)) = true then some (.own (.lst (List.replicate k.toNat x).flatten)) else none
  | _, _ => none
theorem RepL.rep {F : Hp} {ρ : List Addr} {vs : List V} {ds : List D} (h : RepL X.K X.mg F ρ vs ds) : ∀ n : Nat, RepL X.K X.mg F ρ (List.replicate n vs).flatten (List.replicate n ds).flatten
  | 0 => .nil
  | n + 1 => by
    rw [List.replicate_succ, List.replicate_succ, List.flatten_cons, List.flatten_cons]
    exact h.app (RepL.rep h n)
theorem j_rep : R2J X rRep gRep := by
  intro Z F ρ μ δ σ H x y dx dy s Q S bx bY e q
  unfold gRep at e
  cases dx <;> cases dy <;> first | (cases e; done) | skip
  rename_i xs k
  cases bY.int
  by_cases hz : (decide (-(2 ^ 63) ≤ k) && decide (k < 2 ^ 63) && decide (xs.length * k.toNat ≤ 16777216)) = true
  · simp only [hz, if_true] at e
    cases e
    obtain ⟨p1, v1, rfl, h1, r1⟩ := bx.lst S
    have h' := Bool.and_eq_true_iff.mp hz
    have h2 := Bool.and_eq_true_iff.mp h'.1
    refine ⟨p1, k, v1, rfl, rfl, h1, of_decide_eq_true h2.1, of_decide_eq_true h2.2, by rw [r1.len, line_eq]; exact of_decide_eq_true h'.2, fun p hp => ?_⟩
    obtain ⟨S', vr⟩ := vr_newL S hp (r1.rep k.toNat)
    exact q _ _ F .refl S' vr
  · simp only [hz] at e; cases e
/-! ### order -/
abbrev tb (b : Bool) : Slot := .fr (.bl b)
abbrev gLtI : D → D → Option Slot := gInt (fun _ _ => true) fun i j => .bl (decide (i < j))
abbrev gLeI : D → D → Option Slot := gInt (fun _ _ => true) fun i j => .bl (decide (i ≤ j))
abbrev gGtI : D → D → Option Slot := gInt (fun _ _ => true) fun i j => .bl (decide (j < i))
abbrev gGeI : D → D → Option Slot := gInt (fun _ _ => true) fun i j => .bl (decide (j ≤ i))
def gTx (f : Tx → Tx → Bool) : D → D → Option Slot
  | .str x, .str y => some (tb (f x y))
  | _, _ => none
theorem r2_tx {f : List Nat → List Nat → Bool} : R2J X (fun x y H Q => ∃ i j, x = .str i ∧ y = .str j ∧ Q (.bl (f i.cps.toList j.cps.toList)) H) (gTx f) := by
  refine r2_flat fun F ρ H x y dx dy s Q bx bY e => ?_
  unfold gTx at e
  cases dx <;> cases dy <;> first | (cases e; done) | skip
  cases bx.str
  cases bY.str
  cases e
  exact ⟨.bl _, fun q => ⟨_, _, rfl, rfl, q⟩, _, rfl, fun _ _ => .bl⟩
def gLt : D → D → Option Slot := fun x y => (gLtI x y).or (gTx (fun x y => decide (x < y)) x y)
def gLe : D → D → Option Slot := fun x y => (gLeI x y).or (gTx (fun x y => !decide (y < x)) x y)
def gGt : D → D → Option Slot := fun x y => (gGtI x y).or (gTx (fun x y => decide (y < x)) x y)
def gGe : D → D → Option Slot := fun x y => (gGeI x y).or (gTx (fun x y => !decide (x < y)) x y)
abbrev rLtA : R2 := fun x y H Q => rI0 (fun i j => .bl (decide (i < j))) x y H Q ∨ ∃ i j, x = .str i ∧ y = .str j ∧ Q (.bl (decide (i.cps.toList < j.cps.toList))) H
abbrev rLeA : R2 := fun x y H Q => rI0 (fun i j => .bl (decide (i ≤ j))) x y H Q ∨ ∃ i j, x = .str i ∧ y = .str j ∧ Q (.bl (!decide (j.cps.toList < i.cps.toList))) H
abbrev rGtA : R2 := fun x y H Q => rI0 (fun i j => .bl (decide (j < i))) x y H Q ∨ ∃ i j, x = .str i ∧ y = .str j ∧ Q (.bl (decide (j.cps.toList < i.cps.toList))) H
abbrev rGeA : R2 := fun x y H Q => rI0 (fun i j => .bl (decide (j ≤ i))) x y H Q ∨ ∃ i j, x = .str i ∧ y = .str j ∧ Q (.bl (!decide (i.cps.toList < j.cps.toList))) H
theorem o_lt : OpR X (compareOp .Lt) rLtA := op_lt.or op_lt_str
theorem o_le : OpR X (compareOp .LtE) rLeA := op_le.or op_le_str
theorem o_gt : OpR X (compareOp .Gt) rGtA := op_gt.or op_gt_str
theorem o_ge : OpR X (compareOp .GtE) rGeA := op_ge.or op_ge_str
theorem j_lt : R2J X rLtA gLt := R2J.or r2_intB (r2_tx (f := fun x y => decide (x < y)))
theorem j_le : R2J X rLeA gLe := R2J.or r2_intB (r2_tx (f := fun x y => !decide (y < x)))
theorem j_gt : R2J X rGtA gGt := R2J.or r2_intB (r2_tx (f := fun x y => decide (y < x)))
theorem j_ge : R2J X rGeA gGe := R2J.or r2_intB (r2_tx (f := fun x y => !decide (x < y)))
/-! ### ==, != -/
def eqS : D → D → Option Bool
  | .int i, .int j => some (decide (i = j))
  | .str x, .str y => some (decide (x = y))
  | .bl a, .bl b => some (decide (a = b))
  | .non, .non => some true
  | .non, .int _ | .int _, .non | .non, .bl _ | .bl _, .non | .non, .str _ | .str _, .non | .int _, .str _ | .str _, .int _ | .bl _, .str _ | .str _, .bl _ => some false
  | _, _ => none
mutual
def D.py : D → Option PyData
  | .non => some .none
  | .bl b => some (.bool b)
  | .int i => some (.int i)
  | .str x => some (.str (toS x))
  | .lst xs => (D.pys xs).map .list
  | .tup xs => (D.pys xs).map .tuple
  | .ro xs => (D.pys xs).map .list
  | _ => none
def D.pys : List D → Option (List PyData)
  | [] => some []
  | x :: xs => match D.py x, D.pys xs with
    | some a, some r => some (a :: r)
    | _, _ => none
end
def eqP (x y : D) : Option Bool := match D.py x, D.py y with
  | some a, some b => if SeqAt.shaped a && SeqAt.shaped b then some (PyData.eqv a b) else none
  | _, _ => none
def gEq (neg : Bool) : D → D → Option Slot := fun x y => ((eqS x y).map fun b => tb (b != neg)).or ((eqP x y).map fun b => tb (b != neg))
abbrev rEqA (K : PySem.W.Frag) : R2 := fun x y H Q => rEq x y H Q ∨ rEqD K x y H Q
abbrev rNeA (K : PySem.W.Frag) : R2 := fun x y H Q => rNe x y H Q ∨ rNeD K x y H Q
theorem o_eq (hu : X.A.units + 64 < cLine) : OpR X (compareOp .Eq) (rEqA X.K) := op_eq.or (op_eqD hu)
theorem o_ne (hu : X.A.units + 64 < cLine) : OpR X (compareOp .NotEq) (rNeA X.K) := op_ne.or (op_neD hu)
mutual
theorem Rep.dp {K : PySem.W.Frag} {mg : Str → Option Value} {F H : Hp} {ρ : List Addr} (l : ∀ p u, Rd F p u → Rd H p u) : ∀ {v : V} {d : D} {q : PyData}, Rep K mg F ρ v d → D.py d = some q → Dp K H v q
  | _, _, _, .non, e => by simp only [D.py] at e; cases e; exact .non
  | _, _, _, .bl, e => by simp only [D.py] at e; cases e; exact .bl _
  | _, _, _, .int, e => by simp only [D.py] at e; cases e; exact .int _
  | _, _, _, .str, e => by simp only [D.py] at e; cases e; exact .str _
  | _, _, _, .lst h r, e => by
    simp only [D.py] at e
    obtain ⟨qs, e1, e2⟩ := Option.map_eq_some_iff.mp e
    subst e2
    exact .lst (.inl (l _ _ (.inl h))) (RepL.dp l r e1)
  | _, _, _, .ro h r, e => by
    simp only [D.py] at e
    obtain ⟨qs, e1, e2⟩ := Option.map_eq_some_iff.mp e
    subst e2
    exact .lst (h.elim (fun h => .inl (l _ _ h)) .inr) (RepL.dp l r e1)
  | _, _, _, .tup h r, e => by
    simp only [D.py] at e
    obtain ⟨qs, e1, e2⟩ := Option.map_eq_some_iff.mp e
    subst e2
    exact .tup (h.elim (fun h => .inl (l _ _ h)) .inr) (RepL.dp l r e1)
  | _, _, _, .dct _ _ _, e => by simp only [D.py] at e; cases e
  | _, _, _, .obj _, e => by simp only [D.py] at e; cases e
  | _, _, _, .glo _ _, e => by simp only [D.py] at e; cases e
  | _, _, _, .ty, e => by simp only [D.py] at e; cases e
  | _, _, _, .exn _ _ _ _, e => by simp only [D.py] at e; cases e
theorem RepL.dp {K : PySem.W.Frag} {mg : Str → Option Value} {F H : Hp} {ρ : List Addr} (l : ∀ p u, Rd F p u → Rd H p u) : ∀ {vs : List V} {ds : List D} {qs : List PyData}, RepL K mg F ρ vs ds → D.pys ds = some qs → DpAll K H vs qs
  | _, _, _, .nil, e => by simp only [D.pys] at e; cases e; exact .nil
  | _, _, _, .cons (d := d) (ds := ds) h t, e => by
    simp only [D.pys] at e
    cases e1 : D.py d with
    | none => simp only [e1] at e; cases e
    | some a =>
      cases e2 : D.pys ds with
      | none => simp only [e1, e2] at e; cases e
      | some r =>
        simp only [e1, e2] at e
        cases e
        exact .cons (Rep.dp l h e1) (RepL.dp l t e2)
end
theorem Bor.dp {Z F H : Hp} {ρ : List Addr} {μ : Mem} {δ : Loc} {σ : St} {v : V} {d : D} {q : PyData} (S : Sim X.K X.mg Z F ρ μ δ σ H) (h : Bor X.K X.mg F ρ H v d) (e : D.py d = some q) : Dp X.K H v q := by
  cases h with
  | fr h => exact h.dp (fun _ _ => S.rd) e
  | @own p o h =>
    cases o with
    | dct ks vs => simp only [Own.d, D.py] at e; cases e
    | tab P q => simp only [Own.d, D.py] at e; cases e
    | ins c kd ks xs => simp only [Own.d, D.py] at e; cases e
    | idc k => simp only [Own.d, D.py] at e; cases e
    | lst xs =>
      simp only [Own.d, D.py] at e
      obtain ⟨qs, e1, e2⟩ := Option.map_eq_some_iff.mp e
      subst e2
      obtain ⟨vs, eh, r⟩ := h
      exact .lst (.inl (.inl eh)) (r.dp (fun _ _ => S.rd) e1)
theorem eqS_V {F H : Hp} {ρ : List Addr} {x y : V} {dx dy : D} {b : Bool} (bx : Bor X.K X.mg F ρ H x dx) (bY : Bor X.K X.mg F ρ H y dy) (e : eqS dx dy = some b) : scal x y = true ∧ decide (x = y) = b := by
  unfold eqS at e
  cases dx <;> cases dy <;> first | (cases e; done) | skip
  all_goals cases e
  all_goals first
    | (cases bx.non; cases bY.non; exact ⟨rfl, rfl⟩)
    | (cases bx.non; cases bY.bl; exact ⟨rfl, rfl⟩)
    | (cases bx.bl; cases bY.non; exact ⟨rfl, rfl⟩)
    | (cases bx.non; cases bY.int; exact ⟨rfl, rfl⟩)
    | (cases bx.int; cases bY.non; exact ⟨rfl, rfl⟩)
    | (cases bx.non; cases bY.str; exact ⟨rfl, rfl⟩)
    | (cases bx.str; cases bY.non; exact ⟨rfl, rfl⟩)
    | (cases bx.int; cases bY.str; exact ⟨rfl, rfl⟩)
    | (cases bx.str; cases bY.int; exact ⟨rfl, rfl⟩)
    | (cases bx.bl; cases bY.str; exact ⟨rfl, rfl⟩)
    | (cases bx.str; cases bY.bl; exact ⟨rfl, rfl⟩)
    | (cases bx.bl; cases bY.bl; exact ⟨rfl, by simp⟩)
    | (cases bx.int; cases bY.int; exact ⟨rfl, by simp⟩)
    | (cases bx.str; cases bY.str
       refine ⟨rfl, ?_⟩
       rename_i i j
       by_cases q : i = j
       · subst q; simp
       · have n : ¬ (V.str (toS i) = V.str (toS j)) := fun z => q (toS_inj (by injection z))
         rw [decide_eq_false n, decide_eq_false q])
theorem j_eqN (neg : Bool) : R2J X (fun x y H Q => scal x y = true ∧ Q (.bl (decide (x = y) != neg)) H) (fun x y => (eqS x y).map fun b => tb (b != neg)) := by
  refine r2_flat fun F ρ H x y dx dy s Q bx bY e => ?_
  obtain ⟨b, e1, e2⟩ := Option.map_eq_some_iff.mp e
  obtain ⟨h1, h2⟩ := eqS_V bx bY e1
  subst e2 h2
  exact ⟨_, fun q => ⟨h1, q⟩, _, rfl, fun _ _ => .bl⟩
theorem j_eqD (neg : Bool) : R2J X (fun x y H Q => ∃ d e, Dp X.K H x d ∧ Dp X.K H y e ∧ SeqAt.shaped d = true ∧ SeqAt.shaped e = true ∧ Q (.bl (PyData.eqv d e != neg)) H) (fun x y => (eqP x y).map fun b => tb (b != neg)) := by
  intro Z F ρ μ δ σ H x y dx dy s Q S bx bY e q
  obtain ⟨b, e1, e2⟩ := Option.map_eq_some_iff.mp e
  subst e2
  unfold eqP at e1
  cases p1 : D.py dx with
  | none => simp only [p1] at e1; cases e1
  | some a =>
    cases p2 : D.py dy with
    | none => simp only [p1, p2] at e1; cases e1
    | some c =>
      simp only [p1, p2] at e1
      by_cases hs : (SeqAt.shaped a && SeqAt.shaped c) = true
      · rw [if_pos hs] at e1
        cases e1
        have hs' := Bool.and_eq_true_iff.mp hs
        exact ⟨a, c, bx.dp S p1, bY.dp S p2, hs'.1, hs'.2, q _ H F .refl S .bl⟩
      · rw [if_neg hs] at e1; cases e1
theorem j_eq : R2J X (rEqA X.K) (gEq false) := by
  have h := R2J.or (j_eqN (X := X) false) (j_eqD false)
  have e : gEq false = fun x y => ((eqS x y).map fun b => tb b).or ((eqP x y).map fun b => tb b) := by
    funext x y; unfold gEq; simp only [Bool.bne_false]
  rw [e]
  simp only [Bool.bne_false] at h
  exact h
theorem j_ne : R2J X (rNeA X.K) (gEq true) := by
  have h := R2J.or (j_eqN (X := X) true) (j_eqD true)
  have e : gEq true = fun x y => ((eqS x y).map fun b => tb (!b)).or ((eqP x y).map fun b => tb (!b)) := by
    funext x y; unfold gEq; simp only [Bool.bne_true]
  rw [e]
  simp only [Bool.bne_true] at h
  exact h
/-! ### is None -/
def gIsN (neg : Bool) : D → D → Option Slot
  | .non, .non => some (tb (true != neg))
  | .glo _, .non => none
  | _, .non => some (tb (false != neg))
  | _, _ => none
theorem isN_V {F H : Hp} {ρ : List Addr} {x : V} {dx : D} (bx : Bor X.K X.mg F ρ H x dx) (ng : ∀ g, dx ≠ .glo g) : decide (x = V.non) = match dx with | .non => true | _ => false := by
  cases bx with
  | fr h => cases h <;> first | rfl | exact absurd rfl (ng _)
  | @own p o h => cases o <;> rfl
theorem j_isN (neg : Bool) : R2J X (fun x y H Q => y = V.non ∧ Q (.bl (decide (x = .non) != neg)) H) (gIsN neg) := by
  refine r2_flat fun F ρ H x y dx dy s Q bx bY e => ?_
  unfold gIsN at e
  cases dy <;> first | (cases dx <;> cases e; done) | skip
  cases bY.non
  cases dx <;> first | (cases e; done) | skip
  all_goals
    have h := isN_V bx (fun g z => by cases z)
    cases e
    rw [h]
    exact ⟨_, fun q => ⟨rfl, q⟩, _, rfl, fun _ _ => .bl⟩
theorem o_isN : OpR X (compareOp .Is) (fun x y H Q => y = V.non ∧ Q (.bl (decide (x = .non) != false)) H) := by simpa only [Bool.bne_false] using op_isN (X := X)
theorem o_notN : OpR X (compareOp .IsNot) (fun x y H Q => y = V.non ∧ Q (.bl (decide (x = .non) != true)) H) := by simpa only [Bool.bne_true] using op_notN (X := X)
/-! ### in -/
def gInS (neg : Bool) : D → D → Option Slot
  | .str [c], .str y => some (tb (decide (c ∈ y) != neg))
  | _, _ => none
theorem j_inS (neg : Bool) : R2J X (fun x y H Q => ∃ (c : Nat) (z : Str), x = .str ⟨#[c]⟩ ∧ y = .str z ∧ Q (.bl (decide (c ∈ z.cps.toList) != neg)) H) (gInS neg) := by
  refine r2_flat fun F ρ H x y dx dy s Q bx bY e => ?_
  unfold gInS at e
  cases dx <;> first | (cases e; done) | skip
  rename_i xs
  cases xs with
  | nil => cases e
  | cons c r =>
    cases r with
    | cons _ _ => cases e
    | nil =>
      cases dy <;> first | (cases e; done) | skip
      cases bx.str
      cases bY.str
      cases e
      exact ⟨_, fun q => ⟨c, _, rfl, rfl, q⟩, _, rfl, fun _ _ => .bl⟩
def D.fv : D → Option V
  | .non => some .non
  | .bl b => some (.bl b)
  | .int i => some (.int i)
  | .str x => some (.str (toS x))
  | _ => none
def fvs : List D → Option (List V)
  | [] => some []
  | x :: xs => match D.fv x, fvs xs with
    | some a, some r => some (a :: r)
    | _, _ => none
def gInL (neg : Bool) : D → D → Option Slot := fun x y => match D.fv x, (match y with | .lst ys => fvs ys | .tup ys => fvs ys | _ => none) with
  | some a, some vs => some (tb (inV a vs != neg))
  | _, _ => none
theorem Bor.fv {F H : Hp} {ρ : List Addr} {x w : V} {d : D} (h : Bor X.K X.mg F ρ H x d) (e : D.fv d = some w) : x = w ∧ flatV w = true := by
  cases d <;> first | (cases e; done) | skip
  · cases e; exact ⟨h.non, rfl⟩
  · cases e; exact ⟨h.bl, rfl⟩
  · cases e; exact ⟨h.int, rfl⟩
  · cases e; exact ⟨h.str, rfl⟩
theorem RepL.fvs {F : Hp} {ρ : List Addr} : ∀ {vs ws : List V} {ds : List D}, RepL X.K X.mg F ρ vs ds → fvs ds = some ws → vs = ws ∧ ws.all flatV = true := by
  intro vs ws ds
  induction ds generalizing vs ws with
  | nil => intro h e; cases h; cases e; exact ⟨rfl, rfl⟩
  | cons d ds ih =>
    intro h e
    cases h with
    | cons h t =>
      unfold FL.fvs at e
      cases e1 : D.fv d with
      | none => simp only [e1] at e; cases e
      | some a =>
        cases e2 : FL.fvs ds with
        | none => simp only [e1, e2] at e; cases e
        | some r =>
          simp only [e1, e2] at e
          cases e
          obtain ⟨h1, h2⟩ := ih t e2
          obtain ⟨h3, h4⟩ := Bor.fv (X := X) (H := F) (.fr h) e1
          exact ⟨by rw [h1, h3], by rw [List.all_cons, h4, h2]; rfl⟩
theorem j_inL (neg : Bool) : R2J X (rIn X.K neg) (gInL neg) := by
  intro Z F ρ μ δ σ H x y dx dy s Q S bx bY e q
  unfold gInL at e
  cases e1 : D.fv dx with
  | none => simp only [e1] at e; cases e
  | some a =>
    obtain ⟨rfl, fa⟩ := bx.fv e1
    have fin : ∀ {vs : List V} {ds : List D} {ws : List V}, RepL X.K X.mg F ρ vs ds → fvs ds = some ws → s = tb (inV x ws != neg) → x = x → ∀ p, y = .ref p → (SqL X.K H p vs ∨ SqT X.K H p vs) → rIn X.K neg x y H Q := by
      intro vs ds ws r e2 es _ p ey hq
      obtain ⟨rfl, f2⟩ := r.fvs e2
      refine ⟨p, vs, ey, hq, fa, f2, ?_⟩
      have qq := q (.bl (inV x vs != neg)) H F .refl S (by rw [es]; exact .bl)
      cases neg with
      | true => rw [if_pos rfl]; simpa only [Bool.bne_true] using qq
      | false => rw [if_neg Bool.false_ne_true]; simpa only [Bool.bne_false] using qq
    cases dy <;> first | (simp only [e1] at e; cases e; done) | skip
    · rename_i ys
      cases e2 : fvs ys with
      | none => simp only [e1, e2] at e; cases e
      | some ws =>
        simp only [e1, e2] at e
        obtain ⟨p, vs, ey, hl, r⟩ := bY.lst S
        exact fin r e2 (by injection e with e; exact e.symm) rfl p ey (.inl (.of hl))
    · rename_i ys
      cases e2 : fvs ys with
      | none => simp only [e1, e2] at e; cases e
      | some ws =>
        simp only [e1, e2] at e
        obtain ⟨p, vs, ey, hl, r⟩ := bY.tup S
        exact fin r e2 (by injection e with e; exact e.symm) rfl p ey (.inr hl)
def gIn (neg : Bool) : D → D → Option Slot := fun x y => (gInS neg x y).or (gInL neg x y)
abbrev rInA (K : PySem.W.Frag) (neg : Bool) : R2 := fun x y H Q => (∃ (c : Nat) (z : Str), x = .str ⟨#[c]⟩ ∧ y = .str z ∧ Q (.bl (decide (c ∈ z.cps.toList) != neg)) H) ∨ rIn K neg x y H Q
theorem o_in : OpR X (compareOp .In) (rInA X.K false) := OpR.or (by simpa only [Bool.bne_false] using op_in_sign (X := X)) op_in_seq
theorem o_nin : OpR X (compareOp .NotIn) (rInA X.K true) := OpR.or (by simpa only [Bool.bne_true] using op_notIn_sign (X := X)) op_notIn_seq
theorem j_in (neg : Bool) : R2J X (rInA X.K neg) (gIn neg) := R2J.or (j_inS neg) (j_inL neg)
/-! ### items -/
def gIxL : D → D → Option Slot
  | .lst x, .int i => (atI x i).map .fr
  | .tup x, .int i => (atI x i).map .fr
  | .ro x, .int i => (atI x i).map .fr
  | .str x, .int i => if x.length ≤ 16777216 then (atI x i).map fun c => .fr (.str [c]) else none
  | _, _ => none
theorem RepL.atI {F : Hp} {ρ : List Addr} {vs : List V} {ds : List D} {i : Int} {d : D} (r : RepL X.K X.mg F ρ vs ds) (e : L2.atI ds i = some d) : ∃ v, L2.atI vs i = some v ∧ Rep X.K X.mg F ρ v d := by
  unfold L2.atI at e ⊢
  rw [r.len]
  cases h : ixN ds.length i with
  | none => rw [h] at e; cases e
  | some j =>
    rw [h] at e
    exact r.get e
theorem j_ix : R2J X (rIx X.K) gIxL := by
  intro Z F ρ μ δ σ H x y dx dy s Q S bx bY e q
  unfold gIxL at e
  cases dx <;> cases dy <;> first | (cases e; done) | skip
  · rename_i x i
    cases bx.str
    cases bY.int
    by_cases hz : x.length ≤ 16777216
    · simp only [hz, if_true] at e
      obtain ⟨c, e1, e2⟩ := Option.map_eq_some_iff.mp e
      subst e2
      exact .inr (.inr ⟨_, _, c, rfl, rfl, by rw [toS_len, line_eq]; exact hz, e1, q _ H F .refl S ⟨Rep.str (x := [c]), fun o p z => by cases z⟩⟩)
    · simp only [hz] at e; cases e
  · rename_i x i
    obtain ⟨d, e1, e2⟩ := Option.map_eq_some_iff.mp e
    subst e2
    cases bY.int
    obtain ⟨p, vs, rfl, hl, r⟩ := bx.lst S
    obtain ⟨v, ev, rv⟩ := r.atI e1
    exact .inl ⟨p, vs, _, v, rfl, rfl, .of hl, ev, q _ H F .refl S ⟨rv, fun o p z => by cases z⟩⟩
  · rename_i x i
    obtain ⟨d, e1, e2⟩ := Option.map_eq_some_iff.mp e
    subst e2
    cases bY.int
    obtain ⟨p, vs, rfl, hl, r⟩ := bx.tup S
    obtain ⟨v, ev, rv⟩ := r.atI e1
    exact .inr (.inl ⟨p, vs, _, v, rfl, rfl, hl, ev, q _ H F .refl S ⟨rv, fun o p z => by cases z⟩⟩)
  · rename_i x i
    obtain ⟨d, e1, e2⟩ := Option.map_eq_some_iff.mp e
    subst e2
    cases bY.int
    obtain ⟨p, vs, rfl, hl, r⟩ := bx.ro S
    obtain ⟨v, ev, rv⟩ := r.atI e1
    exact .inl ⟨p, vs, _, v, rfl, rfl, hl, ev, q _ H F .refl S ⟨rv, fun o p z => by cases z⟩⟩
end
end FL

/-! Part D: calls of built-in functions and types, methods of built-in types, slices. -/
namespace FL
open PySem L2

section
variable {X : Cx} {W : WX} {e a b o : Expr} {es : List Expr} {pos p apos : Pos}
/-! ### calls -/
def RLJ (X : Cx) (r : List V → Hp → VK → Prop) (g : List D → Option Slot) : Prop := ∀ Z F ρ μ δ σ H xs ds s Q, Sim X.K X.mg Z F ρ μ δ σ H → BorL X.K X.mg F ρ H xs ds → g ds = some s →
  (∀ v H' F', Le Z F F' → Sim X.K X.mg Z F' ρ μ δ σ H' → VR X.K X.mg Z F' ρ δ σ H' v s → Q v H') → r xs H Q
def mC (g : List D → Option Slot) (os : List Opn) : ME := fun δ μ => (evs os δ μ).bind fun rs δ1 μ1 => match OR.ats δ1 μ1 rs with
  | some ds => lift (g ds) δ1 μ1
  | none => .bad
theorem mC_read {r : List V → Hp → VK → Prop} {g : List D → Option Slot} {os : List Opn} (hr : RLJ X r g) : ∀ σ H Q, rdE X W (mC g os) σ H Q → tCB r (rdOs X W os) σ H Q := by
  intro σ H Q ⟨Z, F, ρ, μ, δ, S, q⟩
  refine ⟨Z, F, ρ, μ, δ, S, (FinE.bind q).imp fun rs δ1 μ1 H1 F1 ρ1 l lr S1 ⟨_, _, _, p⟩ xs hx => ?_⟩
  cases ea : OR.ats δ1 μ1 rs with
  | none => simp only [ea] at p; exact p.elim
  | some ds =>
    simp only [ea] at p
    unfold lift at p
    cases eg : g ds with
    | none => simp only [eg] at p; exact p.elim
    | some s =>
      simp only [eg] at p
      exact hr Z F1 ρ1 μ1 δ1 σ H1 xs ds s Q S1 (hx.bor S1 ea) eg fun v H' F' l' S' vr => p H' F' ρ1 l' .refl S' v vr
theorem je_callB {x : Str} {id : String} {r : List V → Hp → VK → Prop} {g : List D → Option Slot} {os : List Opn} (hc : CallR X (.builtin id) r) (hr : RLJ X r g) (hg : Gl X x) (hm : X.mg x = none) (hv : bootBuiltins x = some (.builtin id)) (ha : JOs X W (e :: es) os)
    (hn : x ≠ "__name__" := by decide) (hdb : (x == ("__debug__" : Str)) = false := by decide)
    (he : starEach (e :: es) X.env = (false, eval e X.env) :: starEach es X.env := by rfl) (hpl : (backTo pos (starEach es X.env)).any (·.1) = false := by rfl) : JE X W (.Call (.Name x p) (e :: es) [] pos) (mC g os) :=
  (pe_callB hc hg hm hv ha hn hdb he hpl).imp (mC_read hr)
theorem je_callTy {x : Str} {T : String} {r : List V → Hp → VK → Prop} {g : List D → Option Slot} {os : List Opn} (hc : CallR X (.type T) r) (hr : RLJ X r g) (hg : Gl X x) (hm : X.mg x = none) (hv : bootBuiltins x = some (.type T)) (ha : JOs X W (e :: es) os)
    (hn : x ≠ "__name__" := by decide) (hdb : (x == ("__debug__" : Str)) = false := by decide)
    (he : starEach (e :: es) X.env = (false, eval e X.env) :: starEach es X.env := by rfl) (hpl : (backTo pos (starEach es X.env)).any (·.1) = false := by rfl) : JE X W (.Call (.Name x p) (e :: es) [] pos) (mC g os) :=
  (pe_callTy hc hg hm hv ha hn hdb he hpl).imp (mC_read hr)
/-- the name of a built-in type, as a value -/
theorem je_ty {x : Str} {T : String} (hg : Gl X x) (hm : X.mg x = none) (hv : bootBuiltins x = some (.type T)) (hn : x ≠ "__name__" := by decide) (hdb : (x == ("__debug__" : Str)) = false := by decide) : JE X W (.Name x pos) (mD (.ty T)) :=
  je_c (pe_bltn hg hm hv (v := .ty T) rfl hn hdb) fun _ _ => .ty
theorem RLJ.or {r r' : List V → Hp → VK → Prop} {g g' : List D → Option Slot} (h : RLJ X r g) (h' : RLJ X r' g') : RLJ X (fun x H Q => r x H Q ∨ r' x H Q) (fun x => (g x).or (g' x)) := by
  intro Z F ρ μ δ σ H xs ds s Q S b e q
  have e : (g ds).or (g' ds) = some s := e
  cases eg : g ds with
  | some s' => rw [eg] at e; exact .inl (h Z F ρ μ δ σ H xs ds s Q S b (by rw [eg]; exact e) q)
  | none => rw [eg] at e; exact .inr (h' Z F ρ μ δ σ H xs ds s Q S b e q)
theorem BorL.one {F H : Hp} {ρ : List Addr} {xs : List V} {d : D} (h : BorL X.K X.mg F ρ H xs [d]) : ∃ v, xs = [v] ∧ Bor X.K X.mg F ρ H v d := by
  cases h with
  | cons h t => cases t; exact ⟨_, rfl, h⟩
theorem BorL.two {F H : Hp} {ρ : List Addr} {xs : List V} {d d' : D} (h : BorL X.K X.mg F ρ H xs [d, d']) : ∃ v w, xs = [v, w] ∧ Bor X.K X.mg F ρ H v d ∧ Bor X.K X.mg F ρ H w d' := by
  cases h with
  | cons h t => obtain ⟨w, rfl, h'⟩ := t.one; exact ⟨_, w, rfl, h, h'⟩
/-- one argument, a value that is no object comes back -/
theorem rl1_flat {r : List V → Hp → VK → Prop} {g : D → Option Slot} (h : ∀ Z F ρ μ δ σ H x dx s Q, Sim X.K X.mg Z F ρ μ δ σ H → Bor X.K X.mg F ρ H x dx → g dx = some s → ∃ v, (Q v H → r [x] H Q) ∧ ∃ d, s = .fr d ∧ Rep X.K X.mg F ρ v d) :
    RLJ X r (fun ds => match ds with | [d] => g d | _ => none) := by
  intro Z F ρ μ δ σ H xs ds s Q S b e q
  cases ds with
  | nil => cases e
  | cons d r' =>
    cases r' with
    | cons _ _ => cases e
    | nil =>
      obtain ⟨v, rfl, hb⟩ := b.one
      obtain ⟨w, h1, d', rfl, h2⟩ := h Z F ρ μ δ σ H v d s Q S hb e
      exact h1 (q w H F .refl S ⟨h2, fun o p z => by cases z⟩)
/-- len -/
def gLen1 : D → Option Slot
  | .str x => if x.length ≤ 16777216 then some (.fr (.int x.length)) else none
  | .lst x => some (.fr (.int x.length))
  | .tup x => some (.fr (.int x.length))
  | .ro x => some (.fr (.int x.length))
  | _ => none
def gLen : List D → Option Slot := fun ds => match ds with
  | [d] => gLen1 d
  | _ => none
abbrev rLen (K : PySem.W.Frag) : List V → Hp → VK → Prop := fun xs H Q => ∃ x n, xs = [x] ∧ LenV K x H n ∧ Q (.int n) H
theorem j_len : RLJ X (rLen X.K) gLen := rl1_flat fun Z F ρ μ δ σ H x dx s Q S b e => by
  unfold gLen1 at e
  cases dx <;> first | (cases e; done) | skip
  · rename_i t
    cases b.str
    by_cases hz : t.length ≤ 16777216
    · simp only [hz, if_true] at e
      cases e
      exact ⟨.int (toS t).length, fun q => ⟨_, _, rfl, ⟨by rw [toS_len, line_eq]; exact hz, rfl⟩, q⟩, _, rfl, by rw [toS_len]; exact .int⟩
    · simp only [hz] at e; cases e
  · cases e
    obtain ⟨p, vs, rfl, h, r⟩ := b.lst S
    exact ⟨.int vs.length, fun q => ⟨_, _, rfl, .inl ⟨vs, .of h, rfl⟩, q⟩, _, rfl, by rw [r.len]; exact .int⟩
  · cases e
    obtain ⟨p, vs, rfl, h, r⟩ := b.tup S
    exact ⟨.int vs.length, fun q => ⟨_, _, rfl, .inr ⟨vs, h, rfl⟩, q⟩, _, rfl, by rw [r.len]; exact .int⟩
  · cases e
    obtain ⟨p, vs, rfl, h, r⟩ := b.ro S
    exact ⟨.int vs.length, fun q => ⟨_, _, rfl, .inl ⟨vs, h, rfl⟩, q⟩, _, rfl, by rw [r.len]; exact .int⟩
theorem o_len : CallR X (.builtin "len") (rLen X.K) := call_len
/-- max, min of two -/
def gMax2 : List D → Option Slot
  | [.int i, .int j] => some (.fr (.int (if j > i then j else i)))
  | _ => none
def gMin2 : List D → Option Slot
  | [.int i, .int j] => some (.fr (.int (if j < i then j else i)))
  | _ => none
theorem rl_ii {f : Int → Int → Int} {g : List D → Option Slot} (hg : ∀ ds s, g ds = some s → ∃ i j, ds = [.int i, .int j] ∧ s = .fr (.int (f i j))) : RLJ X (fun xs H Q => ∃ i j, xs = [.int i, .int j] ∧ Q (.int (f i j)) H) g := by
  intro Z F ρ μ δ σ H xs ds s Q S b e q
  obtain ⟨i, j, rfl, rfl⟩ := hg ds s e
  obtain ⟨v, w, rfl, h1, h2⟩ := b.two
  cases h1.int
  cases h2.int
  exact ⟨i, j, rfl, q _ H F .refl S ⟨.int, fun o p z => by cases z⟩⟩
theorem j_max2 : RLJ X (fun xs H Q => ∃ i j, xs = [V.int i, V.int j] ∧ Q (.int (if j > i then j else i)) H) gMax2 := rl_ii (f := fun i j => if j > i then j else i) fun ds s e => by
  unfold gMax2 at e
  split at e
  · cases e; exact ⟨_, _, rfl, rfl⟩
  · cases e
theorem j_min2 : RLJ X (fun xs H Q => ∃ i j, xs = [V.int i, V.int j] ∧ Q (.int (if j < i then j else i)) H) gMin2 := rl_ii (f := fun i j => if j < i then j else i) fun ds s e => by
  unfold gMin2 at e
  split at e
  · cases e; exact ⟨_, _, rfl, rfl⟩
  · cases e
/-- abs -/
def gAbs : List D → Option Slot := fun ds => match ds with
  | [d] => match d with
    | .int i => some (.fr (.int (if i < 0 then -i else i)))
    | _ => none
  | _ => none
theorem j_abs : RLJ X (fun xs H Q => ∃ i, xs = [V.int i] ∧ Q (.int (if i < 0 then -i else i)) H) gAbs :=
  rl1_flat (g := fun d => match d with | .int i => some (.fr (.int (if i < 0 then -i else i))) | _ => none) fun Z F ρ μ δ σ H x dx s Q S b e => by
    cases dx <;> first | (cases e; done) | skip
    cases b.int
    cases e
    exact ⟨_, fun q => ⟨_, rfl, q⟩, _, rfl, .int⟩
/-- sum of whole numbers -/
def intsD : List D → Option (List Int)
  | [] => some []
  | .int i :: r => (intsD r).map (i :: ·)
  | _ :: _ => none
theorem intsD_map : ∀ {ds : List D} {ns : List Int}, intsD ds = some ns → ds = ns.map .int
  | [], ns, e => by cases e; rfl
  | d :: r, ns, e => by
    cases d <;> first | (cases e; done) | skip
    rename_i i
    unfold intsD at e
    obtain ⟨m, e1, e2⟩ := Option.map_eq_some_iff.mp e
    subst e2
    rw [intsD_map e1]; rfl
theorem intsD_of : ∀ ns : List Int, intsD (ns.map .int) = some ns
  | [] => rfl
  | n :: ns => by show (intsD (ns.map D.int)).map (n :: ·) = _; rw [intsD_of ns]; rfl
def gSum : List D → Option Slot := fun ds => match ds with
  | [d] => match d with
    | .lst xs => (intsD xs).map fun ns => .fr (.int ns.sum)
    | _ => none
  | _ => none
theorem j_sum : RLJ X (rSum X.K) gSum :=
  rl1_flat (g := fun d => match d with | .lst xs => (intsD xs).map fun ns => .fr (.int ns.sum) | _ => none) fun Z F ρ μ δ σ H x dx s Q S b e => by
    cases dx <;> first | (cases e; done) | skip
    obtain ⟨ns, e1, e2⟩ := Option.map_eq_some_iff.mp e
    subst e2
    obtain ⟨p, vs, rfl, h, r⟩ := b.lst S
    rw [intsD_map e1] at r
    have ev := r.ints
    subst ev
    exact ⟨_, fun q => ⟨p, ns, rfl, .of h, q⟩, _, rfl, .int⟩
/-- all, any of truth values -/
def blsD : List D → Option (List Bool)
  | [] => some []
  | .bl i :: r => (blsD r).map (i :: ·)
  | _ :: _ => none
theorem blsD_map : ∀ {ds : List D} {ns : List Bool}, blsD ds = some ns → ds = ns.map .bl
  | [], ns, e => by cases e; rfl
  | d :: r, ns, e => by
    cases d <;> first | (cases e; done) | skip
    rename_i i
    unfold blsD at e
    obtain ⟨m, e1, e2⟩ := Option.map_eq_some_iff.mp e
    subst e2
    rw [blsD_map e1]; rfl
theorem blsD_of : ∀ ns : List Bool, blsD (ns.map .bl) = some ns
  | [] => rfl
  | n :: ns => by show (blsD (ns.map D.bl)).map (n :: ·) = _; rw [blsD_of ns]; rfl
def gAll : List D → Option Slot := fun ds => match ds with
  | [d] => match d with
    | .lst xs => (blsD xs).map fun ns => .fr (.bl (ns.all id))
    | _ => none
  | _ => none
def gAny : List D → Option Slot := fun ds => match ds with
  | [d] => match d with
    | .lst xs => (blsD xs).map fun ns => .fr (.bl (ns.any id))
    | _ => none
  | _ => none
theorem j_all : RLJ X (rAll X.K) gAll :=
  rl1_flat (g := fun d => match d with | .lst xs => (blsD xs).map fun ns => .fr (.bl (ns.all id)) | _ => none) fun Z F ρ μ δ σ H x dx s Q S b e => by
    cases dx <;> first | (cases e; done) | skip
    obtain ⟨ns, e1, e2⟩ := Option.map_eq_some_iff.mp e
    subst e2
    obtain ⟨p, vs, rfl, h, r⟩ := b.lst S
    rw [blsD_map e1] at r
    have ev := r.bls
    subst ev
    exact ⟨_, fun q => ⟨p, ns, rfl, .of h, q⟩, _, rfl, .bl⟩
theorem j_any : RLJ X (rAny X.K) gAny :=
  rl1_flat (g := fun d => match d with | .lst xs => (blsD xs).map fun ns => .fr (.bl (ns.any id)) | _ => none) fun Z F ρ μ δ σ H x dx s Q S b e => by
    cases dx <;> first | (cases e; done) | skip
    obtain ⟨ns, e1, e2⟩ := Option.map_eq_some_iff.mp e
    subst e2
    obtain ⟨p, vs, rfl, h, r⟩ := b.lst S
    rw [blsD_map e1] at r
    have ev := r.bls
    subst ev
    exact ⟨_, fun q => ⟨p, ns, rfl, .of h, q⟩, _, rfl, .bl⟩
/-- list(x), tuple(x) -/
def gList : List D → Option Slot
  | [.lst xs] => some (.own (.lst xs))
  | [.tup xs] => some (.own (.lst xs))
  | [.ro xs] => some (.own (.lst xs))
  | _ => none
abbrev rList (K : PySem.W.Frag) : List V → Hp → VK → Prop := fun xs H Q => ∃ p ys, xs = [.ref p] ∧ (SqL K H p ys ∨ SqT K H p ys) ∧ ∀ l, H l = none → Q (.ref l) (upd H l (.lst ys))
theorem j_list : RLJ X (rList X.K) gList := by
  intro Z F ρ μ δ σ H xs ds s Q S b e q
  unfold gList at e
  split at e
  · cases e
    obtain ⟨v, rfl, hb⟩ := b.one
    obtain ⟨p, vs, rfl, h, r⟩ := hb.lst S
    refine ⟨p, vs, rfl, .inl (.of h), fun l hl => ?_⟩
    obtain ⟨S', vr⟩ := vr_newL S hl r
    exact q _ _ F .refl S' vr
  · cases e
    obtain ⟨v, rfl, hb⟩ := b.one
    obtain ⟨p, vs, rfl, h, r⟩ := hb.tup S
    refine ⟨p, vs, rfl, .inr h, fun l hl => ?_⟩
    obtain ⟨S', vr⟩ := vr_newL S hl r
    exact q _ _ F .refl S' vr
  · cases e
    obtain ⟨v, rfl, hb⟩ := b.one
    obtain ⟨p, vs, rfl, h, r⟩ := hb.ro S
    refine ⟨p, vs, rfl, .inl h, fun l hl => ?_⟩
    obtain ⟨S', vr⟩ := vr_newL S hl r
    exact q _ _ F .refl S' vr
  · cases e
theorem o_list : CallR X (.type "list") (rList X.K) := call_list_of
def gTuple : List D → Option Slot
  | [.lst xs] => some (.fr (.tup xs))
  | [.tup xs] => some (.fr (.tup xs))
  | _ => none
abbrev rTuple (K : PySem.W.Frag) : List V → Hp → VK → Prop := fun xs H Q => ∃ p ys, xs = [.ref p] ∧ ((SqL K H p ys ∧ ∀ l, H l = none → Q (.ref l) (upd H l (.tup ys))) ∨ (SqT K H p ys ∧ Q (.ref p) H))
theorem j_tuple : RLJ X (rTuple X.K) gTuple := by
  intro Z F ρ μ δ σ H xs ds s Q S b e q
  unfold gTuple at e
  split at e
  · cases e
    obtain ⟨v, rfl, hb⟩ := b.one
    obtain ⟨p, vs, rfl, h, r⟩ := hb.lst S
    refine ⟨p, vs, rfl, .inl ⟨.of h, fun l hl => ?_⟩⟩
    obtain ⟨F', l', S', vr⟩ := vr_newT S hl r
    exact q _ _ F' l' S' vr
  · cases e
    obtain ⟨v, rfl, hb⟩ := b.one
    have rp := hb.rep fun o e => by cases o <;> cases e
    obtain ⟨p, vs, rfl, h, r⟩ := hb.tup S
    exact ⟨p, vs, rfl, .inr ⟨h, q _ H F .refl S ⟨rp, fun o p z => by cases z⟩⟩⟩
  · cases e
theorem o_tuple : CallR X (.type "tuple") (rTuple X.K) := call_tuple_of
/-- isinstance(x, T), T a built-in type -/
def tyN : D → Option String
  | .non => some "NoneType"
  | .bl _ => some "bool"
  | .int _ => some "int"
  | .str _ => some "str"
  | .lst _ => some "list"
  | .tup _ => some "tuple"
  | .dct _ _ => some "dict"
  | _ => none
def gIsi : List D → Option Slot
  | [d, .ty T] => match tyN d with
    | some t => (kitB t T).map fun b => tb b
    | none => none
  | _ => none
theorem Bor.ty {F H : Hp} {ρ : List Addr} {v : V} {T : String} (h : Bor X.K X.mg F ρ H v (.ty T)) : v = .ty T := by
  cases h.rep (fun o e => by cases o <;> cases e)
  rfl
theorem tyX_tup {H : Hp} {p : Addr} {vs : List V} (h : SqT X.K H p vs) : TyX X.K H (.ref p) (.type "tuple") := by
  rcases h with (h | ⟨ob, h⟩) | ⟨o, its, n, hk, hc, _⟩
  · exact .base (.tup h)
  · exact .fTuple h
  · exact .kTuple hk hc
theorem tyX_of {Z F H : Hp} {ρ : List Addr} {μ : Mem} {δ : Loc} {σ : St} {v : V} {d : D} {t : String} (S : Sim X.K X.mg Z F ρ μ δ σ H) (h : Bor X.K X.mg F ρ H v d) (e : tyN d = some t) : TyX X.K H v (.type t) := by
  cases d <;> first | (cases e; done) | skip
  · cases e; cases h.non; exact .base .non
  · cases e; cases h.bl; exact .base (.bl _)
  · cases e; cases h.int; exact .base (.int _)
  · cases e; cases h.str; exact .base (.str _)
  · cases e; obtain ⟨p, vs, rfl, q, _⟩ := h.lst S; exact .base (.lst q)
  · cases e; obtain ⟨p, vs, rfl, q, _⟩ := h.tup S; exact tyX_tup q
  · cases e
    obtain ⟨p, vs, rfl, q, _⟩ := h.dct S
    rcases q with q | ⟨ob, q⟩
    · exact .base (.dK q)
    · exact .fDict q
theorem j_isi : RLJ X (rIsi X.K) gIsi := by
  intro Z F ρ μ δ σ H xs ds s Q S b e q
  unfold gIsi at e
  split at e
  · rename_i d T
    cases et : tyN d with
    | none => simp only [et] at e; cases e
    | some t =>
      simp only [et] at e
      obtain ⟨k, e1, e2⟩ := Option.map_eq_some_iff.mp e
      subst e2
      obtain ⟨v, w, rfl, h1, h2⟩ := b.two
      cases h2.ty
      exact ⟨v, _, _, _, k, rfl, .ty T, tyX_of S h1 et, kit_ty e1, q _ H F .refl S .bl⟩
  · cases e
/-- int(x), str(x) -/
def gInt1 : List D → Option Slot
  | [.int i] => some (.fr (.int i))
  | [.bl k] => some (.fr (.int (if k then 1 else 0)))
  | _ => none
abbrev rInt1 : List V → Hp → VK → Prop := fun xs H Q => (∃ i, xs = [.int i] ∧ Q (.int i) H) ∨ ∃ k, xs = [.bl k] ∧ Q (.int (if k then 1 else 0)) H
theorem j_int1 : RLJ X rInt1 gInt1 := by
  intro Z F ρ μ δ σ H xs ds s Q S b e q
  unfold gInt1 at e
  split at e
  · cases e
    obtain ⟨v, rfl, hb⟩ := b.one
    cases hb.int
    exact .inl ⟨_, rfl, q _ H F .refl S ⟨.int, fun o p z => by cases z⟩⟩
  · cases e
    obtain ⟨v, rfl, hb⟩ := b.one
    cases hb.bl
    exact .inr ⟨_, rfl, q _ H F .refl S ⟨.int, fun o p z => by cases z⟩⟩
  · cases e
theorem o_int1 : CallR X (.type "int") rInt1 := call_int1

/-! ### methods -/
def isTy (T : String) : D → Bool
  | .str _ => T == "str"
  | .lst _ => T == "list"
  | _ => false
def RMJ (X : Cx) (r : V → List V → Hp → VK → Prop) (g : D → List D → Option Slot) : Prop := ∀ Z F ρ μ δ σ H x xs dx ds s Q, Sim X.K X.mg Z F ρ μ δ σ H → Bor X.K X.mg F ρ H x dx → BorL X.K X.mg F ρ H xs ds → g dx ds = some s →
  (∀ v H' F', Le Z F F' → Sim X.K X.mg Z F' ρ μ δ σ H' → VR X.K X.mg Z F' ρ δ σ H' v s → Q v H') → r x xs H Q
def mM (T : String) (g : D → List D → Option Slot) (o : Opn) (os : List Opn) : ME := fun δ μ => (o.ev δ μ).bind fun r δ1 μ1 => match r.at δ1 μ1 with
  | some d0 => if isTy T d0 = true then (evs os δ1 μ1).bind fun rs δ2 μ2 => match r.at δ2 μ2, OR.ats δ2 μ2 rs with
      | some d, some ds => lift (g d ds) δ2 μ2
      | _, _ => .bad
    else .bad
  | none => .bad
theorem isTy_V {Z F H : Hp} {ρ : List Addr} {μ : Mem} {δ : Loc} {σ : St} {v : V} {d : D} {T : String} (S : Sim X.K X.mg Z F ρ μ δ σ H) (h : Bor X.K X.mg F ρ H v d) (e : isTy T d = true) : tyV X.K T v H := by
  cases d <;> first | (cases e; done) | skip
  · have e' : (T == "str") = true := e
    cases h.str
    exact beq_iff_eq.mp e'
  · have e' : (T == "list") = true := e
    obtain ⟨p, vs, rfl, q, _⟩ := h.lst S
    exact .inl ⟨beq_iff_eq.mp e', vs, .of q⟩
theorem mM_read {T : String} {r : V → List V → Hp → VK → Prop} {g : D → List D → Option Slot} {oo : Opn} {os : List Opn} (hr : RMJ X r g) : ∀ σ H Q, rdE X W (mM T g oo os) σ H Q → tBM X.K T r (rdO X W oo) (rdOs X W os) σ H Q := by
  intro σ H Q ⟨Z, F, ρ, μ, δ, S, q⟩
  refine ⟨Z, F, ρ, μ, δ, S, (FinE.bind q).imp fun ra δ1 μ1 H1 F1 ρ1 l lr S1 ⟨_, _, _, p⟩ x hx => ?_⟩
  cases e0 : ra.at δ1 μ1 with
  | none => simp only [e0] at p; exact p.elim
  | some d0 =>
    simp only [e0] at p
    by_cases ht : isTy T d0 = true
    · rw [if_pos ht] at p
      refine ⟨isTy_V S1 (hx.bor S1 e0) ht, Z, F1, ρ1, μ1, δ1, S1, p.bind.imp fun rs δ2 μ2 H2 F2 ρ2 l2 lr2 S2 ⟨_, _, _, p2⟩ xs hxs => ?_⟩
      cases ea : ra.at δ2 μ2 with
      | none => simp only [ea] at p2; exact p2.elim
      | some d =>
        cases eb : OR.ats δ2 μ2 rs with
        | none => simp only [ea, eb] at p2; exact p2.elim
        | some ds =>
          simp only [ea, eb] at p2
          unfold lift at p2
          cases eg : g d ds with
          | none => simp only [eg] at p2; exact p2.elim
          | some s =>
            simp only [eg] at p2
            exact hr Z F2 ρ2 μ2 δ2 σ H2 x xs d ds s Q S2 ((hx.up l2 lr2).bor S2 ea) (hxs.bor S2 eb) eg fun v H' F' l' S' vr => p2 H' F' ρ2 l' .refl S' v vr
    · rw [if_neg ht] at p; exact p.elim
/-- o.m(e, ..) of a built-in type that changes nothing -/
theorem je_bm {T id : String} {name : Str} {r : V → List V → Hp → VK → Prop} {g : D → List D → Option Slot} {oo : Opn} {os : List Opn} (pa : PlainAttrs T) (slot : PySem.Slot T name id) (hty : typeOf (.builtin id) = pure (.type "method_descriptor")) (hm : MtR X id r) (hr : RMJ X r g) (ho : JO X W o oo) (ha : JOs X W (e :: es) os)
    (hbase : attributeBase o name X.env (eval o X.env) = eval o X.env := by rfl)
    (hfew : ((backTo pos (starEach (e :: es) X.env)).all (fun x => !x.1) && (backToKw pos (keywordEach [] X.env)).all (fun x => x.1.isSome)
      && decide ((e :: es).length + ([] : List Keyword).length + (if ([] : List Keyword).isEmpty then 0 else 1) < 30)) = true := by rfl)
    (hline : (apos.endLine == pos.line) = true := by rfl) (hs : starEach (e :: es) X.env = (false, eval e X.env) :: starEach es X.env := by rfl) (hplain : (backTo pos (starEach es X.env)).any (·.1) = false := by rfl) :
    JE X W (.Call (.Attribute o name apos) (e :: es) [] pos) (mM T g oo os) :=
  (pe_bm pa slot hty hm ho ha hbase hfew hline hs hplain).imp (mM_read hr)
theorem je_bm0 {T id : String} {name : Str} {r : V → List V → Hp → VK → Prop} {g : D → List D → Option Slot} {oo : Opn} (pa : PlainAttrs T) (slot : PySem.Slot T name id) (hty : typeOf (.builtin id) = pure (.type "method_descriptor")) (hm : MtR X id r) (hr : RMJ X r g) (ho : JO X W o oo)
    (hbase : attributeBase o name X.env (eval o X.env) = eval o X.env := by rfl) (hline : (apos.endLine == pos.line) = true := by rfl) :
    JE X W (.Call (.Attribute o name apos) [] [] pos) (mM T g oo []) := by
  refine (pe_bm0 pa slot hty hm ho hbase hline).imp fun σ H Q h => ?_
  obtain ⟨Z, F, ρ, μ, δ, S, q⟩ := mM_read hr σ H Q h
  refine ⟨Z, F, ρ, μ, δ, S, q.imp fun ra δ1 μ1 H1 F1 ρ1 l lr S1 p x hx => ?_⟩
  obtain ⟨ty, Z2, F2, ρ2, μ2, δ2, S2, q2⟩ := p x hx
  exact ⟨ty, q2 H1 F2 ρ2 .refl .refl S2 [] .nil⟩
/-- texts -/
def gLower : D → List D → Option Slot
  | .str x, [] => if x.all (· < 128) && decide (x.length ≤ 5592405) then some (.fr (.str (x.map PyProof.Rows.lo1))) else none
  | _, _ => none
def gUpper : D → List D → Option Slot
  | .str x, [] => if x.all (· < 128) && decide (x.length ≤ 5592405) then some (.fr (.str (x.map PyProof.Rows.up1))) else none
  | _, _ => none
theorem lower_tx {x : Tx} (h : x.all (· < 128) = true) : Txt.lower (toS x) = toS (x.map PyProof.Rows.lo1) := by
  rw [PyProof.Rows.lower_ascii fun c hc => of_decide_eq_true (List.all_eq_true.mp h c hc)]
  simp [toS]
theorem upper_tx {x : Tx} (h : x.all (· < 128) = true) : Txt.upper (toS x) = toS (x.map PyProof.Rows.up1) := by
  rw [PyProof.Rows.upper_ascii fun c hc => of_decide_eq_true (List.all_eq_true.mp h c hc)]
  simp [toS]
theorem BorL.nil_of {F H : Hp} {ρ : List Addr} {xs : List V} (h : BorL X.K X.mg F ρ H xs []) : xs = [] := by cases h; rfl
theorem j_lower : RMJ X (fun x xs H Q => ∃ a, x = .str a ∧ xs = [] ∧ a.length ≤ 5592405 ∧ Q (.str (Txt.lower a)) H) gLower := by
  intro Z F ρ μ δ σ H x xs dx ds s Q S bx bs e q
  unfold gLower at e
  split at e
  · rename_i t
    by_cases h : (t.all (· < 128) && decide (t.length ≤ 5592405)) = true
    · rw [if_pos h] at e
      cases e
      have h' := Bool.and_eq_true_iff.mp h
      cases bx.str
      exact ⟨_, rfl, bs.nil_of, by rw [toS_len]; exact of_decide_eq_true h'.2, by rw [lower_tx h'.1]; exact q _ H F .refl S ⟨.str, fun o p z => by cases z⟩⟩
    · rw [if_neg h] at e; cases e
  · cases e
theorem j_upper : RMJ X (fun x xs H Q => ∃ a, x = .str a ∧ xs = [] ∧ a.length ≤ 5592405 ∧ Q (.str (Txt.upper a)) H) gUpper := by
  intro Z F ρ μ δ σ H x xs dx ds s Q S bx bs e q
  unfold gUpper at e
  split at e
  · rename_i t
    by_cases h : (t.all (· < 128) && decide (t.length ≤ 5592405)) = true
    · rw [if_pos h] at e
      cases e
      have h' := Bool.and_eq_true_iff.mp h
      cases bx.str
      exact ⟨_, rfl, bs.nil_of, by rw [toS_len]; exact of_decide_eq_true h'.2, by rw [upper_tx h'.1]; exact q _ H F .refl S ⟨.str, fun o p z => by cases z⟩⟩
    · rw [if_neg h] at e; cases e
  · cases e
def strsD : List D → Option (List Tx)
  | [] => some []
  | .str i :: r => (strsD r).map (i :: ·)
  | _ :: _ => none
theorem strsD_map : ∀ {ds : List D} {ns : List Tx}, strsD ds = some ns → ds = ns.map .str
  | [], ns, e => by cases e; rfl
  | d :: r, ns, e => by
    cases d <;> first | (cases e; done) | skip
    rename_i i
    unfold strsD at e
    obtain ⟨m, e1, e2⟩ := Option.map_eq_some_iff.mp e
    subst e2
    rw [strsD_map e1]; rfl
theorem strsD_of : ∀ ns : List Tx, strsD (ns.map .str) = some ns
  | [] => rfl
  | n :: ns => by show (strsD (ns.map D.str)).map (n :: ·) = _; rw [strsD_of ns]; rfl
/-- sep.join(xs) -/
def joinT (sep : Tx) : List Tx → Tx
  | [] => []
  | [x] => x
  | x :: r => x ++ sep ++ joinT sep r
def gJoin : D → List D → Option Slot
  | .str x, [.lst ys] => match strsD ys with
    | some zs => if decide ((zs.map List.length).sum + x.length * zs.length ≤ 16777216) then some (.fr (.str (joinT x zs))) else none
    | none => none
  | .str x, [.tup ys] => match strsD ys with
    | some zs => if decide ((zs.map List.length).sum + x.length * zs.length ≤ 16777216) then some (.fr (.str (joinT x zs))) else none
    | none => none
  | _, _ => none
end
end FL

/-! Part E: statements, loops. -/
namespace FL
open PySem L2

section
variable {K : PySem.W.Frag} {mg : Str → Option Value} {Z F F' : Hp} {ρ ρ' : List Addr} {μ : Mem} {δ : Loc} {σ : St} {H H' : Hp} {p : Addr} {o : HO} {v : V} {s : Slot}
theorem Sim.put {i : Nat} (S : Sim K mg Z F ρ μ δ σ H) (h : VR K mg Z F ρ δ σ H v s) : Sim K mg Z F ρ μ (δ.set i (some s)) (σ.set i (some v)) H := by
  by_cases hi : i < δ.length
  · exact S.store h hi
  · rw [List.set_eq_of_length_le (by omega), List.set_eq_of_length_le (by rw [S.len]; omega)]
    exact S
theorem Sim.drop (S : Sim K mg Z F ρ μ δ σ H) : Sim K mg Z F ρ μ [] [] H :=
  ⟨S.le, S.zk, rfl, fun i s e => by simp at e, fun i j p s s' e => by simp at e, S.mem, S.mlen, S.nod⟩
/-- one more thing is kept as it is -/
theorem Sim.guard (S : Sim K mg Z F ρ μ δ σ H) (hp : H p = some o) (fr : Free Z F ρ p) (no : ∀ (i : Nat) s, δ[i]? = some (some (.own s)) → σ[i]? ≠ some (some (.ref p))) : Sim K mg (upd Z p o) F ρ μ δ σ H := by
  refine ⟨S.le, fun q u h => ?_, S.len, fun i t e => ?_, S.apart, fun k c e => ?_, S.mlen, S.nod⟩
  · by_cases z : q = p
    · subst z; rw [upd_same] at h; cases h; exact hp
    · rw [upd_ne z] at h; exact S.zk q u h
  · obtain ⟨w, e1, r⟩ := S.slot i t e
    refine ⟨w, e1, ?_⟩
    cases t with
    | fr d => exact r
    | own c =>
      obtain ⟨q, ev, f1, r⟩ := r
      subst ev
      have ne : q ≠ p := fun z => by subst z; exact no i c e e1
      exact ⟨q, rfl, ⟨f1.f, by rw [upd_ne ne]; exact f1.z, f1.r⟩, r⟩
  · obtain ⟨a, e1, f1, f2, r⟩ := S.mem k c e
    have ne : a ≠ p := fun z => by subst z; exact fr.r (List.mem_of_getElem? e1)
    exact ⟨a, e1, f1, by rw [upd_ne ne]; exact f2, r⟩
theorem guard_z {q : Addr} (h : upd Z p o q = none) : q ≠ p ∧ Z q = none := by
  by_cases z : q = p
  · subst z; rw [upd_same] at h; cases h
  · rw [upd_ne z] at h; exact ⟨z, h⟩
theorem Sim.unguard (S : Sim K mg (upd Z p o) F ρ μ δ σ H) (hz : Z p = none) : Sim K mg Z F ρ μ δ σ H := by
  refine ⟨S.le, fun q u h => S.zk q u ?_, S.len, fun i t e => ?_, S.apart, fun k c e => ?_, S.mlen, S.nod⟩
  · rw [upd_ne (fun z => by subst z; rw [hz] at h; cases h)]; exact h
  · obtain ⟨w, e1, r⟩ := S.slot i t e
    refine ⟨w, e1, ?_⟩
    cases t with
    | fr d => exact r
    | own c =>
      obtain ⟨q, ev, f1, r⟩ := r
      exact ⟨q, ev, ⟨f1.f, (guard_z f1.z).2, f1.r⟩, r⟩
  · obtain ⟨a, e1, f1, f2, r⟩ := S.mem k c e
    exact ⟨a, e1, f1, (guard_z f2).2, r⟩
theorem Sim.guarded (S : Sim K mg (upd Z p o) F ρ μ δ σ H) : H p = some o := S.zk p o upd_same
theorem Sim.guardNo (S : Sim K mg (upd Z p o) F ρ μ δ σ H) : ∀ (i : Nat) s, δ[i]? = some (some (.own s)) → σ[i]? ≠ some (some (.ref p)) := by
  intro i c e e1
  obtain ⟨w, e2, q, ev, f1, r⟩ := S.slot i _ e
  rw [e1] at e2; cases e2; cases ev
  exact (guard_z f1.z).1 rfl
theorem Le.unguard (l : Le (upd Z p o) F F') : Le Z F F' := ⟨l.to, fun q u h => (l.new q u h).elim .inl fun z => .inr (guard_z z).2⟩
theorem LeR.unguard (l : LeR (upd Z p o) ρ ρ') : LeR Z ρ ρ' := ⟨l.to, fun q h => (l.new q h).elim .inl fun z => .inr (guard_z z).2⟩
theorem Free.on (fr : Free Z F ρ p) (l : Le (upd Z p o) F F') (lr : LeR (upd Z p o) ρ ρ') : Free Z F' ρ' p := by
  refine ⟨?_, fr.z, fun h => ?_⟩
  · cases e : F' p with
    | none => rfl
    | some u =>
      rcases l.new p u e with h | h
      · rw [fr.f] at h; cases h
      · exact absurd rfl (guard_z h).1
  · rcases lr.new p h with h | h
    · exact fr.r h
    · exact absurd rfl (guard_z h).1
/-- all that the slots own is kept as it is -/
def Held (δ : Loc) (σ : St) (p : Addr) : Prop := ∃ (i : Nat) (s : Own), δ[i]? = some (some (.own s)) ∧ σ[i]? = some (some (.ref p))
open Classical in
noncomputable def zone (Z H : Hp) (δ : Loc) (σ : St) : Hp := fun p => if Held δ σ p then H p else Z p
theorem zone_in (h : Held δ σ p) : zone Z H δ σ p = H p := if_pos h
theorem zone_out (h : ¬ Held δ σ p) : zone Z H δ σ p = Z p := if_neg h
theorem Sim.held (S : Sim K mg Z F ρ μ δ σ H) (h : Held δ σ p) : Free Z F ρ p ∧ ∃ o, H p = some o := by
  obtain ⟨i, c, e1, e2⟩ := h
  obtain ⟨w, e3, q, ev, f1, r⟩ := S.slot i _ e1
  rw [e2] at e3; cases e3; cases ev
  exact ⟨f1, r.some⟩
theorem Sim.zone_none (S : Sim K mg Z F ρ μ δ σ H) (h : zone Z H δ σ p = none) : ¬ Held δ σ p ∧ Z p = none := by
  by_cases c : Held δ σ p
  · rw [zone_in c] at h
    obtain ⟨_, o, e⟩ := S.held c
    rw [e] at h; cases h
  · rw [zone_out c] at h; exact ⟨c, h⟩
theorem Sim.enter (S : Sim K mg Z F ρ μ δ σ H) : Sim K mg (zone Z H δ σ) F ρ μ [] [] H := by
  refine ⟨S.le, fun q u h => ?_, rfl, fun i s e => by simp at e, fun i j p s s' e => by simp at e, fun k c e => ?_, S.mlen, S.nod⟩
  · by_cases c : Held δ σ q
    · rw [zone_in c] at h; exact h
    · rw [zone_out c] at h; exact S.zk q u h
  · obtain ⟨a, e1, f1, f2, r⟩ := S.mem k c e
    refine ⟨a, e1, f1, ?_, r⟩
    rw [zone_out fun h => (S.held h).1.r (List.mem_of_getElem? e1)]
    exact f2
theorem Sim.leLeave (S : Sim K mg Z F ρ μ δ σ H) (l : Le (zone Z H δ σ) F F') : Le Z F F' := ⟨l.to, fun q u h => (l.new q u h).elim .inl fun z => .inr (S.zone_none z).2⟩
theorem Sim.leRLeave (S : Sim K mg Z F ρ μ δ σ H) (l : LeR (zone Z H δ σ) ρ ρ') : LeR Z ρ ρ' := ⟨l.to, fun q h => (l.new q h).elim .inl fun z => .inr (S.zone_none z).2⟩
theorem Sim.leave {μ' : Mem} (S : Sim K mg Z F ρ μ δ σ H) (S1 : Sim K mg (zone Z H δ σ) F' ρ' μ' [] [] H') (l : Le (zone Z H δ σ) F F') (lr : LeR (zone Z H δ σ) ρ ρ') : Sim K mg Z F' ρ' μ' δ σ H' := by
  refine ⟨S1.le, fun q u h => S1.zk q u ?_, S.len, fun i t e => ?_, S.apart, fun k c e => ?_, S1.mlen, S1.nod⟩
  · rw [zone_out fun c => by rw [(S.held c).1.z] at h; cases h]; exact h
  · obtain ⟨w, e1, r⟩ := S.slot i t e
    refine ⟨w, e1, ?_⟩
    cases t with
    | fr d => exact Rep.up l.to lr.to r
    | own c =>
      obtain ⟨q, ev, f1, r⟩ := r
      subst ev
      have hq : Held δ σ q := ⟨i, c, e, e1⟩
      obtain ⟨o, eo⟩ := r.some
      have z1 : zone Z H δ σ q = some o := by rw [zone_in hq]; exact eo
      refine ⟨q, rfl, ⟨?_, f1.z, fun hm => ?_⟩, r.up l.to lr.to (by rw [S1.zk q o z1, eo])⟩
      · cases e2 : F' q with
        | none => rfl
        | some u =>
          rcases l.new q u e2 with h | h
          · rw [f1.f] at h; cases h
          · rw [z1] at h; cases h
      · rcases lr.new q hm with h | h
        · exact f1.r h
        · rw [z1] at h; cases h
  · obtain ⟨a, e1, f1, f2, r⟩ := S1.mem k c e
    exact ⟨a, e1, f1, (S.zone_none f2).2, r⟩
theorem Sim.came (S : Sim K mg Z F ρ μ δ σ H) (h : SlotR K mg (zone Z H δ σ) F' ρ' H' v s) : VR K mg Z F' ρ' δ σ H' v s := by
  cases s with
  | fr d => exact ⟨h, fun o p z => by cases z⟩
  | own c =>
    obtain ⟨q, ev, f1, r⟩ := h
    obtain ⟨n1, n2⟩ := S.zone_none f1.z
    refine ⟨⟨q, ev, ⟨f1.f, n2, f1.r⟩, r⟩, fun o p z1 z2 i o' e1 e2 => ?_⟩
    rw [ev] at z2; cases z2
    exact n1 ⟨i, o', e1, e2⟩
end

/-! ### statements -/
inductive OutS where
  | nx (δ : Loc) (μ : Mem)
  | rt (s : Slot) (μ : Mem)
  | bk (δ : Loc) (μ : Mem)
  | ct (δ : Loc) (μ : Mem)
  | exc (x : Exc) (δ : Loc) (μ : Mem)
  | bad
abbrev MS := Loc → Mem → OutS
def Out.thn {α : Type} (r : Out α) (f : α → Loc → Mem → OutS) : OutS :=
  match r with
  | .ok a δ μ => f a δ μ
  | .exc x δ μ => .exc x δ μ
  | .bad => .bad
def OutS.seq (r : OutS) (k : MS) : OutS :=
  match r with
  | .nx δ μ => k δ μ
  | .rt s μ => .rt s μ
  | .bk δ μ => .bk δ μ
  | .ct δ μ => .ct δ μ
  | .exc x δ μ => .exc x δ μ
  | .bad => .bad
def OutS.loop (r : OutS) (k : MS) : OutS :=
  match r with
  | .nx δ μ => k δ μ
  | .ct δ μ => k δ μ
  | .bk δ μ => .nx δ μ
  | .rt s μ => .rt s μ
  | .exc x δ μ => .exc x δ μ
  | .bad => .bad
section
variable (X : Cx) (W : WX)
def FinS (Z F : Hp) (ρ : List Addr) (D : Ends) : OutS → Prop
  | .nx δ μ => ∀ σ' H' F' ρ', Le Z F F' → LeR Z ρ ρ' → Sim X.K X.mg Z F' ρ' μ δ σ' H' → D.nx σ' H'
  | .bk δ μ => ∀ σ' H' F' ρ', Le Z F F' → LeR Z ρ ρ' → Sim X.K X.mg Z F' ρ' μ δ σ' H' → D.bk σ' H'
  | .ct δ μ => ∀ σ' H' F' ρ', Le Z F F' → LeR Z ρ ρ' → Sim X.K X.mg Z F' ρ' μ δ σ' H' → D.ct σ' H'
  | .rt s μ => ∀ v H' F' ρ', Le Z F F' → LeR Z ρ ρ' → Sim X.K X.mg Z F' ρ' μ [] [] H' → SlotR X.K X.mg Z F' ρ' H' v s → D.rt v H'
  | .exc x δ μ => ∀ c d σ' H' F' ρ', Le Z F F' → LeR Z ρ ρ' → Sim X.K X.mg Z F' ρ' μ δ σ' H' → ExcR X.K X.mg F' ρ' c d x → W c d σ' H'
  | .bad => False
def rdS (m : MS) : TS := fun D σ H => ∃ Z F ρ μ δ, Sim X.K X.mg Z F ρ μ δ σ H ∧ FinS X W Z F ρ D (m δ μ)
end
theorem _root_.L2.PS.imp {X : Cx} {s : Stmt} {t t' : TS} (h : PS X s t) (hi : ∀ D σ H, t' D σ H → t D σ H) : PS X s t' := ⟨fun pins s σ H D I q => h.run pins s σ H D I (hi D σ H q)⟩
theorem _root_.L2.PSs.imp {X : Cx} {s : List Stmt} {t t' : TS} (h : PSs X s t) (hi : ∀ D σ H, t' D σ H → t D σ H) : PSs X s t' := ⟨fun pins s σ H D I q => h.run pins s σ H D I (hi D σ H q)⟩
abbrev JS (X : Cx) (W : WX) (s : Stmt) (m : MS) : Prop := PS X s (rdS X W m)
abbrev JSs (X : Cx) (W : WX) (s : List Stmt) (m : MS) : Prop := PSs X s (rdS X W m)

section
variable {X : Cx} {W : WX} {Z F F1 : Hp} {ρ ρ1 : List Addr} {D : Ends} {σ : St} {H : Hp} {μ : Mem} {δ : Loc}
theorem FinS.mono {r : OutS} (h : FinS X W Z F ρ D r) (l : Le Z F F1) (lr : LeR Z ρ ρ1) : FinS X W Z F1 ρ1 D r := by
  cases r with
  | nx δ μ => exact fun σ' H' F' ρ' l' lr' S => h σ' H' F' ρ' (l.trans l') (lr.trans lr') S
  | bk δ μ => exact fun σ' H' F' ρ' l' lr' S => h σ' H' F' ρ' (l.trans l') (lr.trans lr') S
  | ct δ μ => exact fun σ' H' F' ρ' l' lr' S => h σ' H' F' ρ' (l.trans l') (lr.trans lr') S
  | rt s μ => exact fun v H' F' ρ' l' lr' S r => h v H' F' ρ' (l.trans l') (lr.trans lr') S r
  | exc x δ μ => exact fun c d σ' H' F' ρ' l' lr' S e => h c d σ' H' F' ρ' (l.trans l') (lr.trans lr') S e
  | bad => exact h
theorem FinS.thn {α : Type} {r : Out α} {f : α → Loc → Mem → OutS} (h : FinS X W Z F ρ D (r.thn f)) :
    FinE X W Z F ρ σ (fun a δ μ F' ρ' H' => Sim X.K X.mg Z F' ρ' μ δ σ H' ∧ FinS X W Z F' ρ' D (f a δ μ)) r := by
  cases r with
  | ok a δ μ => exact fun H' F' ρ' l lr S => ⟨S, h.mono l lr⟩
  | exc x δ μ => exact fun c d H' F' ρ' l lr S e => h c d σ H' F' ρ' l lr S e
  | bad => exact h
theorem FinS.nx {δ : Loc} {μ : Mem} {σ' : St} {H' : Hp} (h : FinS X W Z F ρ D (.nx δ μ)) (S : Sim X.K X.mg Z F ρ μ δ σ' H') : D.nx σ' H' := h σ' H' F ρ .refl .refl S
theorem FinS.seq {r : OutS} {k : MS} (h : FinS X W Z F ρ D (r.seq k)) : FinS X W Z F ρ { D with nx := rdS X W k D } r := by
  cases r with
  | nx δ μ => exact fun σ' H' F' ρ' l lr S => ⟨Z, F', ρ', μ, δ, S, FinS.mono h l lr⟩
  | bk δ μ => exact h
  | ct δ μ => exact h
  | rt s μ => exact h
  | exc x δ μ => exact h
  | bad => exact h
theorem FinS.loop {r : OutS} {k : MS} {N : St → Hp → Prop} (h : FinS X W Z F ρ D (r.loop k)) (hN : ∀ σ' H' F' ρ' μ δ, Le Z F F' → LeR Z ρ ρ' → Sim X.K X.mg Z F' ρ' μ δ σ' H' → FinS X W Z F' ρ' D (k δ μ) → N σ' H') :
    FinS X W Z F ρ { D with nx := N, ct := N, bk := D.nx } r := by
  cases r with
  | nx δ μ => exact fun σ' H' F' ρ' l lr S => hN σ' H' F' ρ' μ δ l lr S (FinS.mono h l lr)
  | ct δ μ => exact fun σ' H' F' ρ' l lr S => hN σ' H' F' ρ' μ δ l lr S (FinS.mono h l lr)
  | bk δ μ => exact h
  | rt s μ => exact h
  | exc x δ μ => exact h
  | bad => exact h
variable {st : Stmt} {sts rest : List Stmt} {e : Expr} {pos : Pos}
def mPass : MS := fun δ μ => .nx δ μ
def mSeq (m n : MS) : MS := fun δ μ => (m δ μ).seq n
theorem jss_nil : JSs X W [] mPass := pss_nil.imp fun D σ H ⟨Z, F, ρ, μ, δ, S, q⟩ => q.nx S
theorem jss_cons {m n : MS} (h : JS X W st m) (t : JSs X W rest n) : JSs X W (st :: rest) (mSeq m n) :=
  (pss_cons h t).imp fun D σ H ⟨Z, F, ρ, μ, δ, S, q⟩ => ⟨Z, F, ρ, μ, δ, S, FinS.seq q⟩
theorem jss_one {m : MS} (h : JS X W st m) : JSs X W [st] m := pss_one h
theorem js_pass : JS X W (.Pass pos) mPass := ps_pass.imp fun D σ H ⟨Z, F, ρ, μ, δ, S, q⟩ => q.nx S
theorem js_break : JS X W (.Break pos) (fun δ μ => .bk δ μ) := ps_break.imp fun D σ H ⟨Z, F, ρ, μ, δ, S, q⟩ => q σ H F ρ .refl .refl S
theorem js_continue : JS X W (.Continue pos) (fun δ μ => .ct δ μ) := ps_continue.imp fun D σ H ⟨Z, F, ρ, μ, δ, S, q⟩ => q σ H F ρ .refl .refl S
theorem js_doc {x j pos pos'} : JS X W (.Expr (.Constant (.str x) j pos) pos') mPass := ps_doc.imp fun D σ H ⟨Z, F, ρ, μ, δ, S, q⟩ => q.nx S
/-- code that is not reached -/
def mBad : MS := fun _ _ => .bad
theorem js_never : JS X W st mBad := ps_never.imp fun D σ H ⟨Z, F, ρ, μ, δ, S, q⟩ => q
theorem jss_never : JSs X W sts mBad := pss_never.imp fun D σ H ⟨Z, F, ρ, μ, δ, S, q⟩ => q
def mEx (m : ME) : MS := fun δ μ => (m δ μ).thn fun _ δ1 μ1 => .nx δ1 μ1
theorem js_expr {m : ME} (he : JE X W e m) (hs : swapsWith e none pos.line X.env = pure false := by rfl) : JS X W (.Expr e pos) (mEx m) :=
  (ps_expr he hs).imp fun D σ H ⟨Z, F, ρ, μ, δ, S, q⟩ => ⟨Z, F, ρ, μ, δ, S, (FinS.thn q).imp fun a δ1 μ1 H1 F1 ρ1 l lr S1 ⟨_, p⟩ v vr => p.nx S1⟩
def mRet (m : ME) : MS := fun δ μ => (m δ μ).thn fun s _ μ1 => .rt s μ1
theorem js_ret {m : ME} (he : JE X W e m) : JS X W (.Return (some e) pos) (mRet m) :=
  (ps_ret he).imp fun D σ H ⟨Z, F, ρ, μ, δ, S, q⟩ => ⟨Z, F, ρ, μ, δ, S, (FinS.thn q).imp fun a δ1 μ1 H1 F1 ρ1 l lr S1 ⟨_, p⟩ v vr => p v H1 F1 ρ1 .refl .refl S1.drop vr.r⟩
def mRetN : MS := fun _ μ => .rt (.fr .non) μ
theorem js_retN : JS X W (.Return none pos) mRetN := ps_retN.imp fun D σ H ⟨Z, F, ρ, μ, δ, S, q⟩ => q .non H F ρ .refl .refl S.drop .non
def mIfS (t : MT) (m n : MS) : MS := fun δ μ => (t δ μ).thn fun b δ1 μ1 => if b = true then m δ1 μ1 else n δ1 μ1
theorem js_if {c : Expr} {a b : List Stmt} {t : MT} {m n : MS} (hc : JT X W c t) (ha : JSs X W a m) (hb : JSs X W b n) : JS X W (.If c a b pos) (mIfS t m n) := by
  refine (ps_if hc ha hb).imp fun D σ H ⟨Z, F, ρ, μ, δ, S, q⟩ => ⟨Z, F, ρ, μ, δ, S, (FinS.thn q).imp fun b δ1 μ1 H1 F1 ρ1 l lr S1 ⟨_, p⟩ => ?_⟩
  cases b with
  | true => exact ⟨Z, F1, ρ1, μ1, δ1, S1, p⟩
  | false => exact ⟨Z, F1, ρ1, μ1, δ1, S1, p⟩
/-- name = e -/
def mSet (i : Nat) (m : ME) : MS := fun δ μ => (m δ μ).thn fun s δ1 μ1 => .nx (δ1.set i (some s)) μ1
theorem set_read {i : Nat} {m : ME} : ∀ D σ H, rdS X W (mSet i m) D σ H → tAsg (rdE X W m) (gName i) D σ H := by
  intro D σ H ⟨Z, F, ρ, μ, δ, S, q⟩
  exact ⟨Z, F, ρ, μ, δ, S, (FinS.thn q).imp fun a δ1 μ1 H1 F1 ρ1 l lr S1 ⟨_, p⟩ v vr => p.nx (S1.put vr)⟩
theorem js_set {i : Nat} {x : Str} {m : ME} {pos' : Pos} (hN : X.N.Nodup) (hi : X.N[i]? = some x) (hx : L2.Loc X.env.scope x) (he : JE X W e m) (hs : swapsWith e (some (.Name x pos')) pos.line X.env = pure false := by rfl) (hf : X.fn x = true ∨ X.env.scope.names.lookup x = some .local := by first | exact .inl rfl | exact .inr rfl | assumption) :
    JS X W (.Assign [.Name x pos'] e pos) (mSet i m) := (ps_set hN hi hx he hs hf).imp set_read

/-! ### while -/
def whileN : Nat → MT → MS → MS
  | 0, _, _ => fun _ _ => .bad
  | n + 1, c, m => fun δ μ => (c δ μ).thn fun b δ1 μ1 => if b = true then (m δ1 μ1).loop (whileN n c m) else .nx δ1 μ1
open Classical in
noncomputable def mWhile (c : MT) (m : MS) : MS := fun δ μ => if h : ∃ n, whileN n c m δ μ ≠ .bad then whileN h.choose c m δ μ else .bad
theorem OutS.loop_mono {r : OutS} {k k' : MS} (h : ∀ δ μ, k δ μ ≠ .bad → k' δ μ = k δ μ) (n : r.loop k ≠ .bad) : r.loop k' = r.loop k := by
  cases r with
  | nx δ μ => exact h δ μ n
  | ct δ μ => exact h δ μ n
  | bk δ μ => rfl
  | rt s μ => rfl
  | exc x δ μ => rfl
  | bad => rfl
theorem Out.thn_mono {α : Type} {r : Out α} {f g : α → Loc → Mem → OutS} (h : ∀ a δ μ, f a δ μ ≠ .bad → g a δ μ = f a δ μ) (n : r.thn f ≠ .bad) : r.thn g = r.thn f := by
  cases r with
  | ok a δ μ => exact h a δ μ n
  | exc x δ μ => rfl
  | bad => rfl
theorem whileN_succ {c : MT} {m : MS} : ∀ (n : Nat) (δ : Loc) (μ : Mem), whileN n c m δ μ ≠ .bad → whileN (n + 1) c m δ μ = whileN n c m δ μ
  | 0, _, _, h => absurd rfl h
  | n + 1, δ, μ, h => by
    unfold whileN at h ⊢
    refine Out.thn_mono (fun b δ1 μ1 hn => ?_) h
    cases b with
    | false => rfl
    | true =>
      simp only [if_true] at hn ⊢
      exact OutS.loop_mono (fun δ μ hh => whileN_succ n δ μ hh) hn
theorem whileN_add {c : MT} {m : MS} (n : Nat) {δ : Loc} {μ : Mem} (h : whileN n c m δ μ ≠ .bad) : ∀ k, whileN (n + k) c m δ μ = whileN n c m δ μ
  | 0 => rfl
  | k + 1 => by
    have ih := whileN_add n h k
    have := whileN_succ (n + k) δ μ (by rw [ih]; exact h)
    rw [← ih, ← this]; rfl
theorem mWhile_of {c : MT} {m : MS} (n : Nat) {δ : Loc} {μ : Mem} (h : whileN n c m δ μ ≠ .bad) : mWhile c m δ μ = whileN n c m δ μ := by
  have hx : ∃ n, whileN n c m δ μ ≠ .bad := ⟨n, h⟩
  unfold mWhile
  rw [dif_pos hx]
  have h2 := hx.choose_spec
  by_cases hle : hx.choose ≤ n
  · have := whileN_add hx.choose h2 (n - hx.choose)
    rw [show hx.choose + (n - hx.choose) = n by omega] at this
    exact this.symm
  · have := whileN_add n h (hx.choose - n)
    rw [show n + (hx.choose - n) = hx.choose by omega] at this
    exact this
/-- one turn -/
theorem mWhile_eq (c : MT) (m : MS) (δ : Loc) (μ : Mem) : mWhile c m δ μ = (c δ μ).thn fun b δ1 μ1 => if b = true then (m δ1 μ1).loop (mWhile c m) else .nx δ1 μ1 := by
  by_cases hx : ∃ n, whileN n c m δ μ ≠ .bad
  · obtain ⟨n, h⟩ := hx
    rw [mWhile_of n h]
    cases n with
    | zero => exact absurd rfl h
    | succ n =>
      unfold whileN at h ⊢
      refine (Out.thn_mono (fun b δ1 μ1 hn => ?_) h).symm
      cases b with
      | false => rfl
      | true =>
        simp only [if_true] at hn ⊢
        exact OutS.loop_mono (fun δ μ hh => mWhile_of n hh) hn
  · have e : mWhile c m δ μ = .bad := by unfold mWhile; rw [dif_neg hx]
    rw [e]
    have all : ∀ n, whileN n c m δ μ = .bad := fun n => Classical.byContradiction fun q => hx ⟨n, q⟩
    cases ec : c δ μ with
    | bad => rfl
    | exc x δ1 μ1 => have := all 1; unfold whileN at this; rw [ec] at this; exact this.symm
    | ok b δ1 μ1 =>
      cases b with
      | false => have := all 1; unfold whileN at this; rw [ec] at this; exact this.symm
      | true =>
        have one : ∀ n, (m δ1 μ1).loop (whileN n c m) = .bad := fun n => by have := all (n + 1); unfold whileN at this; rw [ec] at this; simpa [Out.thn] using this
        show OutS.bad = (m δ1 μ1).loop (mWhile c m)
        cases em : m δ1 μ1 with
        | nx δ2 μ2 =>
          have nn : ¬ ∃ n, whileN n c m δ2 μ2 ≠ .bad := fun ⟨n, q⟩ => q (by have := one n; rw [em] at this; exact this)
          show OutS.bad = mWhile c m δ2 μ2
          unfold mWhile; rw [dif_neg nn]
        | ct δ2 μ2 =>
          have nn : ¬ ∃ n, whileN n c m δ2 μ2 ≠ .bad := fun ⟨n, q⟩ => q (by have := one n; rw [em] at this; exact this)
          show OutS.bad = mWhile c m δ2 μ2
          unfold mWhile; rw [dif_neg nn]
        | bk δ2 μ2 => have := one 0; rw [em] at this; exact this.symm
        | rt s μ2 => have := one 0; rw [em] at this; exact this.symm
        | exc x δ2 μ2 => have := one 0; rw [em] at this; exact this.symm
        | bad => rfl
theorem js_while {c : Expr} {body : List Stmt} {t : MT} {m : MS} (hp : PassesOwn (model X.prog X.w) X.A X.env X.xe) (hc : JT X W c t) (hb : JSs X W body m) : JS X W (.While c body [] pos) (mWhile t m) := by
  refine (ps_while hp hc hb).imp fun D σ H ⟨Z, F, ρ, μ, δ, S, q⟩ => ?_
  by_cases hx : ∃ n, whileN n t m δ μ ≠ .bad
  · obtain ⟨n, h⟩ := hx
    rw [mWhile_of n h] at q
    refine ⟨fun k σ' H' => ∃ F' ρ' μ' δ', Sim X.K X.mg Z F' ρ' μ' δ' σ' H' ∧ FinS X W Z F' ρ' D (whileN k t m δ' μ'), ⟨n, F, ρ, μ, δ, S, q⟩, ?_⟩
    rintro k σ1 H1 ⟨F1, ρ1, μ1, δ1, S1, q1⟩
    cases k with
    | zero => exact q1.elim
    | succ k =>
      unfold whileN at q1
      refine ⟨Z, F1, ρ1, μ1, δ1, S1, (FinS.thn q1).imp fun b δ2 μ2 H2 F2 ρ2 l lr S2 ⟨_, p⟩ => ?_⟩
      cases b with
      | false => exact p.nx S2
      | true =>
        simp only [if_true] at p ⊢
        exact ⟨fun σ' H' => ∃ F' ρ' μ' δ', Sim X.K X.mg Z F' ρ' μ' δ' σ' H' ∧ FinS X W Z F' ρ' D (whileN k t m δ' μ'), fun σ' H' w => ⟨k, Nat.lt_succ_self k, w⟩,
          Z, F2, ρ2, μ2, δ2, S2, p.loop fun σ' H' F' ρ' μ' δ' l' lr' S' q' => ⟨F', ρ', μ', δ', S', q'⟩⟩
  · have e : mWhile t m δ μ = .bad := by unfold mWhile; rw [dif_neg hx]
    rw [e] at q; exact q.elim
end
end FL

/-! Part F: targets, what is walked, for, comprehensions. -/
namespace FL
open PySem L2

section
variable {X : Cx} {W : WX} {e a b : Expr} {es : List Expr} {pos : Pos}
/-! ### targets -/
abbrev TgF := D → Loc → Option Loc
abbrev TgsF := List D → Loc → Option Loc
def rdG (X : Cx) (f : TgF) (is : List Nat) : TG := fun v σ H Q => ∃ Z F ρ μ δ d, Sim X.K X.mg Z F ρ μ δ σ H ∧ Rep X.K X.mg F ρ v d ∧ ∃ δ', f d δ = some δ' ∧
  ∀ σ', (∀ j : Nat, j ∉ is → σ'[j]? = σ[j]?) → σ'.length = σ.length → Sim X.K X.mg Z F ρ μ δ' σ' H → Q σ' H
def rdGs (X : Cx) (f : TgsF) (is : List Nat) : TGs := fun vs σ H Q => ∃ Z F ρ μ δ ds, Sim X.K X.mg Z F ρ μ δ σ H ∧ RepL X.K X.mg F ρ vs ds ∧ ∃ δ', f ds δ = some δ' ∧
  ∀ σ', (∀ j : Nat, j ∉ is → σ'[j]? = σ[j]?) → σ'.length = σ.length → Sim X.K X.mg Z F ρ μ δ' σ' H → Q σ' H
theorem _root_.L2.PG.imp {X : Cx} {e : Expr} {t t' : TG} (h : PG X e t) (hi : ∀ v σ H Q, t' v σ H Q → t v σ H Q) : PG X e t' := ⟨fun pins s σ H v u Q I r q => h.run pins s σ H v u Q I r (hi v σ H Q q)⟩
theorem _root_.L2.PGs.imp {X : Cx} {e : List Expr} {t t' : TGs} (h : PGs X e t) (hi : ∀ v σ H Q, t' v σ H Q → t v σ H Q) : PGs X e t' := ⟨fun pins s σ H v u Q I r q => h.run pins s σ H v u Q I r (hi v σ H Q q)⟩
abbrev JG (X : Cx) (e : Expr) (f : TgF) (is : List Nat) : Prop := PG X e (rdG X f is)
abbrev JGs (X : Cx) (e : List Expr) (f : TgsF) (is : List Nat) : Prop := PGs X e (rdGs X f is)
def tgV (i : Nat) : TgF := fun d δ => some (δ.set i (some (.fr d)))
theorem jg_v {i : Nat} {x : Str} (hN : X.N.Nodup) (hi : X.N[i]? = some x) (hx : L2.Loc X.env.scope x) (hf : X.fn x = true ∨ X.env.scope.names.lookup x = some .local := by first | exact .inl rfl | exact .inr rfl | assumption) : JG X (.Name x pos) (tgV i) [i] :=
  (pg_name hN hi hx hf).imp fun v σ H Q ⟨Z, F, ρ, μ, δ, d, S, r, δ', e1, q⟩ => by
    cases e1
    refine q _ (fun j hj => ?_) (by simp) (S.put ⟨r, fun o p z => by cases z⟩)
    rw [List.getElem?_set_ne (fun z => hj (by simp [z]))]
def tgN : TgsF := fun ds δ => match ds with
  | [] => some δ
  | _ => none
def tgC (f : TgF) (g : TgsF) : TgsF := fun ds δ => match ds with
  | d :: r => match f d δ with
    | some δ' => g r δ'
    | none => none
  | [] => none
theorem jgs_nil : JGs X [] tgN [] := pgs_nil.imp fun vs σ H Q ⟨Z, F, ρ, μ, δ, ds, S, r, δ', e1, q⟩ => by
  unfold tgN at e1
  cases ds with
  | cons _ _ => cases e1
  | nil =>
    cases e1
    cases r
    exact ⟨rfl, q _ (fun _ _ => rfl) rfl S⟩
theorem jgs_cons {f : TgF} {g : TgsF} {is js : List Nat} (h : JG X e f is) (t : JGs X es g js) (hs : (assignEach (e :: es) X.env).map (·.2) = assign e X.env :: (assignEach es X.env).map (·.2) := by rfl) : JGs X (e :: es) (tgC f g) (is ++ js) :=
  (pgs_cons h t hs).imp fun vs σ H Q ⟨Z, F, ρ, μ, δ, ds, S, r, δ', e1, q⟩ => by
    unfold tgC at e1
    cases r with
    | nil => cases e1
    | @cons v d vs ds h1 t1 =>
      simp only at e1
      cases ef : f d δ with
      | none => rw [ef] at e1; cases e1
      | some δ1 =>
        rw [ef] at e1
        refine ⟨v, vs, rfl, Z, F, ρ, μ, δ, d, S, h1, δ1, ef, fun σ1 k1 l1 S1 => ⟨Z, F, ρ, μ, δ1, ds, S1, t1, δ', e1, fun σ2 k2 l2 S2 => q σ2 (fun j hj => ?_) (l2.trans l1) S2⟩⟩
        rw [k2 j (fun z => hj (List.mem_append_right _ z)), k1 j (fun z => hj (List.mem_append_left _ z))]
def tgT (n : Nat) (g : TgsF) : TgF := fun d δ => match d with
  | .tup ds => if ds.length = n then g ds δ else none
  | _ => none
theorem jg_t {k : Nat} {g : TgsF} {is : List Nat} {n : Nat} (hc : X.calm = true) (h : JGs X es g is) (hn : (assignEach es X.env).length = n := by rfl) (hst : (assignEach es X.env).findIdx? (·.1) = none := by rfl) : JG X (.Tuple es k pos) (tgT n g) is :=
  (pg_tup hc h hn hst).imp fun v σ H Q ⟨Z, F, ρ, μ, δ, d, S, r, δ', e1, q⟩ => by
    unfold tgT at e1
    cases d <;> first | (cases e1; done) | skip
    rename_i ds
    by_cases hl : ds.length = n
    · simp only [hl, if_true] at e1
      obtain ⟨p, vs, rfl, hq, rl⟩ := Bor.tup S (Bor.fr r)
      exact ⟨p, vs, rfl, hq, by rw [rl.len]; exact hl, Z, F, ρ, μ, δ, ds, S, rl, δ', e1, q⟩
    · simp only [hl] at e1; cases e1
/-- target = e, the value locked -/
def mAsg (f : TgF) (m : ME) : MS := fun δ μ => (m δ μ).thn fun s δ1 μ1 => match f s.d δ1 with
  | some δ2 => .nx δ2 μ1
  | none => .bad
theorem js_asg {f : TgF} {is : List Nat} {tg : Expr} {m : ME} (he : JE X W e m) (hg : JG X tg f is) (hs : swapsWithSole [tg] e pos.line X.env = pure false := by rfl) (hw : swappedStores [tg] e X.env = pure none := by rfl)
    (h1 : (assignEach [tg] X.env).map (·.2) = [assign tg X.env] := by rfl) : JS X W (.Assign [tg] e pos) (mAsg f m) :=
  (ps_asg he.locked hg hs hw h1).imp fun _ σ H ⟨Z, F, ρ, μ, δ, S, q⟩ => ⟨Z, F, ρ, μ, δ, S, (FinS.thn q).imp fun s δ1 μ1 H1 F1 ρ1 l lr S1 ⟨_, p⟩ v r => by
    cases ef : f s.d δ1 with
    | none => simp only [ef] at p; exact p.elim
    | some δ2 =>
      simp only [ef] at p
      exact ⟨Z, F1, ρ1, μ1, δ1, s.d, S1, r, δ2, ef, fun σ' _ _ S' => p.nx S'⟩⟩

/-! ### what is walked -/
def ItR (X : Cx) (F : Hp) (ρ : List Addr) (J : It) (ds : List D) : Prop := ∀ Z' F' ρ' μ δ σ H (i : Nat), (∀ p o, F p = some o → F' p = some o) → (∀ (k : Nat) p, ρ[k]? = some p → ρ'[k]? = some p) → Sim X.K X.mg Z' F' ρ' μ δ σ H →
  (ds.length ≤ i → J.stop i H) ∧ ∀ d, ds[i]? = some d → J.go i H ∧ ∀ x H', J.yld i H x H' → ∃ F2, Le Z' F' F2 ∧ Sim X.K X.mg Z' F2 ρ' μ δ σ H' ∧ Rep X.K X.mg F2 ρ' x d
def rdI (X : Cx) (W : WX) (m : MM (List D)) : TI := fun σ H R => ∃ Z F ρ μ δ, Sim X.K X.mg Z F ρ μ δ σ H ∧
  FinE X W Z F ρ σ (fun ds _ _ F' ρ' H' => ∀ J, ItR X F' ρ' J ds → R J H') (m δ μ)
theorem _root_.L2.PI.imp {X : Cx} {tg e : Expr} {t t' : TI} (h : PI X tg e t) (hi : ∀ σ H Q, t' σ H Q → t σ H Q) : PI X tg e t' := ⟨fun pins s σ H R I q => h.run pins s σ H R I (hi σ H R q)⟩
abbrev JI (X : Cx) (W : WX) (tg e : Expr) (m : MM (List D)) : Prop := PI X tg e (rdI X W m)
theorem itr_list {F : Hp} {ρ : List Addr} {p : Addr} {vs : List V} {ds : List D} (hq : ∀ Z' F' ρ' μ δ σ H, (∀ p o, F p = some o → F' p = some o) → Sim X.K X.mg Z' F' ρ' μ δ σ H → SqL X.K H p vs) (r : RepL X.K X.mg F ρ vs ds) : ItR X F ρ (Itl X.K p) ds := by
  intro Z' F' ρ' μ δ σ H i to tr S
  have q := hq Z' F' ρ' μ δ σ H to S
  refine ⟨fun hl => ⟨vs, q, by rw [r.len]; exact hl⟩, fun d hd => ?_⟩
  obtain ⟨v, hv, rv⟩ := r.get hd
  refine ⟨⟨vs, v, q, hv⟩, fun x H' y => ?_⟩
  obtain ⟨rfl, y⟩ := y
  have := y vs q
  rw [hv] at this; cases this
  exact ⟨F', .refl, S, rv.up to tr⟩
theorem itr_tup {F : Hp} {ρ : List Addr} {p : Addr} {vs : List V} {ds : List D} (hq : ∀ Z' F' ρ' μ δ σ H, (∀ p o, F p = some o → F' p = some o) → Sim X.K X.mg Z' F' ρ' μ δ σ H → SqT X.K H p vs) (r : RepL X.K X.mg F ρ vs ds) : ItR X F ρ (Itt X.K p) ds := by
  intro Z' F' ρ' μ δ σ H i to tr S
  have q := hq Z' F' ρ' μ δ σ H to S
  refine ⟨fun hl => ⟨vs, q, by rw [r.len]; exact hl⟩, fun d hd => ?_⟩
  obtain ⟨v, hv, rv⟩ := r.get hd
  refine ⟨⟨vs, v, q, hv⟩, fun x H' y => ?_⟩
  obtain ⟨rfl, y⟩ := y
  have := y vs q
  rw [hv] at this; cases this
  exact ⟨F', .refl, S, rv.up to tr⟩
def chars (x : Tx) : List D := x.map fun c => .str [c]
theorem itr_str {F : Hp} {ρ : List Addr} {x : Tx} : ItR X F ρ (Its (toS x)) (chars x) := by
  intro Z' F' ρ' μ δ σ H i to tr S
  refine ⟨fun hl => ?_, fun d hd => ?_⟩
  · show (toS x).cps.size ≤ i
    simpa [chars, toS] using hl
  · obtain ⟨c, hc, rfl⟩ : ∃ c, x[i]? = some c ∧ D.str [c] = d := by
      unfold chars at hd
      rw [List.getElem?_map] at hd
      cases e : x[i]? with
      | none => rw [e] at hd; cases hd
      | some c => rw [e] at hd; exact ⟨c, rfl, by injection hd⟩
    have hi : i < x.length := (List.getElem?_eq_some_iff.mp hc).1
    have hc2 : (toS x).cps[i]? = some c := by simpa [toS] using hc
    refine ⟨by show i < (toS x).cps.size; simpa [toS] using hi, fun v H' y => ?_⟩
    obtain ⟨rfl, c', e', rfl⟩ := y
    have e2 : some c' = some c := e'.symm.trans hc2
    cases e2
    exact ⟨F', .refl, S, Rep.str (x := [c])⟩
/-- a list, a tuple or a text -/
def itA : D → Option (List D)
  | .lst xs => some xs
  | .ro xs => some xs
  | .tup xs => some xs
  | .str x => some (chars x)
  | _ => none
abbrev iAny (K : PySem.W.Frag) (te : TE) : TI := fun σ H R => te σ H fun v H1 => (∃ a, v = .ref a ∧ (∃ xs, SqL K H1 a xs) ∧ R (Itl K a) H1) ∨ (∃ a, v = .ref a ∧ (∃ xs, SqT K H1 a xs) ∧ R (Itt K a) H1) ∨ ∃ x, v = .str x ∧ R (Its x) H1
theorem pi_any {tg : Expr} {te : TE} (he : PE X e te) : PI X tg e (iAny X.K te) := by
  refine ⟨fun pins s σ H R I h => thn (he.run pins s σ H _ I h) fun v s1 ⟨y, H1, I1, r1, q⟩ => ?_⟩
  rcases q with ⟨a, rfl, ⟨xs, hq⟩, q⟩ | ⟨a, rfl, ⟨xs, hq⟩, q⟩ | ⟨x, rfl, q⟩
  · cases r1
    obtain ⟨vals, _, isl, _⟩ := I1.list hq
    exact wpAny_pyIter_list isl.isList (pi_one (tk := s1.toks) I1 _ (turn_list a _) ⟨_, Heap.get?_push_size _ rfl, rfl, rfl⟩ q)
  · cases r1
    obtain ⟨vals, _, ist, _⟩ := I1.tuple hq
    exact wpAny_pyIter_tuple (show s1.heap.IsTuple a vals.toArray from ist) (pi_one (tk := s1.toks) I1 _ (turn_tuple a _) ⟨_, Heap.get?_push_size _ rfl, rfl, rfl⟩ q)
  · obtain ⟨t, rfl⟩ := r1
    cases hw : x.cps.all (· < 128)
    · exact wpAny_pyIter_wide hw (pi_one (tk := s1.toks) I1 _ (turn_str _ x t "str_iterator" (Or.inr rfl)) ⟨_, Heap.get?_push_size _ rfl, rfl, rfl⟩ q)
    · exact wpAny_pyIter_ascii hw (pi_one (tk := s1.toks) I1 _ (turn_str _ x t "str_ascii_iterator" (Or.inl rfl)) ⟨_, Heap.get?_push_size _ rfl, rfl, rfl⟩ q)
def mIt (m : ME) : MM (List D) := fun δ μ => (m δ μ).bind fun s δ1 μ1 => match itA s.d with
  | some ds => .ok ds δ1 μ1
  | none => .bad
theorem Sim.frozen {K : PySem.W.Frag} {mg : Str → Option Value} {Z F H : Hp} {ρ : List Addr} {μ : Mem} {δ : Loc} {σ : St} {p : Addr} {vs : List V} (S : Sim K mg Z F ρ μ δ σ H) (h : F p = some (.lst vs)) : H p = some (.lst vs) := by
  rcases S.le _ _ h with q | ⟨ob, kvs, e, q⟩
  · exact q
  · cases e
theorem ji_any {tg : Expr} {m : ME} (he : JE X W e m) : JI X W tg e (mIt m) := by
  refine (pi_any he.locked).imp fun σ H R ⟨Z, F, ρ, μ, δ, S, q⟩ => ⟨Z, F, ρ, μ, δ, S, (FinE.bind q).imp fun s δ1 μ1 H1 F1 ρ1 l lr S1 ⟨_, _, _, p⟩ v r => ?_⟩
  cases ea : itA s.d with
  | none => simp only [ea] at p; exact p.elim
  | some ds =>
    simp only [ea] at p
    have p' := p H1 F1 ρ1 .refl .refl S1
    unfold itA at ea
    generalize s.d = d at ea r
    cases d <;> first | (cases ea; done) | skip
    · cases ea
      cases (Bor.fr (H := H1) r).str
      exact .inr (.inr ⟨_, rfl, p' _ itr_str⟩)
    · cases ea
      cases r with
      | @lst a vs _ h r =>
        exact .inl ⟨a, rfl, ⟨vs, .of (S1.frozen h)⟩, p' _ (itr_list (fun Z' F' ρ' μ δ σ H to S => .of (S.frozen (to _ _ h))) r)⟩
    · cases ea
      cases r with
      | @tup a vs _ h r =>
        exact .inr (.inl ⟨a, rfl, ⟨vs, h.elim (fun h => .inl (S1.rd h)) .inr⟩, p' _ (itr_tup (fun Z' F' ρ' μ δ σ H to S => h.elim (fun h => .inl (S.rd (Rd.up to h))) .inr) r)⟩)
    · cases ea
      cases r with
      | @ro a vs _ h r =>
        exact .inl ⟨a, rfl, ⟨vs, h.elim (fun h => .inl (S1.rd h)) .inr⟩, p' _ (itr_list (fun Z' F' ρ' μ δ σ H to S => h.elim (fun h => .inl (S.rd (Rd.up to h))) .inr) r)⟩
/-- range -/
def rangeD (lo : Int) (n : Nat) : List D := (List.range n).map fun i => .int (lo + (i : Nat))
theorem itr_range {F : Hp} {ρ : List Addr} {lo : Int} {n : Nat} : ItR X F ρ (Itr lo n) (rangeD lo n) := by
  intro Z' F' ρ' μ δ σ H i to tr S
  refine ⟨fun hl => ?_, fun d hd => ?_⟩
  · show n ≤ i
    simpa [rangeD] using hl
  · unfold rangeD at hd
    rw [List.getElem?_map] at hd
    by_cases hi : i < n
    · rw [List.getElem?_range hi] at hd
      cases hd
      refine ⟨hi, fun x H' y => ?_⟩
      obtain ⟨rfl, rfl⟩ := y
      exact ⟨F', .refl, S, .int⟩
    · rw [List.getElem?_eq_none (by simp; omega)] at hd; cases hd
def mRange1 (o : Opn) : MM (List D) := fun δ μ => (evs [o] δ μ).bind fun rs δ1 μ1 => match OR.ats δ1 μ1 rs with
  | some [.int j] => if -(2 ^ 62) ≤ j ∧ j < 2 ^ 62 then .ok (rangeD 0 j.toNat) δ1 μ1 else .bad
  | _ => .bad
def mRange2 (o o' : Opn) : MM (List D) := fun δ μ => (evs [o, o'] δ μ).bind fun rs δ1 μ1 => match OR.ats δ1 μ1 rs with
  | some [.int i, .int j] => if (-(2 ^ 62) ≤ i ∧ i < 2 ^ 62) ∧ (-(2 ^ 62) ≤ j ∧ j < 2 ^ 62) then .ok (rangeD i (j - i).toNat) δ1 μ1 else .bad
  | _ => .bad
theorem ji_range1 {tg : Expr} {o : Opn} {p : Pos} (hg : Gl X "range") (hm : X.mg "range" = none) (ha : JOs X W [a] [o]) (hs : starEach [a] X.env = [(false, eval a X.env)] := by rfl) : JI X W tg (.Call (.Name "range" p) [a] [] pos) (mRange1 o) := by
  refine (pi_range1 hg hm ha hs).imp fun σ H R ⟨Z, F, ρ, μ, δ, S, q⟩ => ⟨Z, F, ρ, μ, δ, S, (FinE.bind q).imp fun rs δ1 μ1 H1 F1 ρ1 l lr S1 ⟨_, _, _, p⟩ vs hv => ?_⟩
  split at p
  · rename_i j ej
    obtain ⟨v, rfl, hb⟩ := (hv.bor S1 ej).one
    cases hb.int
    by_cases c : -(2 ^ 62) ≤ j ∧ j < 2 ^ 62
    · rw [if_pos c] at p
      exact ⟨j, rfl, c.1, c.2, p H1 F1 ρ1 .refl .refl S1 _ itr_range⟩
    · rw [if_neg c] at p; exact p.elim
  · exact p.elim
theorem ji_range2 {tg : Expr} {o o' : Opn} {p : Pos} (hg : Gl X "range") (hm : X.mg "range" = none) (ha : JOs X W [a, b] [o, o']) (hs : starEach [a, b] X.env = [(false, eval a X.env), (false, eval b X.env)] := by rfl) (hs2 : starEach [b] X.env = [(false, eval b X.env)] := by rfl) : JI X W tg (.Call (.Name "range" p) [a, b] [] pos) (mRange2 o o') := by
  refine (pi_range2 hg hm ha hs hs2).imp fun σ H R ⟨Z, F, ρ, μ, δ, S, q⟩ => ⟨Z, F, ρ, μ, δ, S, (FinE.bind q).imp fun rs δ1 μ1 H1 F1 ρ1 l lr S1 ⟨_, _, _, p⟩ vs hv => ?_⟩
  split at p
  · rename_i i j ej
    obtain ⟨v, w, rfl, hb, hc⟩ := (hv.bor S1 ej).two
    cases hb.int
    cases hc.int
    by_cases c : (-(2 ^ 62) ≤ i ∧ i < 2 ^ 62) ∧ (-(2 ^ 62) ≤ j ∧ j < 2 ^ 62)
    · rw [if_pos c] at p
      exact ⟨i, j, rfl, ⟨c.1.1, c.1.2, c.2.1, c.2.2⟩, p H1 F1 ρ1 .refl .refl S1 _ itr_range⟩
    · rw [if_neg c] at p; exact p.elim
  · exact p.elim

/-! ### for -/
def turnD (f : TgF) (m : MS) : D → MS := fun d δ μ => match f d δ with
  | some δ' => m δ' μ
  | none => .bad
def forD (g : D → MS) : List D → MS
  | [] => fun δ μ => .nx δ μ
  | d :: ds => fun δ μ => (g d δ μ).loop (forD g ds)
def mFor (mi : MM (List D)) (f : TgF) (m : MS) : MS := fun δ μ => (mi δ μ).thn fun ds δ1 μ1 => forD (turnD f m) ds δ1 μ1
theorem js_for {tg iter : Expr} {body : List Stmt} {mi : MM (List D)} {f : TgF} {is : List Nat} {m : MS} (hp : PassesOwn (model X.prog X.w) X.A X.env X.xe) (hc : X.calm = true) (hi : JI X W tg iter mi) (hg : JG X tg f is) (hb : JSs X W body m)
    (hs : ∀ x, foldedSetIterable iter X.env x = pure x := by intro _; rfl) : JS X W (.For tg iter body [] pos) (mFor mi f m) := by
  refine (ps_for hp hc hi hg hb hs).imp fun E σ H ⟨Z, F, ρ, μ, δ, S, q⟩ => ⟨Z, F, ρ, μ, δ, S, (FinS.thn q).imp fun ds δ1 μ1 H1 F1 ρ1 l lr S1 ⟨_, p⟩ J hJ => ?_⟩
  let Wd : Nat → Nat → St → Hp → Prop := fun i k σ H => k = ds.length - i ∧ i ≤ ds.length ∧ ∃ F' ρ' μ δ, (∀ p o, F1 p = some o → F' p = some o) ∧ (∀ (k : Nat) p, ρ1[k]? = some p → ρ'[k]? = some p) ∧ Sim X.K X.mg Z F' ρ' μ δ σ H ∧ FinS X W Z F' ρ' E (forD (turnD f m) (ds.drop i) δ μ)
  refine ⟨Wd, ⟨ds.length, by simp, Nat.zero_le _, F1, ρ1, μ1, δ1, fun _ _ h => h, fun _ _ h => h, S1, by rw [List.drop_zero]; exact p⟩, ?_⟩
  rintro i k σ2 H2 ⟨rfl, hle, F2, ρ2, μ2, δ2, to, tr, S2, p2⟩
  obtain ⟨j1, j2⟩ := hJ Z F2 ρ2 μ2 δ2 σ2 H2 i to tr S2
  by_cases hlt : i < ds.length
  · refine .inr ?_
    have hd : ds.drop i = ds[i] :: ds.drop (i + 1) := List.drop_eq_getElem_cons hlt
    obtain ⟨go, yl⟩ := j2 ds[i] (List.getElem?_eq_getElem hlt)
    refine ⟨go, fun σ' H' => Wd (i + 1) (ds.length - (i + 1)) σ' H', fun σ' H' w => ⟨ds.length - (i + 1), by omega, w⟩, fun x H' y => ?_⟩
    obtain ⟨F3, l3, S3, r3⟩ := yl x H' y
    rw [hd] at p2
    unfold forD at p2
    cases ef : f ds[i] δ2 with
    | none =>
      have e : turnD f m ds[i] δ2 μ2 = .bad := by unfold turnD; rw [ef]
      simp only [e] at p2
      exact p2.elim
    | some δ3 =>
      have e : turnD f m ds[i] δ2 μ2 = m δ3 μ2 := by unfold turnD; rw [ef]
      simp only [e] at p2
      refine ⟨Z, F3, ρ2, μ2, δ2, _, S3, r3, δ3, ef, fun σ4 _ _ S4 => ⟨Z, F3, ρ2, μ2, δ3, S4, (p2.mono l3 .refl).loop fun σ' H' F' ρ' μ' δ' l' lr' S' q' => ?_⟩⟩
      exact ⟨rfl, hlt, F', ρ', μ', δ', fun p o h => l'.to p o (l3.to p o (to p o h)), fun k p h => lr'.to k p (tr k p h), S', q'⟩
  · have e : i = ds.length := by omega
    subst e
    rw [List.drop_length] at p2
    exact .inl ⟨j1 (Nat.le_refl _), p2.nx S2⟩

/-! ### list comprehensions -/
def Out.cut {α : Type} (r : Out α) : Out α := match r with
  | .exc _ _ _ => .bad
  | r => r
def wipeD (δ : Loc) : List Nat → Loc
  | [] => δ
  | v :: vs => (wipeD δ vs).set v none
theorem Sim.wipe {K : PySem.W.Frag} {mg : Str → Option Value} {Z F H : Hp} {ρ : List Addr} {μ : Mem} {δ : Loc} {σ : St} (S : Sim K mg Z F ρ μ δ σ H) : ∀ vs, Sim K mg Z F ρ μ (wipeD δ vs) (L2.wipe σ vs) H
  | [] => S
  | v :: vs => (Sim.wipe S vs).forget
theorem Sim.agree {K : PySem.W.Frag} {mg : Str → Option Value} {Z F H : Hp} {ρ : List Addr} {μ : Mem} {δ : Loc} {σ σ' : St} (S : Sim K mg Z F ρ μ δ σ H) (hl : σ'.length = σ.length) (ha : ∀ (i : Nat) s, δ[i]? = some (some s) → σ'[i]? = σ[i]?) : Sim K mg Z F ρ μ δ σ' H :=
  ⟨S.le, S.zk, hl.trans S.len, fun i s e => by rw [ha i s e]; exact S.slot i s e, fun i j p s s' e1 e2 e3 e4 => S.apart i j p s s' e1 e2 (by rw [← ha i _ e1]; exact e3) (by rw [← ha j _ e2]; exact e4), S.mem, S.mlen, S.nod⟩
theorem wipeD_in {δ : Loc} {i : Nat} {s : Slot} : ∀ {vs : List Nat}, (wipeD δ vs)[i]? = some (some s) → i ∉ vs
  | [], _ => by simp
  | v :: vs, h => by
    unfold wipeD at h
    by_cases z : i = v
    · subst z
      by_cases hl : i < (wipeD δ vs).length
      · rw [List.getElem?_set_self hl] at h; cases h
      · rw [List.getElem?_eq_none (by simpa using hl)] at h; cases h
    · rw [List.getElem?_set_ne (Ne.symm z)] at h
      have := wipeD_in h
      simp [z, this]
theorem wipe_out {σ : St} {i : Nat} : ∀ {vs : List Nat}, i ∉ vs → (L2.wipe σ vs)[i]? = σ[i]?
  | [], _ => rfl
  | v :: vs, h => by
    unfold L2.wipe
    rw [List.getElem?_set_ne (fun z => h (by simp [z]))]
    exact wipe_out fun z => h (List.mem_cons_of_mem _ z)
theorem wipe_same {σ σ' : St} (hl : σ'.length = σ.length) : ∀ {vs : List Nat}, (∀ j : Nat, j ∉ vs → σ'[j]? = σ[j]?) → L2.wipe σ' vs = L2.wipe σ vs := by
  intro vs h
  apply List.ext_getElem?
  intro i
  by_cases hi : i ∈ vs
  · have no : ∀ (τ : St), τ.length = σ.length → ∀ vs : List Nat, i ∈ vs → (L2.wipe τ vs)[i]? = if i < σ.length then some none else none := by
      intro τ hτ vs
      induction vs with
      | nil => intro z; cases z
      | cons v vs ih =>
        intro z
        unfold L2.wipe
        by_cases e : i = v
        · subst e
          by_cases hlt : i < σ.length
          · rw [List.getElem?_set_self (by rw [wipe_length, hτ]; exact hlt), if_pos hlt]
          · rw [List.getElem?_eq_none (by rw [List.length_set, wipe_length, hτ]; omega), if_neg hlt]
        · rw [List.getElem?_set_ne (Ne.symm e)]
          exact ih ((List.mem_cons.mp z).resolve_left e)
    rw [no σ' hl vs hi, no σ rfl vs hi]
  · rw [wipe_out hi, wipe_out hi]
    exact h i hi
def lcD (f : TgF) (tests : MT) (elt : ME) (vs : List Nat) : List D → List D → ME
  | [], acc => fun δ μ => .ok (.own (.lst acc)) δ μ
  | d :: ds, acc => fun δ μ => match f d δ with
    | none => .bad
    | some δ' => (tests δ' μ).cut.bind fun b δ2 μ2 => if b = true then (elt δ2 μ2).cut.bind fun s δ3 μ3 => if acc.length < 16777216 then lcD f tests elt vs ds (acc ++ [s.d]) (wipeD δ3 vs) μ3 else .bad
      else lcD f tests elt vs ds acc (wipeD δ2 vs) μ2
def mLc (mi : MM (List D)) (f : TgF) (tests : MT) (elt : ME) (vs : List Nat) : ME := fun δ μ => (mi δ μ).bind fun ds δ1 μ1 => lcD f tests elt vs ds [] (wipeD δ1 vs) μ1
abbrev W0 : WX := fun _ _ _ _ => False
theorem FinE.cut {Y : Cx} {Z F : Hp} {ρ : List Addr} {σ σ' : St} {α β : Type} {P : β → Loc → Mem → Hp → List Addr → Hp → Prop} {r : Out α} {g : α → Loc → Mem → Out β} {p : Addr} {o : HO} (hK : Y.K = X.K) (hm : Y.mg = X.mg) (h : FinE X W Z F ρ σ P (r.cut.bind g)) :
    FinE Y W0 (upd Z p o) F ρ σ' (fun a δ μ F' ρ' H' => Sim X.K X.mg (upd Z p o) F' ρ' μ δ σ' H' ∧ Le (upd Z p o) F F' ∧ LeR (upd Z p o) ρ ρ' ∧ FinE X W Z F' ρ' σ P (g a δ μ)) r := by
  cases r with
  | ok a δ μ =>
    intro H' F' ρ' l lr S
    rw [hK, hm] at S
    exact ⟨S, l, lr, FinE.mono h l.unguard lr.unguard⟩
  | exc x δ μ => exact h.elim
  | bad => exact h
theorem lc_read {Y : Cx → Prop} {mi : MM (List D)} {f : TgF} {tests : MT} {elt : ME} {vs is : List Nat} {B : Cx} (hK : B.K = X.K) (hm : B.mg = X.mg) (hsub : ∀ j ∈ is, j ∈ vs) : ∀ σ H Q, rdE X W (mLc mi f tests elt vs) σ H Q → tLc (rdI X W mi) (rdG X f is) (rdT B W0 tests) (rdE B W0 elt) vs σ H Q := by
  intro σ H Q ⟨Z, F, ρ, μ, δ, S, q⟩
  refine ⟨Z, F, ρ, μ, δ, S, (FinE.bind q).imp fun ds δ1 μ1 H1 F1 ρ1 l lr S1 ⟨_, _, _, p⟩ J hJ A hA => ?_⟩
  obtain ⟨n1, n2, n3, n4⟩ := S1.notIn hA
  let P : Slot → Loc → Mem → Hp → List Addr → Hp → Prop := fun s δ' _ F' ρ' H' => ∀ v, VR X.K X.mg Z F' ρ' δ' σ H' v s → Q v H'
  let Wd : Nat → Nat → Hp → Prop := fun i k H => k = ds.length - i ∧ i ≤ ds.length ∧ ∃ F' ρ' μ δ vals acc, (∀ p o, F1 p = some o → F' p = some o) ∧ (∀ (k : Nat) p, ρ1[k]? = some p → ρ'[k]? = some p) ∧ Sim X.K X.mg Z F' ρ' μ (wipeD δ vs) (L2.wipe σ vs) H ∧
    Free Z F' ρ' A ∧ (∀ (i : Nat) s, (wipeD δ vs)[i]? = some (some (.own s)) → (L2.wipe σ vs)[i]? ≠ some (some (.ref A))) ∧ H A = some (.lst vals) ∧ RepL X.K X.mg F' ρ' vals acc ∧ FinE X W Z F' ρ' σ P (lcD f tests elt vs (ds.drop i) acc (wipeD δ vs) μ)
  have wout : ∀ {δ : Loc} {s : Slot} (i : Nat), (wipeD δ vs)[i]? = some (some s) → (L2.wipe σ vs)[i]? = σ[i]? := fun i h => wipe_out (wipeD_in h)
  have Sw := (S1.laid (o := .lst []) hA).wipe vs
  refine ⟨Wd, ⟨ds.length, by simp, Nat.zero_le _, F1, ρ1, μ1, δ1, [], [], fun _ _ h => h, fun _ _ h => h, Sw, ⟨n1, n2, n3⟩, fun i s e1 e2 => ?_, upd_same, .nil, by rw [List.drop_zero]; exact p⟩, ?_⟩
  · obtain ⟨w, e3, q', eq', f', r'⟩ := Sw.slot i _ e1
    rw [e2] at e3; cases e3; cases eq'
    have e4 := wout i e1
    rw [e2] at e4
    have e5 : δ1[i]? = some (some (.own s)) := by
      have : ∀ vs : List Nat, (wipeD δ1 vs)[i]? = some (some (.own s)) → δ1[i]? = some (some (.own s)) := by
        intro vs
        induction vs with
        | nil => exact id
        | cons v vs ih =>
          intro h
          have hn := wipeD_in h
          unfold wipeD at h
          rw [List.getElem?_set_ne (fun z => hn (by simp [z]))] at h
          exact ih h
      exact this vs e1
    exact n4 i s e5 e4.symm
  rintro i k H2 ⟨rfl, hle, F2, ρ2, μ2, δ2, vals, acc, to, tr, S2, fA, nA, hL, rL, p2⟩
  obtain ⟨j1, j2⟩ := hJ Z F2 ρ2 μ2 _ _ H2 i to tr S2
  by_cases hlt : i < ds.length
  · refine .inr ?_
    have hd : ds.drop i = ds[i] :: ds.drop (i + 1) := List.drop_eq_getElem_cons hlt
    have SG := S2.guard hL fA nA
    obtain ⟨go, yl⟩ := hJ (upd Z A (.lst vals)) F2 ρ2 μ2 _ _ H2 i to tr SG |>.2 ds[i] (List.getElem?_eq_getElem hlt)
    refine ⟨go, fun H' => Wd (i + 1) (ds.length - (i + 1)) H', fun H' w => ⟨ds.length - (i + 1), by omega, w⟩, fun x H' y => ?_⟩
    obtain ⟨F3, l3, S3, r3⟩ := yl x H' y
    rw [hd] at p2
    unfold lcD at p2
    cases ef : f ds[i] (wipeD δ2 vs) with
    | none => simp only [ef] at p2; exact p2.elim
    | some δ3 =>
      simp only [ef] at p2
      refine ⟨_, F3, ρ2, μ2, _, _, S3, r3, δ3, ef, fun σ4 hσ hl4 S4 => ?_⟩
      have ws : L2.wipe σ4 vs = L2.wipe σ vs := by
        have h1 := wipe_same (σ := L2.wipe σ vs) (σ' := σ4) hl4 (vs := vs) fun j hj => hσ j fun z => hj (hsub j z)
        rw [h1]
        apply wipe_same (wipe_length _ _)
        intro j hj
        exact wipe_out hj
      refine ⟨by rw [ws, wipe_same (σ := σ) (σ' := σ) rfl fun _ _ => rfl], ?_⟩
      -- the tests
      refine ⟨_, F3, ρ2, μ2, δ3, by rw [hK, hm]; exact S4, (FinE.cut (p := A) (o := .lst vals) hK hm (p2.mono l3.unguard .refl)).imp fun b δ5 μ5 H5 F5 ρ5 l5 lr5 _ ⟨S5, l5', lr5', p5⟩ => ?_⟩
      have fin : ∀ {F6 : Hp} {ρ6 : List Addr} {μ6 : Mem} {δ6 : Loc} {H6 H7 : Hp} {vals' : List V} {acc' : List D}, Sim X.K X.mg (upd Z A (.lst vals)) F6 ρ6 μ6 δ6 σ4 H6 → Le (upd Z A (.lst vals)) F3 F6 → LeR (upd Z A (.lst vals)) ρ2 ρ6 →
          (∀ a, a ≠ A → H7 a = H6 a) → H7 A = some (.lst vals') → RepL X.K X.mg F6 ρ6 vals' acc' → FinE X W Z F6 ρ6 σ P (lcD f tests elt vs (ds.drop (i + 1)) acc' (wipeD δ6 vs) μ6) → Wd (i + 1) (ds.length - (i + 1)) H7 := by
        intro F6 ρ6 μ6 δ6 H6 H7 vals' acc' S6 l6 lr6 hne hA7 rL' p6
        have fA6 : Free Z F6 ρ6 A := (fA.on l3 .refl).on l6 lr6
        have S7 := (S6.unguard fA.z).heap hne fA6.f fA6.z fA6.r S6.guardNo
        have S8 := S7.wipe vs
        rw [ws] at S8
        refine ⟨rfl, hlt, F6, ρ6, μ6, δ6, vals', acc', fun p o h => l6.to p o (l3.to p o (to p o h)), fun k p h => lr6.to k p (tr k p h), S8, fA6, fun i' s e1 e2 => ?_, hA7, rL', p6⟩
        obtain ⟨w, e3, q', eq', f', r'⟩ := S8.slot i' _ e1
        rw [e2] at e3; cases e3; cases eq'
        have e4 : (L2.wipe σ4 vs)[i']? = σ4[i']? := wipe_out (wipeD_in e1)
        rw [ws, e2] at e4
        have e5 : δ6[i']? = some (some (.own s)) := by
          have : ∀ vs : List Nat, (wipeD δ6 vs)[i']? = some (some (.own s)) → δ6[i']? = some (some (.own s)) := by
            intro vs
            induction vs with
            | nil => exact id
            | cons v vs ih =>
              intro h
              have hn := wipeD_in h
              unfold wipeD at h
              rw [List.getElem?_set_ne (fun z => hn (by simp [z]))] at h
              exact ih h
          exact this vs e1
        exact S6.guardNo i' s e5 e4.symm
      cases b with
      | false =>
        simp only [if_neg Bool.false_ne_true] at p5 ⊢
        exact fin S5 l5' lr5' (fun _ _ => rfl) S5.guarded (rL.up (fun p o h => l5'.to p o (l3.to p o h)) lr5'.to) p5
      | true =>
        simp only [if_true] at p5 ⊢
        refine ⟨_, F5, ρ5, μ5, δ5, by rw [hK, hm]; exact S5, (FinE.cut (p := A) (o := .lst vals) hK hm p5).imp fun s δ6 μ6 H6 F6 ρ6 l6 lr6 _ ⟨S6, l6', lr6', p6⟩ v vr => ?_⟩
        rw [hK, hm] at vr
        obtain ⟨F7, l7, S7, r7⟩ := S6.lock vr
        by_cases hz : acc.length < 16777216
        · rw [if_pos hz] at p6
          have rL6 := rL.up (fun p o h => l7.to p o (l6'.to p o (l5'.to p o (l3.to p o h)))) fun k p h => lr6'.to k p (lr5'.to k p h)
          refine ⟨vals, S7.guarded, by rw [rL.len, line_eq]; exact hz, ?_⟩
          exact fin S7 (l5'.trans (l6'.trans l7)) (lr5'.trans lr6') (fun a ne => upd_ne ne) upd_same (rL6.app (.cons r7 .nil)) (p6.mono l7.unguard .refl)
        · rw [if_neg hz] at p6; exact p6.elim
  · have e : i = ds.length := by omega
    subst e
    rw [List.drop_length] at p2
    refine .inl ⟨j1 (Nat.le_refl _), ?_⟩
    have S3 : Sim X.K X.mg Z F2 ρ2 μ2 (wipeD δ2 vs) σ H2 := S2.agree (wipe_length _ _).symm fun i s e => (wout i e).symm
    exact p2 H2 F2 ρ2 .refl .refl S3 (.ref A) ⟨⟨A, rfl, fA, vals, hL, rL⟩, fun o p z1 z2 i o' e1 e2 => by
      cases z2
      exact nA i o' e1 (by rw [wout i e1]; exact e2)⟩
abbrev JTs (X : Cx) (W : WX) (ifs : List Expr) (m : MT) : Prop := PTs X ifs (rdT X W m)
def mYes : MT := fun δ μ => .ok true δ μ
theorem jts_nil : JTs X W [] mYes := ⟨fun pins s σ H Q I ⟨Z, F, ρ, μ, δ, S, q⟩ => pts_nil.run pins s σ H Q I (q H F ρ .refl .refl S)⟩
theorem jts_one {c : Expr} {m : MT} (h : JT X W c m) : JTs X W [c] m := pts_one h
theorem je_lc {elt tg iter : Expr} {ifs : List Expr} {scope : Scope} {own : List (Str × Nat)} {mi : MM (List D)} {f : TgF} {is : List Nat} {tests : MT} {m : ME} (hc : X.calm = true) (hN : X.N.Nodup) (hi : JI X W tg iter mi) (ok : BlkOk X.N X.env.scope scope own)
    (hg : ∀ (s : Shared) (H : Hp) (C : Addr) (cl : List (Str × Addr)) (fp : List Addr), JG (X.blk s H scope (compEnvC scope cl C X.env) fp) tg f is) (ht : ∀ (s : Shared) (H : Hp) (C : Addr) (cl : List (Str × Addr)) (fp : List Addr), JTs (X.blk s H scope (compEnvC scope cl C X.env) fp) W0 ifs tests)
    (he : ∀ (s : Shared) (H : Hp) (C : Addr) (cl : List (Str × Addr)) (fp : List Addr), JE (X.blk s H scope (compEnvC scope cl C X.env) fp) W0 elt m) (hsub : ∀ j ∈ is, j ∈ own.map (·.2)) (hs : ∀ x, foldedSetIterable iter X.env x = pure x := by intro _; rfl) :
    JE X W (.ListComp elt [⟨tg, iter, ifs, 0⟩] scope pos) (mLc mi f tests m (own.map (·.2))) :=
  (pe_lc (g := rdG X f is) (tt := rdT X W0 tests) (te := rdE X W0 m) hc hN hi ok hg ht he hs).imp (lc_read (Y := fun _ => True) (B := X) rfl rfl hsub)
theorem js_setLc {i : Nat} {y : Str} {py : Pos} {elt tg iter : Expr} {ifs : List Expr} {scope : Scope} {own : List (Str × Nat)} {spos : Pos} {mi : MM (List D)} {f : TgF} {is : List Nat} {tests : MT} {m : ME} (hc : X.calm = true) (hN : X.N.Nodup) (hy : X.N[i]? = some y) (hyl : X.env.scope.names.lookup y = some .local)
    (hsw : swapsWith (.ListComp elt [⟨tg, iter, ifs, 0⟩] scope pos) (some (.Name y py)) spos.line X.env = pure true) (hi : JI X W tg iter mi) (ok : BlkOk X.N X.env.scope scope own)
    (hg : ∀ (s : Shared) (H : Hp) (C : Addr) (cl : List (Str × Addr)) (fp : List Addr), JG (X.blk s H scope (compEnvC scope cl C X.env) fp) tg f is) (ht : ∀ (s : Shared) (H : Hp) (C : Addr) (cl : List (Str × Addr)) (fp : List Addr), JTs (X.blk s H scope (compEnvC scope cl C X.env) fp) W0 ifs tests)
    (he : ∀ (s : Shared) (H : Hp) (C : Addr) (cl : List (Str × Addr)) (fp : List Addr), JE (X.blk s H scope (compEnvC scope cl C X.env) fp) W0 elt m) (hsub : ∀ j ∈ is, j ∈ own.map (·.2)) (hs : ∀ x, foldedSetIterable iter X.env x = pure x := by intro _; rfl) :
    JS X W (.Assign [.Name y py] (.ListComp elt [⟨tg, iter, ifs, 0⟩] scope pos) spos) (mSet i (mLc mi f tests m (own.map (·.2)))) :=
  (ps_setLc (g := rdG X f is) (tt := rdT X W0 tests) (te := rdE X W0 m) hc hN hy hyl hsw hi ok hg ht he hs).imp fun E σ H h => by
    obtain ⟨Z, F, ρ, μ, δ, S, q⟩ := h
    refine lc_read (Y := fun _ => True) (B := X) rfl rfl hsub σ H _ ⟨Z, F, ρ, μ, δ, S, (FinS.thn q).imp fun a δ1 μ1 H1 F1 ρ1 l lr S1 ⟨_, p⟩ v vr => p.nx (S1.put vr)⟩

/-! ### a, b = x, y -/
def mPar (i j : Nat) (ma mb : ME) : MS := fun δ μ => (ma δ μ).thn fun s δ1 μ1 => (mb δ1 μ1).thn fun t δ2 μ2 => .nx ((δ2.set i (some s)).set j (some t)) μ2
theorem par_read {i j : Nat} {ma mb : ME} : ∀ E σ H, rdS X W (mPar i j ma mb) E σ H → tPar i j (tCons (rdE X W ma) (tCons (rdE X W mb) tNil)) E σ H := by
  intro E σ H ⟨Z, F, ρ, μ, δ, S, q⟩
  refine ⟨Z, F, ρ, μ, δ, S, (FinS.thn q).imp fun s δ1 μ1 H1 F1 ρ1 l lr S1 ⟨_, p⟩ v vr => ?_⟩
  cases s with
  | fr d =>
    refine ⟨Z, F1, ρ1, μ1, δ1, S1, (FinS.thn p).imp fun t δ2 μ2 H2 F2 ρ2 l2 lr2 S2 ⟨_, p2⟩ w wr => ⟨v, w, rfl, p2.nx ?_⟩⟩
    have r : Rep X.K X.mg F2 ρ2 v d := Rep.up l2.to lr2.to vr.r
    refine (S2.put (i := i) (v := v) (s := .fr d) ⟨r, fun o p z => by cases z⟩).put ⟨wr.r, fun o p z1 z2 k o' e1 e2 => ?_⟩
    by_cases z : k = i
    · subst z
      by_cases hl : k < δ2.length
      · rw [List.getElem?_set_self hl] at e1; cases e1
      · rw [List.getElem?_eq_none (by simpa using hl)] at e1; cases e1
    · rw [List.getElem?_set_ne (Ne.symm z)] at e1 e2
      exact wr.no o p z1 z2 k o' e1 e2
  | own c =>
    obtain ⟨A, ev, fA, rA⟩ := vr.r
    obtain ⟨o, hA⟩ := rA.some
    have SG := S1.guard hA fA (vr.no c A rfl ev)
    refine ⟨upd Z A o, F1, ρ1, μ1, δ1, SG, ?_⟩
    have p' := FinS.thn (σ := σ) p
    generalize mb δ1 μ1 = r2 at p'
    cases r2 with
    | bad => exact p'
    | exc x δ2 μ2 => exact fun c' d' H2 F2 ρ2 l2 lr2 S2 er => p' c' d' H2 F2 ρ2 l2.unguard lr2.unguard (S2.unguard fA.z) er
    | ok t δ2 μ2 =>
      intro H2 F2 ρ2 l2 lr2 S2 w wr
      obtain ⟨_, p2⟩ := p' H2 F2 ρ2 l2.unguard lr2.unguard (S2.unguard fA.z)
      refine ⟨v, w, rfl, p2.nx ?_⟩
      have fA2 := fA.on l2 lr2
      have hA2 : H2 A = some o := S2.guarded
      have vr2 : VR X.K X.mg Z F2 ρ2 δ2 σ H2 v (.own c) := ⟨⟨A, ev, fA2, rA.up l2.to lr2.to (by rw [hA2, hA])⟩, fun o' p' z1 z2 => by
        rw [ev] at z2; cases z2
        exact S2.guardNo⟩
      have S3 := (S2.unguard fA.z).put (i := i) vr2
      cases t with
      | fr d => exact S3.put ⟨wr.r, fun o p z => by cases z⟩
      | own c2 =>
        obtain ⟨B, ew, fB, rB⟩ := wr.r
        have nBA : B ≠ A := (guard_z fB.z).1
        refine S3.put ⟨⟨B, ew, ⟨fB.f, (guard_z fB.z).2, fB.r⟩, rB⟩, fun o p z1 z2 k o' e1 e2 => ?_⟩
        rw [ew] at z2; cases z2
        by_cases z : k = i
        · subst z
          by_cases hl : k < σ.length
          · rw [List.getElem?_set_self hl, ev] at e2
            cases e2
            exact nBA rfl
          · rw [List.getElem?_eq_none (by simpa using hl)] at e2; cases e2
        · rw [List.getElem?_set_ne (Ne.symm z)] at e1 e2
          exact wr.no c2 B rfl ew k o' e1 e2
theorem js_par {i j : Nat} {x y : Str} {ma mb : ME} {px py pt : Pos} {kt k2 pt2} (hc : X.calm = true) (hN : X.N.Nodup) (hi : X.N[i]? = some x) (hj : X.N[j]? = some y) (hij : i ≠ j)
    (hx : X.env.scope.names.lookup x = some .local) (hy : X.env.scope.names.lookup y = some .local) (ha : JE X W a ma) (hb : JE X W b mb)
    (hw : swappedStores [.Tuple [.Name x px, .Name y py] kt pt] (.Tuple [a, b] k2 pt2) X.env = pure (some [x, y]))
    (hs : swapsWithSole [.Tuple [.Name x px, .Name y py] kt pt] (.Tuple [a, b] k2 pt2) pos.line X.env = pure false := by rfl)
    (h1 : starEach [a, b] X.env = (false, eval a X.env) :: starEach [b] X.env := by rfl) (h2 : starEach [b] X.env = (false, eval b X.env) :: starEach [] X.env := by rfl) :
    JS X W (.Assign [.Tuple [.Name x px, .Name y py] kt pt] (.Tuple [a, b] k2 pt2) pos) (mPar i j ma mb) := by
  exact (ps_par hc hN hi hj hij hx hy (pa_cons ha (pa_cons hb pa_nil h2) h1) hw hs).imp par_read
theorem rdE_mono {m : ME} {σ : L2.St} {H : Hp} {Q Q' : VK} (h : rdE X W m σ H Q) (hq : ∀ v H, Q v H → Q' v H) : rdE X W m σ H Q' :=
  let ⟨Z, F, ρ, μ, δ, S, q⟩ := h
  ⟨Z, F, ρ, μ, δ, S, q.imp fun _ _ _ _ _ _ _ _ _ p v vr => hq _ _ (p v vr)⟩
/-- .. through a tuple -/
theorem FinS.laid {r : OutS} {E : Ends} {Z F : Hp} {ρ : List Addr} (h : FinS X W Z F ρ E r) : FinS X W Z F ρ { E with nx := fun σ H => ∀ p o, H p = none → E.nx σ (upd H p o) } r := by
  cases r with
  | nx δ μ => exact fun σ' H' F' ρ' l lr S p o hp => h σ' _ F' ρ' l lr (S.laid hp)
  | bk δ μ => exact h
  | ct δ μ => exact h
  | rt s μ => exact h
  | exc x δ μ => exact h
  | bad => exact h
theorem js_parT {i j : Nat} {x y : Str} {ma mb : ME} {px py pt : Pos} {kt k2 pt2} (hc : X.calm = true) (hN : X.N.Nodup) (hi : X.N[i]? = some x) (hj : X.N[j]? = some y)
    (hx : L2.Loc X.env.scope x) (hy : L2.Loc X.env.scope y) (fx : X.fn x = true) (fy : X.fn y = true) (ha : JE X W a ma) (hb : JE X W b mb)
    (hw : swappedStores [.Tuple [.Name x px, .Name y py] kt pt] (.Tuple [a, b] k2 pt2) X.env = pure none)
    (hs : swapsWithSole [.Tuple [.Name x px, .Name y py] kt pt] (.Tuple [a, b] k2 pt2) pos.line X.env = pure false := by rfl)
    (h1 : starEach [a, b] X.env = (false, eval a X.env) :: starEach [b] X.env := by rfl) (h2 : starEach [b] X.env = (false, eval b X.env) :: starEach [] X.env := by rfl) :
    JS X W (.Assign [.Tuple [.Name x px, .Name y py] kt pt] (.Tuple [a, b] k2 pt2) pos) (mPar i j ma mb) := by
  have tg : PG X (.Tuple [.Name x px, .Name y py] kt pt) (gTup X.K 2 (gCons (gName i) (gCons (gName j) gNil))) := pg_tup hc (pgs_cons (pg_name hN hi hx (.inl fx)) (pgs_cons (pg_name hN hj hy (.inl fy)) pgs_nil))
  refine (ps_asg (pe_tup (pa_cons ha (pa_cons hb pa_nil h2) h1)) tg hs hw).imp fun E σ H ⟨Z, F, ρ, μ, δ, S, q⟩ => ?_
  have z := par_read (X := X) (W := W) (i := i) (j := j) (ma := ma) (mb := mb) _ σ H ⟨Z, F, ρ, μ, δ, S, FinS.laid q⟩
  refine rdE_mono z fun v H1 z1 => rdE_mono z1 fun u H2 z2 => ?_
  obtain ⟨v', w', ev, z3⟩ := z2
  cases ev
  refine ⟨by rw [sizeLine_eq]; simp, fun p hp => ⟨p, _, rfl, .inl (.inl upd_same), rfl, _, _, rfl, _, _, rfl, rfl, z3 p _ hp⟩⟩
end
end FL

/-! Part G: join, slices, what changes an object. -/
namespace FL
open PySem L2

section
variable {X : Cx} {W : WX} {e a b o : Expr} {es : List Expr} {pos p apos : Pos}
/-! ### join -/
theorem joinT_S (x : Tx) : ∀ zs : List Tx, Str.join (toS x) (zs.map toS) = toS (joinT x zs)
  | [] => rfl
  | [z] => rfl
  | z :: y :: r => by
    show toS z ++ toS x ++ Str.join (toS x) ((y :: r).map toS) = toS (z ++ x ++ joinT x (y :: r))
    rw [joinT_S x (y :: r), toS_app, toS_app]
theorem lens_S (zs : List Tx) : ((zs.map toS).map (·.length)).sum = (zs.map List.length).sum := by
  congr 1
  rw [List.map_map]
  exact List.map_congr_left fun z _ => toS_len z
abbrev rJoin (K : PySem.W.Frag) : V → List V → Hp → VK → Prop := fun x xs H Q => ∃ a p, ∃ ys : List Str, x = .str a ∧ xs = [.ref p] ∧ (SqL K H p (ys.map V.str) ∨ SqT K H p (ys.map V.str)) ∧ (ys.map (·.length)).sum + ys.length * a.length ≤ 16777216 ∧ Q (.str (Txt.join a ys)) H
theorem j_join : RMJ X (rJoin X.K) gJoin := by
  intro Z F ρ μ δ σ H x xs dx ds s Q S bx bs e q
  have fin : ∀ {t : Tx} {zs : List Tx} {p : Addr}, x = .str (toS t) → xs = [.ref p] → (SqL X.K H p ((zs.map toS).map V.str) ∨ SqT X.K H p ((zs.map toS).map V.str)) →
      (if decide ((zs.map List.length).sum + t.length * zs.length ≤ 16777216) = true then some (Slot.fr (.str (joinT t zs))) else none) = some s → rJoin X.K x xs H Q := by
    intro t zs p e1 e2 hq he
    by_cases hz : (zs.map List.length).sum + t.length * zs.length ≤ 16777216
    · rw [if_pos (decide_eq_true hz)] at he
      cases he
      refine ⟨toS t, p, zs.map toS, e1, e2, hq, ?_, ?_⟩
      · rw [lens_S, List.length_map, toS_len, Nat.mul_comm]; exact hz
      · rw [TL.join_eq, joinT_S]
        exact q _ H F .refl S ⟨.str, fun o p z => by cases z⟩
    · rw [if_neg (by simpa using hz)] at he; cases he
  unfold gJoin at e
  split at e
  · rename_i t ys
    cases ez : strsD ys with
    | none => simp only [ez] at e; cases e
    | some zs =>
      simp only [ez] at e
      obtain ⟨v, rfl, hb⟩ := bs.one
      obtain ⟨p, vs, rfl, h, r⟩ := hb.lst S
      rw [strsD_map ez] at r
      have ev := r.strs
      subst ev
      exact fin bx.str rfl (.inl (.of h)) e
  · rename_i t ys
    cases ez : strsD ys with
    | none => simp only [ez] at e; cases e
    | some zs =>
      simp only [ez] at e
      obtain ⟨v, rfl, hb⟩ := bs.one
      obtain ⟨p, vs, rfl, h, r⟩ := hb.tup S
      rw [strsD_map ez] at r
      have ev := r.strs
      subst ev
      exact fin bx.str rfl (.inr h) e
  · cases e

/-! ### slices -/
def cutD {α : Type} (xs : List α) (lo hi : Option Int) : List α := (xs.drop (HT.sIx xs.length 0 lo)).take (HT.sIx xs.length xs.length hi - HT.sIx xs.length 0 lo)
def SlJ (X : Cx) (r : V → Option Int → Option Int → Hp → VK → Prop) (g : D → Option Int → Option Int → Option Slot) : Prop := ∀ Z F ρ μ δ σ H x dx lo hi s Q, Sim X.K X.mg Z F ρ μ δ σ H → Bor X.K X.mg F ρ H x dx → g dx lo hi = some s →
  (∀ v H' F', Le Z F F' → Sim X.K X.mg Z F' ρ μ δ σ H' → VR X.K X.mg Z F' ρ δ σ H' v s → Q v H') → r x lo hi H Q
def rdP (X : Cx) (W : WX) (m : MM (Option Int)) : TO := fun σ H Q => ∃ Z F ρ μ δ, Sim X.K X.mg Z F ρ μ δ σ H ∧ FinE X W Z F ρ σ (fun i _ _ _ _ H' => Q i H') (m δ μ)
theorem _root_.L2.PO.imp {X : Cx} {e : Option Expr} {t t' : TO} (h : PO X e t) (hi : ∀ σ H Q, t' σ H Q → t σ H Q) : PO X e t' := ⟨fun pins s σ H Q I q => h.run pins s σ H Q I (hi σ H Q q)⟩
abbrev JP (X : Cx) (W : WX) (e : Option Expr) (m : MM (Option Int)) : Prop := PO X e (rdP X W m)
def mNoP : MM (Option Int) := fun δ μ => .ok none δ μ
def mP (m : ME) : MM (Option Int) := fun δ μ => (m δ μ).bind fun s δ1 μ1 => match s with
  | .fr (.int i) => .ok (some i) δ1 μ1
  | _ => .bad
theorem jp_none : JP X W none mNoP := po_none.imp fun σ H Q ⟨Z, F, ρ, μ, δ, S, q⟩ => q H F ρ .refl .refl S
theorem jp_some {m : ME} (h : JE X W e m) : JP X W (some e) (mP m) := by
  refine (po_some h).imp fun σ H Q ⟨Z, F, ρ, μ, δ, S, q⟩ => ⟨Z, F, ρ, μ, δ, S, (FinE.bind q).imp fun s δ1 μ1 H1 F1 ρ1 l lr S1 ⟨_, _, _, p⟩ v vr => ?_⟩
  cases s with
  | own o => exact p.elim
  | fr d =>
    cases d with
    | int i =>
      cases vr.r
      exact ⟨i, rfl, p H1 F1 ρ1 .refl .refl S1⟩
    | _ => exact p.elim
def mSl (g : D → Option Int → Option Int → Option Slot) (o : Opn) (lo hi : MM (Option Int)) : ME := fun δ μ => (o.ev δ μ).bind fun r δ1 μ1 => (lo δ1 μ1).bind fun l δ2 μ2 => (hi δ2 μ2).bind fun h δ3 μ3 =>
  match r.at δ3 μ3 with
  | some d => lift (g d l h) δ3 μ3
  | none => .bad
theorem je_slice {lo hi : Option Expr} {p2 : Pos} {r : V → Option Int → Option Int → Hp → VK → Prop} {g : D → Option Int → Option Int → Option Slot} {oo : Opn} {ml mh : MM (Option Int)} (hs : SlR X r) (hr : SlJ X r g) (ho : JO X W e oo) (hl : JP X W lo ml) (hh : JP X W hi mh) :
    JE X W (.Subscript e (.Slice lo hi none p2) pos) (mSl g oo ml mh) := by
  refine (pe_slice hs ho hl hh).imp fun σ H Q ⟨Z, F, ρ, μ, δ, S, q⟩ => ⟨Z, F, ρ, μ, δ, S, (FinE.bind q).imp fun ra δ1 μ1 H1 F1 ρ1 l1 lr1 S1 ⟨_, _, _, p⟩ x hx => ?_⟩
  refine ⟨Z, F1, ρ1, μ1, δ1, S1, p.bind.imp fun l δ2 μ2 H2 F2 ρ2 l2 lr2 S2 ⟨_, _, _, p2⟩ => ?_⟩
  refine ⟨Z, F2, ρ2, μ2, δ2, S2, p2.bind.imp fun h δ3 μ3 H3 F3 ρ3 l3 lr3 S3 ⟨_, _, _, p3⟩ => ?_⟩
  cases ea : ra.at δ3 μ3 with
  | none => simp only [ea] at p3; exact p3.elim
  | some d =>
    simp only [ea] at p3
    unfold lift at p3
    cases eg : g d l h with
    | none => simp only [eg] at p3; exact p3.elim
    | some s =>
      simp only [eg] at p3
      exact hr Z F3 ρ3 μ3 δ3 σ H3 x d l h s Q S3 (((hx.up l2 lr2).up l3 lr3).bor S3 ea) eg fun v H' F' l' S' vr => p3 H' F' ρ3 l' .refl S' v vr
def gSl : D → Option Int → Option Int → Option Slot
  | .str x, lo, hi => if x.length ≤ 16777216 then some (.fr (.str (cutD x lo hi))) else none
  | .lst x, lo, hi => some (.own (.lst (cutD x lo hi)))
  | .ro x, lo, hi => some (.own (.lst (cutD x lo hi)))
  | .tup x, lo, hi => some (.fr (.tup (cutD x lo hi)))
  | _, _, _ => none
abbrev rSlAny (K : PySem.W.Frag) : V → Option Int → Option Int → Hp → VK → Prop := fun x lo hi H Q => rSlS x lo hi H Q ∨ (rSlL K x lo hi H Q ∨ rSlA K x lo hi H Q)
theorem o_slice : SlR X (rSlAny X.K) := sl_str.or (sl_list.or sl_tupA)
theorem sIx_le {n d : Nat} (hd : d ≤ n) (i : Option Int) : HT.sIx n d i ≤ n := HT.sIx_le _ _ hd _
theorem cut_whole {α : Type} {xs : List α} {lo hi : Option Int} (h1 : HT.sIx xs.length 0 lo = 0) (h2 : HT.sIx xs.length xs.length hi = xs.length) : cutD xs lo hi = xs := by
  unfold cutD
  rw [h1, h2]; simp
theorem j_slice : SlJ X (rSlAny X.K) gSl := by
  intro Z F ρ μ δ σ H x dx lo hi s Q S bx e q
  unfold gSl at e
  cases dx <;> first | (cases e; done) | skip
  · rename_i t
    by_cases hz : t.length ≤ 16777216
    · simp only [hz, if_true] at e
      cases e
      cases bx.str
      refine .inl ⟨_, rfl, by rw [toS_len, line_eq]; exact hz, ?_⟩
      have ec : cutS (toS t) lo hi = toS (cutD t lo hi) := by
        unfold cutS cutD
        rw [toS_len]
        rfl
      rw [ec]
      exact q _ H F .refl S ⟨.str, fun o p z => by cases z⟩
    · simp only [hz] at e; cases e
  · rename_i ds
    cases e
    obtain ⟨p, vs, rfl, h, r⟩ := bx.lst S
    refine .inr (.inl ⟨p, vs, rfl, .of h, fun a ha => ?_⟩)
    have r2 : RepL X.K X.mg F ρ (cutV vs lo hi) (cutD ds lo hi) := by unfold cutV cutD; rw [r.len]; exact (r.drop _).take _
    obtain ⟨S', vr⟩ := vr_newL S ha r2
    exact q _ _ F .refl S' vr
  · rename_i ds
    cases e
    have rp := bx.rep fun o e => by cases o <;> cases e
    obtain ⟨p, vs, rfl, h, r⟩ := bx.tup S
    refine .inr (.inr ⟨p, vs, rfl, h, fun hw => ?_, fun _ a ha => ?_⟩)
    · rw [r.len] at hw
      rw [cut_whole hw.1 hw.2] at q
      exact q _ H F .refl S ⟨rp, fun o p z => by cases z⟩
    · have r2 : RepL X.K X.mg F ρ (cutV vs lo hi) (cutD ds lo hi) := by unfold cutV cutD; rw [r.len]; exact (r.drop _).take _
      obtain ⟨F', l', S', vr⟩ := vr_newT S ha r2
      exact q _ _ F' l' S' vr
  · rename_i ds
    cases e
    obtain ⟨p, vs, rfl, h, r⟩ := bx.ro S
    refine .inr (.inl ⟨p, vs, rfl, h, fun a ha => ?_⟩)
    have r2 : RepL X.K X.mg F ρ (cutV vs lo hi) (cutD ds lo hi) := by unfold cutV cutD; rw [r.len]; exact (r.drop _).take _
    obtain ⟨S', vr⟩ := vr_newL S ha r2
    exact q _ _ F .refl S' vr

/-! ### objects that are changed -/
/-- the object that is meant, and what is to be written back -/
def recv (δ : Loc) (μ : Mem) : OR → Option (Own × (Own → Loc × Mem))
  | .d (.obj k) => match μ[k]? with
    | some c => some (c, fun c' => (δ, μ.set k c'))
    | none => none
  | .d _ => none
  | .i j => match δ[j]? with
    | some (some (.own c)) => some (c, fun c' => (δ.set j (some (.own c')), μ))
    | some (some (.fr (.obj k))) => match μ[k]? with
      | some c => some (c, fun c' => (δ, μ.set k c'))
      | none => none
    | _ => none
theorem recv_ok {K : PySem.W.Frag} {mg : Str → Option Value} {Z F H : Hp} {ρ : List Addr} {μ : Mem} {δ : Loc} {σ : St} {v : V} {r : OR} {c : Own} {w : Own → Loc × Mem} (S : Sim K mg Z F ρ μ δ σ H) (h : OrR K mg F ρ σ v r) (e : recv δ μ r = some (c, w)) :
    ∃ p, v = .ref p ∧ OwnR K mg F ρ H p c ∧ ∀ o c', OwnR K mg F ρ (upd H p o) p c' → Sim K mg Z F ρ (w c').2 (w c').1 σ (upd H p o) := by
  have mem : ∀ {k : Nat}, Rep K mg F ρ v (.obj k) → (match μ[k]? with | some c => some (c, fun c' => (δ, μ.set k c')) | none => (none : Option (Own × (Own → Loc × Mem)))) = some (c, w) →
      ∃ p, v = .ref p ∧ OwnR K mg F ρ H p c ∧ ∀ o c', OwnR K mg F ρ (upd H p o) p c' → Sim K mg Z F ρ (w c').2 (w c').1 σ (upd H p o) := by
    intro k hr he
    cases hr with
    | @obj _ p hp =>
      cases em : μ[k]? with
      | none => simp only [em] at he; cases he
      | some c0 =>
        simp only [em] at he
        cases he
        obtain ⟨a, ea, _, _, r⟩ := S.mem k _ em
        rw [hp] at ea; cases ea
        exact ⟨p, rfl, r, fun o c' hc => S.writeM em hp hc⟩
  cases r with
  | d d =>
    cases d <;> first | (cases e; done) | skip
    exact mem h e
  | i j =>
    have h' : σ[j]? = some (some v) := h
    unfold recv at e
    cases ej : δ[j]? with
    | none => simp only [ej] at e; cases e
    | some so =>
      cases so with
      | none => simp only [ej] at e; cases e
      | some s =>
        obtain ⟨u, eu, rr⟩ := S.slot j s ej
        rw [h'] at eu; cases eu
        cases s with
        | own c0 =>
          simp only [ej] at e
          cases e
          obtain ⟨p, rfl, _, ro⟩ := rr
          exact ⟨p, rfl, ro, fun o c' hc => S.write ej h' hc⟩
        | fr d =>
          cases d <;> first | (simp only [ej] at e; cases e; done) | skip
          simp only [ej] at e
          exact mem rr e
def ownTy (T : String) : Own → Bool
  | .lst _ => T == "list"
  | .dct _ _ => T == "dict"
  | .tab _ _ => false
  | .ins _ _ _ _ => false
  | .idc _ => false
def MutJ (X : Cx) (r : V → List V → Hp → VK → Prop) (g : Own → List D → Option (D × Own)) : Prop := ∀ Z F ρ μ δ σ H p c xs ds d c' Q, Sim X.K X.mg Z F ρ μ δ σ H → OwnR X.K X.mg F ρ H p c → RepL X.K X.mg F ρ xs ds → g c ds = some (d, c') →
  (∀ v o, Rep X.K X.mg F ρ v d → OwnR X.K X.mg F ρ (upd H p o) p c' → Q v (upd H p o)) → r (.ref p) xs H Q
/-- o.m(e, ..), o is changed -/
def mMut (T : String) (g : Own → List D → Option (D × Own)) (o : Opn) (ms : List ME) : ME := fun δ μ => (o.ev δ μ).bind fun r δ1 μ1 => match recv δ1 μ1 r with
  | some (c0, _) => if ownTy T c0 = true then (evA ms δ1 μ1).bind fun ds δ2 μ2 => match recv δ2 μ2 r with
      | some (c, w) => match g c ds with
        | some (d, c') => .ok (.fr d) (w c').1 (w c').2
        | none => .bad
      | none => .bad
    else .bad
  | none => .bad
theorem ownTy_V {F H : Hp} {ρ : List Addr} {p : Addr} {c : Own} {T : String} (hT : T = "list") (h : OwnR X.K X.mg F ρ H p c) (e : ownTy T c = true) : tyV X.K T (.ref p) H := by
  subst hT
  cases c with
  | lst xs => obtain ⟨vs, h, r⟩ := h; exact .inl ⟨rfl, vs, .of h⟩
  | dct ks xs =>
    have e' : (("list" : String) == "dict") = true := e
    exact absurd e' (by decide)
  | tab P q => cases e
  | ins c kd ks xs => cases e
  | idc k => cases e
theorem mMut_read {T : String} {r : V → List V → Hp → VK → Prop} {g : Own → List D → Option (D × Own)} {oo : Opn} {ms : List ME} (hT : T = "list") (hr : MutJ X r g) : ∀ σ H Q, rdE X W (mMut T g oo ms) σ H Q → tBM X.K T r (rdO X W oo) (rdA X W ms) σ H Q := by
  intro σ H Q ⟨Z, F, ρ, μ, δ, S, q⟩
  refine ⟨Z, F, ρ, μ, δ, S, (FinE.bind q).imp fun ra δ1 μ1 H1 F1 ρ1 l lr S1 ⟨_, _, _, p⟩ x hx => ?_⟩
  cases e0 : recv δ1 μ1 ra with
  | none => simp only [e0] at p; exact p.elim
  | some cw =>
    obtain ⟨c0, w0⟩ := cw
    simp only [e0] at p
    obtain ⟨pa, rfl, ow, _⟩ := recv_ok S1 hx e0
    by_cases ht : ownTy T c0 = true
    · rw [if_pos ht] at p
      refine ⟨ownTy_V hT ow ht, Z, F1, ρ1, μ1, δ1, S1, p.bind.imp fun ds δ2 μ2 H2 F2 ρ2 l2 lr2 S2 ⟨_, _, _, p2⟩ xs hxs => ?_⟩
      cases e1 : recv δ2 μ2 ra with
      | none => simp only [e1] at p2; exact p2.elim
      | some cw =>
        obtain ⟨c, w⟩ := cw
        simp only [e1] at p2
        cases eg : g c ds with
        | none => simp only [eg] at p2; exact p2.elim
        | some dc =>
          obtain ⟨d, c'⟩ := dc
          simp only [eg] at p2
          obtain ⟨pa', ep, ow2, hw⟩ := recv_ok S2 (hx.up l2 lr2) e1
          cases ep
          exact hr Z F2 ρ2 μ2 δ2 σ H2 _ c xs ds d c' Q S2 ow2 hxs eg fun v o' rv ho => p2 _ F2 ρ2 .refl .refl (hw o' c' ho) v ⟨rv, fun o p z => by cases z⟩
    · rw [if_neg ht] at p; exact p.elim
theorem je_mut {id : String} {name : Str} {r : V → List V → Hp → VK → Prop} {g : Own → List D → Option (D × Own)} {oo : Opn} {ms : List ME} (pa : PlainAttrs "list") (slot : PySem.Slot "list" name id) (hty : typeOf (.builtin id) = pure (.type "method_descriptor")) (hm : MtR X id r) (hr : MutJ X r g) (ho : JO X W o oo) (ha : JA X W (e :: es) ms)
    (hbase : attributeBase o name X.env (eval o X.env) = eval o X.env := by rfl)
    (hfew : ((backTo pos (starEach (e :: es) X.env)).all (fun x => !x.1) && (backToKw pos (keywordEach [] X.env)).all (fun x => x.1.isSome)
      && decide ((e :: es).length + ([] : List Keyword).length + (if ([] : List Keyword).isEmpty then 0 else 1) < 30)) = true := by rfl)
    (hline : (apos.endLine == pos.line) = true := by rfl) (hs : starEach (e :: es) X.env = (false, eval e X.env) :: starEach es X.env := by rfl) (hplain : (backTo pos (starEach es X.env)).any (·.1) = false := by rfl) :
    JE X W (.Call (.Attribute o name apos) (e :: es) [] pos) (mMut "list" g oo ms) :=
  (pe_bm pa slot hty hm ho ha hbase hfew hline hs hplain).imp (mMut_read rfl hr)
theorem je_mut0 {id : String} {name : Str} {r : V → List V → Hp → VK → Prop} {g : Own → List D → Option (D × Own)} {oo : Opn} (pa : PlainAttrs "list") (slot : PySem.Slot "list" name id) (hty : typeOf (.builtin id) = pure (.type "method_descriptor")) (hm : MtR X id r) (hr : MutJ X r g) (ho : JO X W o oo)
    (hbase : attributeBase o name X.env (eval o X.env) = eval o X.env := by rfl) (hline : (apos.endLine == pos.line) = true := by rfl) :
    JE X W (.Call (.Attribute o name apos) [] [] pos) (mMut "list" g oo []) := by
  refine (pe_bm0 pa slot hty hm ho hbase hline).imp fun σ H Q h => ?_
  obtain ⟨Z, F, ρ, μ, δ, S, q⟩ := mMut_read rfl hr σ H Q h
  refine ⟨Z, F, ρ, μ, δ, S, q.imp fun ra δ1 μ1 H1 F1 ρ1 l lr S1 p x hx => ?_⟩
  obtain ⟨ty, Z2, F2, ρ2, μ2, δ2, S2, q2⟩ := p x hx
  exact ⟨ty, q2 H1 F2 ρ2 .refl .refl S2 [] .nil⟩
def gAppend : Own → List D → Option (D × Own)
  | .lst xs, [d] => if xs.length < 16777216 then some (.non, .lst (xs ++ [d])) else none
  | _, _ => none
theorem RepL.single {F : Hp} {ρ : List Addr} {vs : List V} {d : D} (h : RepL X.K X.mg F ρ vs [d]) : ∃ v, vs = [v] ∧ Rep X.K X.mg F ρ v d := by
  cases h with
  | cons h t => cases t; exact ⟨_, rfl, h⟩
theorem RepL.none_of {F : Hp} {ρ : List Addr} {vs : List V} (h : RepL X.K X.mg F ρ vs []) : vs = [] := by cases h; rfl
theorem j_append : MutJ X rAppend gAppend := by
  intro Z F ρ μ δ σ H p c xs ds d c' Q S ow rx e q
  unfold gAppend at e
  split at e
  · rename_i ys d0
    by_cases hz : ys.length < 16777216
    · rw [if_pos hz] at e
      cases e
      obtain ⟨v, rfl, hv⟩ := rx.single
      obtain ⟨vs, hH, r⟩ := ow
      exact ⟨p, vs, v, rfl, rfl, hH, by rw [r.len, line_eq]; exact hz, q _ _ .non ⟨_, upd_same, r.app (.cons hv .nil)⟩⟩
    · rw [if_neg hz] at e; cases e
  · cases e
def gPop0 : Own → List D → Option (D × Own)
  | .lst xs, [] => match xs[xs.length - 1]? with
    | some d => some (d, .lst xs.dropLast)
    | none => none
  | _, _ => none
theorem RepL.dropLast {F : Hp} {ρ : List Addr} {vs : List V} {ds : List D} (h : RepL X.K X.mg F ρ vs ds) : RepL X.K X.mg F ρ vs.dropLast ds.dropLast := by
  rw [List.dropLast_eq_take, List.dropLast_eq_take, h.len]
  exact h.take _
theorem j_pop0 : MutJ X rPop gPop0 := by
  intro Z F ρ μ δ σ H p c xs ds d c' Q S ow rx e q
  unfold gPop0 at e
  split at e
  · rename_i ys
    cases ex : ys[ys.length - 1]? with
    | none => simp only [ex] at e; cases e
    | some d0 =>
      simp only [ex] at e
      cases e
      obtain ⟨vs, hH, r⟩ := ow
      obtain ⟨v, ev, rv⟩ := r.get ex
      exact ⟨p, vs, v, rfl, rx.none_of, hH, by rw [r.len]; exact ev, q _ _ rv ⟨_, upd_same, r.dropLast⟩⟩
  · cases e
/-- o[i] = v -/
def SetJ (X : Cx) (t : TSet) (g : Own → D → D → Option Own) : Prop := ∀ Z F ρ μ δ σ H p c i v di dv c' Q, Sim X.K X.mg Z F ρ μ δ σ H → OwnR X.K X.mg F ρ H p c → Bor X.K X.mg F ρ H i di → Rep X.K X.mg F ρ v dv → g c di dv = some c' →
  (∀ o, OwnR X.K X.mg F ρ (upd H p o) p c' → Q (upd H p o)) → t (.ref p) i v H Q
def mSetI (g : Own → D → D → Option Own) (oo oi : Opn) (m : ME) : MS := fun δ μ => (m δ μ).thn fun s δ1 μ1 => (oo.ev δ1 μ1).thn fun r δ2 μ2 => (oi.ev δ2 μ2).thn fun ri δ3 μ3 => match recv δ3 μ3 r, ri.at δ3 μ3 with
  | some (c, w), some di => match g c di s.d with
    | some c' => .nx (w c').1 (w c').2
    | none => .bad
  | _, _ => .bad
theorem js_setI {i : Expr} {spos : Pos} {t : TSet} {g : Own → D → D → Option Own} {oo oi : Opn} {m : ME} (hp : PSet X t) (hr : SetJ X t g) (he : JE X W e m) (ho : JO X W o oo) (hi : JO X W i oi)
    (ha : ∀ v, assign (.Subscript o i spos) X.env v = (do
      let ov ← holding [v] (eval o X.env)
      let iv ← holding [v, ov] (eval i X.env)
      standAt spos
      holding [v, ov, iv] (setItem ov iv v)
      release [v, ov, iv] []) := by intro _; rfl)
    (hs : swapsWithSole [.Subscript o i spos] e pos.line X.env = pure false := by rfl) (hw : swappedStores [.Subscript o i spos] e X.env = pure none := by rfl)
    (h1 : (assignEach [.Subscript o i spos] X.env).map (·.2) = [assign (.Subscript o i spos) X.env] := by rfl) : JS X W (.Assign [.Subscript o i spos] e pos) (mSetI g oo oi m) := by
  refine (ps_asg he.locked (L2.pg_sub ho hi hp ha) hs hw h1).imp fun E σ H ⟨Z, F, ρ, μ, δ, S, q⟩ => ⟨Z, F, ρ, μ, δ, S, (FinS.thn q).imp fun s δ1 μ1 H1 F1 ρ1 l1 lr1 S1 ⟨_, p1⟩ v rv => ?_⟩
  refine ⟨Z, F1, ρ1, μ1, δ1, S1, (FinS.thn p1).imp fun r δ2 μ2 H2 F2 ρ2 l2 lr2 S2 ⟨_, p2⟩ x hx => ?_⟩
  refine ⟨Z, F2, ρ2, μ2, δ2, S2, (FinS.thn p2).imp fun ri δ3 μ3 H3 F3 ρ3 l3 lr3 S3 ⟨_, p3⟩ y hy => ?_⟩
  cases e0 : recv δ3 μ3 r with
  | none => simp only [e0] at p3; exact p3.elim
  | some cw =>
    obtain ⟨c, w⟩ := cw
    cases e1 : ri.at δ3 μ3 with
    | none => simp only [e0, e1] at p3; exact p3.elim
    | some di =>
      simp only [e0, e1] at p3
      cases eg : g c di s.d with
      | none => simp only [eg] at p3; exact p3.elim
      | some c' =>
        simp only [eg] at p3
        obtain ⟨pa, rfl, ow, hw'⟩ := recv_ok S3 (hx.up l3 lr3) e0
        exact hr Z F3 ρ3 μ3 δ3 σ H3 pa c y v di s.d c' _ S3 ow (hy.bor S3 e1) ((Rep.up l2.to lr2.to rv).up l3.to lr3.to) eg fun o' ho' => p3.nx (hw' o' c' ho')
def gSetL : Own → D → D → Option Own
  | .lst xs, .int k, d => match ixN xs.length k with
    | some j => some (.lst (xs.set j d))
    | none => none
  | _, _, _ => none
theorem j_setL : SetJ X rSetL gSetL := by
  intro Z F ρ μ δ σ H p c i v di dv c' Q S ow bi rv e q
  unfold gSetL at e
  split at e
  · rename_i xs k
    cases ej : ixN xs.length k with
    | none => simp only [ej] at e; cases e
    | some j =>
      simp only [ej] at e
      cases e
      cases bi.int
      obtain ⟨vs, hH, r⟩ := ow
      exact ⟨p, vs, k, j, rfl, rfl, hH, by rw [r.len]; exact ej, q _ ⟨_, upd_same, r.set rv j⟩⟩
  · cases e
end
end FL

/-! Part H: functions, calls, the context of a derivation. -/
namespace FL
open PySem PySem.Spec PyProof.Rows L2

/-- room for calls, and nothing guarded -/
structure RmG (k : Nat) (A : Around) : Prop where
  r : Room k A
  g : A.guards = some []
theorem RmG.mono {j k : Nat} {A : Around} (r : RmG k A) (h : j ≤ k) : RmG j A := ⟨r.r.mono h, r.g⟩
theorem RmG.deeper {k : Nat} {A : Around} (r : RmG (k + 1) A) (env : Env) : RmG k (A.deeper env) := ⟨r.r.deeper env, r.g⟩
/-- a function's promise -/
structure FnG (P : Program) (w : World) (K : PySem.W.Frag) (mg : Str → Option Value) (base : Heap) (Y : CXT) (k : Nat) (f : Addr) (fd : FuncData) (ps : List Str) (sp : Sp) : Prop where
  len : ∀ vs H Q E, sp vs H Q E → vs.length = ps.length
  run : ∀ (A : Around) (outer : List Env) (s : Shared) (H : Hp) (args : Args) (us : List Value) (vs : List V) (Q : VK) (E : XK), RmG k A → Env0 P w K mg base A outer s H → BindsTo s fd args (ps.zip us) → Vals vs us → sp vs H Q E →
    codeAny (model P w) A (.call (.ref f) args) (CR Y outer P w H s Q E) s
theorem FnG.mono {P : Program} {w : World} {K : PySem.W.Frag} {mg : Str → Option Value} {base : Heap} {Y : CXT} {j k : Nat} {f : Addr} {fd : FuncData} {ps : List Str} {sp : Sp} (h : FnG P w K mg base Y j f fd ps sp) (le : j ≤ k) : FnG P w K mg base Y k f fd ps sp :=
  ⟨h.len, fun A outer s H args us vs Q E hr => h.run A outer s H args us vs Q E (hr.mono le)⟩
/-- a def of the text, as the top has left it; its defaults are dV -/
structure Fd (K : PySem.W.Frag) (x qual : Str) (st : Stmt) (f : Addr) (fd : FuncData) (dV : Value) : Prop where
  ex : ∃ (oc : Value) (od : Option Addr) (kV doc pm : Value) (an : Option Addr) (cdv ct : Value) (osl : Array (Option Value)),
    fd = PySem.W.fnOf x qual (defArgs st) (defBody st) (defScope st) dV kV doc pm an cdv ct ∧ K.lookup f = some { cls := oc, dict := od, data := .func fd, slots := osl } ∧ PySem.W.codeIn K cdv qual = true
theorem fnG_of {Y : CXT} {P : Program} {w : World} {K : PySem.W.Frag} {mg : Str → Option Value} {base : Heap} {k : Nat} {f : Addr} {x qual : Str} {st : Stmt} {fd : FuncData} {N ps : List Str} {sp : Sp} {dV : Value} (F : Fd K x qual st f fd dV) (S : FnScope N ps (defScope st))
    (len : ∀ vs H Q E, sp vs H Q E → vs.length = ps.length)
    (hbody : ∀ (cdv : Value) (A : Around) (outer : List Env) (s : Shared) (H : Hp) (vs : List V) (Q : VK) (E : XK), RmG k (A.deeper (envOfC qual (defScope st) s.heap.objs.size f cdv)) → sp vs H Q E →
      ∃ t, PSs (cxOf Y P w K mg base N qual (defScope st) f cdv A outer s H E) (defBody st) t ∧ t { nx := fun _ H' => Q .non H', rt := Q } (L2.start N vs) H) : FnG P w K mg base Y (k + 1) f fd ps sp := by
  obtain ⟨oc, od, kV, doc, pm, an, cdv, ct, osl, rfl, lk, hcd⟩ := F.ex
  refine ⟨len, fun A outer s H args us vs Q E hr e0 hb r hsp => ?_⟩
  have hlen := len _ _ _ _ hsp
  have inK : K.In s.heap := e0.mod.kin.keeps fun b o e => (e0.bs b o e).1
  have lim : s.heap.NoLimit := e0.mod.nolimit.keeps fun b o e => (e0.bs b o e).1
  have kinds : ∀ y ∈ ps.zip us, (defScope st).names.lookup y.1 = some .local ∨ ((defScope st).names.lookup y.1 = some .cell ∧ ((cellsFrom (s.heap.objs.size + 1) (defScope st).names []).lookup y.1).isSome = true) := fun ⟨n, u⟩ hy => by
    rcases S.par n (List.of_mem_zip hy).1 with q | q
    · exact Or.inl q
    · exact Or.inr ⟨q, PySem.W.cellsFrom_some _ _ _ (Or.inl q)⟩
  refine codeAny_call_function hr.r.depth (inK _ _ lk) rfl S.co S.gen rfl (PySem.W.codeRec_of inK hcd) (hb _ _ _ _ ?_)
  refine wpAny_newFunctionEnv_cells S.kind kinds fun env eenv s1 xx => ?_
  subst eenv
  refine ⟨lim.keeps xx.toInCall.keep, codeAny_func ?_⟩
  obtain ⟨t, ht, hq⟩ := hbody cdv A outer s H vs Q E (hr.deeper _) hsp
  have I : Inv (cxOf Y P w K mg base N qual (defScope st) f cdv A outer s H E) [] (L2.start N vs) H s1 := inv_start S hr.r.hd e0 hlen r xx
  refine wpAny_mono (ht.run [] s1 (L2.start N vs) H _ I hq) (fun fl s' hs => ?_) fun e s' hs => hs
  cases fl with
  | ret u =>
    obtain ⟨v, σ', H', J, rv, q⟩ := hs
    exact ⟨v, H', J.os, J.bare, J.base, J.hok, rv, q⟩
  | next =>
    obtain ⟨σ', H', J, q⟩ := hs
    exact ⟨.non, H', J.os, J.bare, J.base, J.hok, rfl, q⟩
  | brk =>
    obtain ⟨_, _, _, z⟩ := hs
    exact z.elim
  | cont =>
    obtain ⟨_, _, _, z⟩ := hs
    exact z.elim

/-! ### the mirror of a function -/
inductive OutF where
  | ok (s : Slot) (μ : Mem)
  | exc (x : Exc) (μ : Mem)
  | bad
abbrev MF := List D → Mem → OutF
def startD (n : Nat) (ds : List D) : Loc := ds.map (fun d => some (.fr d)) ++ List.replicate (n - ds.length) none
def OutS.fin (r : OutS) : OutF := match r with
  | .nx _ μ => .ok (.fr .non) μ
  | .rt s μ => .ok s μ
  | .exc x _ μ => .exc x μ
  | _ => .bad
/-- a value that the kernel does not look into -/
theorem sealed {α : Type} (a : α) : ∃ r : α, r = a := ⟨a, rfl⟩
noncomputable def mFn (n : Nat) (m : MS) : MF := Classical.choose (sealed fun ds μ => (m (startD n ds) μ).fin)
theorem mFn_eq {n : Nat} {m : MS} {ds : List D} {μ : Mem} : mFn n m ds μ = (m (startD n ds) μ).fin := congrFun (congrFun (Classical.choose_spec (sealed fun ds μ => (m (startD n ds) μ).fin)) ds) μ
section
variable (K : PySem.W.Frag) (mg : Str → Option Value)
def FinF (Z F : Hp) (ρ : List Addr) (Q : VK) (E : XK) : OutF → Prop
  | .ok s μ => ∀ v H' F' ρ', Le Z F F' → LeR Z ρ ρ' → Sim K mg Z F' ρ' μ [] [] H' → SlotR K mg Z F' ρ' H' v s → Q v H'
  | .exc x μ => ∀ c d H' F' ρ', Le Z F F' → LeR Z ρ ρ' → Sim K mg Z F' ρ' μ [] [] H' → ExcR K mg F' ρ' c d x → E c d H'
  | .bad => False
def spM (m : MF) (n : Nat) : Sp := fun vs H Q E => vs.length = n ∧ ∃ Z F ρ μ ds, Sim K mg Z F ρ μ [] [] H ∧ RepL K mg F ρ vs ds ∧ FinF K mg Z F ρ Q E (m ds μ)
end
theorem start_get {N : List Str} {vs : List V} {i : Nat} (hi : i < vs.length) : (L2.start N vs)[i]? = some (vs[i]?) := by
  unfold L2.start
  rw [List.getElem?_append_left (by simpa using hi), List.getElem?_map]
  rw [List.getElem?_eq_getElem hi]; rfl
theorem Sim.begin {K : PySem.W.Frag} {mg : Str → Option Value} {Z F H : Hp} {ρ : List Addr} {μ : Mem} {N : List Str} {vs : List V} {ds : List D} (S : Sim K mg Z F ρ μ [] [] H) (r : RepL K mg F ρ vs ds) : Sim K mg Z F ρ μ (startD N.length ds) (L2.start N vs) H := by
  have hl := r.len
  have none_own : ∀ (i : Nat) c, (startD N.length ds)[i]? ≠ some (some (.own c)) := by
    intro i c h
    unfold startD at h
    by_cases hi : i < ds.length
    · rw [List.getElem?_append_left (by simpa using hi), List.getElem?_map, List.getElem?_eq_getElem hi] at h
      cases h
    · rw [List.getElem?_append_right (by simpa using hi), List.getElem?_replicate] at h
      split at h <;> cases h
  refine ⟨S.le, S.zk, ?_, fun i s e => ?_, fun i j p s s' e => absurd e (none_own i s), S.mem, S.mlen, S.nod⟩
  · unfold L2.start startD
    rw [List.length_append, List.length_append, List.length_map, List.length_map, List.length_replicate, List.length_replicate, hl]
  · by_cases hi : i < ds.length
    · have hv : i < vs.length := by rw [hl]; exact hi
      unfold startD at e
      rw [List.getElem?_append_left (by simpa using hi), List.getElem?_map, List.getElem?_eq_getElem hi] at e
      cases e
      obtain ⟨v, ev, rv⟩ := r.get (List.getElem?_eq_getElem hi)
      exact ⟨v, by rw [start_get hv, ev], rv⟩
    · unfold startD at e
      rw [List.getElem?_append_right (by simpa using hi), List.getElem?_replicate] at e
      split at e <;> cases e
/-- the context of a derivation: room for k levels of calls, the names, the scope -/
structure Cs (X : Cx) (W : WX) (k : Nat) (N : List Str) (sc : Scope) : Prop where
  calm : X.calm = true
  rm : RmG k X.A
  tk : Takes X W
  hN : X.N = N
  hsc : X.env.scope = sc
  nd : N.Nodup
/-- .. of a def's own body -/
structure Cd (X : Cx) (W : WX) (k : Nat) (N : List Str) (sc : Scope) : Prop extends Cs X W k N sc where
  hp : PassesOwn (model X.prog X.w) X.A X.env X.xe
  fn : ∀ x, L2.Loc X.env.scope x → X.fn x = true
/-- a def by its mirror -/
theorem fnG_m {P : Program} {w : World} {K : PySem.W.Frag} {mg : Str → Option Value} {base : Heap} {k n : Nat} {f : Addr} {x qual : Str} {st : Stmt} {fd : FuncData} {N ps : List Str} {m : MS} {dV : Value} (F : Fd K x qual st f fd dV) (S : FnScope N ps (defScope st)) (hn : ps.length = n)
    (hbody : ∀ (X : Cx) (W : WX), X.prog = P → X.w = w → X.K = K → X.mg = mg → X.base = base → Cd X W k N (defScope st) → JSs X W (defBody st) m) : FnG P w K mg base (L2.CX P w) (k + 1) f fd ps (spM K mg (mFn N.length m) n) := by
  subst hn
  refine fnG_of F S (fun vs H Q E h => h.1) (fun cdv A outer s H vs Q E hr h => ?_)
  obtain ⟨hl, Z, F0, ρ, μ, ds, S0, r, q⟩ := h
  refine ⟨_, hbody (cxOf (L2.CX P w) P w K mg base N qual (defScope st) f cdv A outer s H E) (fun c d _ H => E c d H) rfl rfl rfl rfl rfl ⟨⟨rfl, hr, takes_of rfl rfl rfl rfl, rfl, rfl, S.nd⟩, passes_of rfl, fun _ _ => rfl⟩, ?_⟩
  refine ⟨Z, F0, ρ, μ, _, S0.begin r, ?_⟩
  rw [mFn_eq] at q
  generalize m (startD N.length ds) μ = o at q
  cases o with
  | nx δ μ' => exact fun σ' H' F' ρ' l lr S' => q .non H' F' ρ' l lr S'.drop .non
  | rt s μ' => exact fun v H' F' ρ' l lr S' rv => q v H' F' ρ' l lr S' rv
  | bk δ μ' => exact q.elim
  | ct δ μ' => exact q.elim
  | exc x δ μ' => exact fun c d σ' H' F' ρ' l lr S' er => q c d H' F' ρ' l lr S'.drop er
  | bad => exact q

section
variable {X : Cx} {W : WX} {k j : Nat} {N : List Str} {sc : Scope} {e : Expr} {es : List Expr} {pos p : Pos} {f : Addr} {fd : FuncData} {ps : List Str} {x : Str}
def mCall (m : MF) (ms : List ME) (dds : List D) : ME := fun δ μ => (evA ms δ μ).bind fun ds δ1 μ1 => match m (ds ++ dds) μ1 with
  | .ok s μ2 => .ok s δ1 μ2
  | .exc x μ2 => .exc x δ1 μ2
  | .bad => .bad
/-- a function that may be called -/
structure Fu (P : Program) (w : World) (K : PySem.W.Frag) (mg : Str → Option Value) (base : Heap) (k : Nat) (x : Str) (m : MF) (n : Nat) (dds : List D) : Prop where
  ex : ∃ (f : Addr) (fd : FuncData) (ps : List Str) (ds : List Value) (dvs : List V), FnG P w K mg base (L2.CX P w) k f fd ps (spM K mg m n) ∧ mg x = some (.ref f) ∧ PySem.W.keepIn K (.ref f) = true ∧ Binds K fd ps ds ∧ Vals dvs ds ∧ ∀ F ρ, RepL K mg F ρ dvs dds
abbrev FuX (X : Cx) (k : Nat) (x : Str) (m : MF) (n : Nat) (dds : List D) : Prop := Fu X.prog X.w X.K X.mg X.base k x m n dds
theorem evA_len : ∀ {ms : List ME} {δ : Loc} {μ : Mem} {ds : List D} {δ' : Loc} {μ' : Mem}, evA ms δ μ = .ok ds δ' μ' → ms.length = ds.length := by
  intro ms
  induction ms with
  | nil => intro δ μ ds δ' μ' e; cases e; rfl
  | cons m ms ih =>
    intro δ μ ds δ' μ' e
    have e : ((m δ μ).bind fun s δ1 μ1 => (evA ms δ1 μ1).bind fun ds δ2 μ2 => Out.ok (s.d :: ds) δ2 μ2) = .ok ds δ' μ' := e
    cases em : m δ μ with
    | ok s δ1 μ1 =>
      rw [em] at e
      have e : ((evA ms δ1 μ1).bind fun ds δ2 μ2 => Out.ok (s.d :: ds) δ2 μ2) = .ok ds δ' μ' := e
      cases er : evA ms δ1 μ1 with
      | ok ds2 δ2 μ2 =>
        rw [er] at e
        cases e
        rw [List.length_cons, List.length_cons, ih er]
      | exc x δ2 μ2 => rw [er] at e; cases e
      | bad => rw [er] at e; cases e
    | exc x δ1 μ1 => rw [em] at e; cases e
    | bad => rw [em] at e; cases e
theorem call_end {m : MF} {n : Nat} {dds : List D} {ms : List ME} {dvs : List V} (hdd : ∀ F ρ, RepL X.K X.mg F ρ dvs dds) (hn : ∀ ds, ms.length = ds.length → (ds ++ dds).length = n) : ∀ σ H Q, rdE X W (mCall m ms dds) σ H Q → tCallSD (spM X.K X.mg m n) dvs (WE W) (rdA X W ms) σ H Q := by
  intro σ H Q ⟨Z, F, ρ, μ, δ, S, q⟩
  refine ⟨Z, F, ρ, μ, δ, S, ?_⟩
  cases ea : evA ms δ μ with
  | bad => unfold mCall at q; rw [ea] at q; exact q
  | exc x δ1 μ1 => unfold mCall at q; rw [ea] at q; exact q
  | ok ds δ1 μ1 =>
    unfold mCall at q
    rw [ea, Out.bind_ok] at q
    intro H1 F1 ρ1 l1 lr1 S1 vs hv
    have q1 := q.mono l1 lr1
    have hvd := hv.app (hdd F1 ρ1)
    refine ⟨by rw [hvd.len]; exact hn ds (evA_len ea), zone Z H1 δ1 σ, F1, ρ1, μ1, ds ++ dds, S1.enter, hvd, ?_⟩
    generalize m (ds ++ dds) μ1 = o at q1
    cases o with
    | ok s μ2 => exact fun v H' F' ρ' l lr S' rv => q1 H' F' ρ' (S1.leLeave l) (S1.leRLeave lr) (S1.leave S' l lr) v (S1.came rv)
    | exc x μ2 => exact fun c d H' F' ρ' l lr S' er => q1 c d H' F' ρ' (S1.leLeave l) (S1.leRLeave lr) (S1.leave S' l lr) er
    | bad => exact q1
theorem run_callG {Y : CXT} {sp : Sp} {dvs : List V} {ds : List Value} {E : L2.St → XK} {pins : List (Addr × Obj)} {σ : L2.St} {H : Hp} {s : Shared} {Q : VK} {us : List Value} {vs : List V} (F : FnG X.prog X.w X.K X.mg X.base Y j f fd ps sp) (hr : RmG j X.A) (hb : Binds X.K fd ps ds) (hd : Vals dvs ds) (hx : PassesAt Y X σ (E σ))
    (I : Inv X pins σ H s) (r : Vals vs us) (h : sp (vs ++ dvs) H Q (E σ)) : wpAny (model X.prog X.w) X.A (call (.ref f) us) (EP X pins σ Q) X.xe s := by
  have r' : Vals (vs ++ dvs) (us ++ ds) := r.append hd
  have hlen : (us ++ ds).length = ps.length := by rw [← r'.length]; exact F.len _ _ _ _ h
  refine wpAny_call (codeAny_mono (F.run X.A X.stack s H ⟨us, []⟩ _ _ Q (E σ) hr I.env0 (hb s us I.kIn hlen) r' h) fun res s' hq => ?_)
  cases res with
  | error e => exact hx pins H s e s' I hq
  | ok fl =>
    cases fl with
    | ret u => exact I.after hq
    | next => exact False.elim hq
    | brk => exact False.elim hq
    | cont => exact False.elim hq
theorem pe_callG {Y : CXT} {sp : Sp} {dvs : List V} {ds : List Value} {E : L2.St → XK} {t : TA} (F : FnG X.prog X.w X.K X.mg X.base Y j f fd ps sp) (hr : RmG j X.A) (hg : Gl X x) (hm : X.mg x = some (.ref f)) (hk : PySem.W.keepIn X.K (.ref f) = true) (hb : Binds X.K fd ps ds) (hd : Vals dvs ds) (hx : ∀ σ, PassesAt Y X σ (E σ))
    (ha : PA X (e :: es) t) (hdb : (x == ("__debug__" : Str)) = false) (he : starEach (e :: es) X.env = (false, eval e X.env) :: starEach es X.env) (hpl : (backTo pos (starEach es X.env)).any (·.1) = false) :
    PE X (.Call (.Name x p) (e :: es) [] pos) (tCallSD sp dvs E t) :=
  ⟨fun pins s σ H Q I h => wpAny_Call_Name_kw (ld_glob I hg hm (PySem.W.callWith_K (h₀ := X.base) I.ok.mod.kin hk (thn (ha.run pos pins s σ H _ I h) fun us s1 ⟨vs, H1, I1, r, q⟩ => ⟨I1.kIn, run_callG F hr hb hd (hx σ) I1 r q⟩) he hpl) hdb)⟩
theorem pe_callG0 {Y : CXT} {sp : Sp} {dvs : List V} {ds : List Value} {E : L2.St → XK} (F : FnG X.prog X.w X.K X.mg X.base Y j f fd ps sp) (hr : RmG j X.A) (hg : Gl X x) (hm : X.mg x = some (.ref f)) (hk : PySem.W.keepIn X.K (.ref f) = true) (hb : Binds X.K fd ps ds) (hd : Vals dvs ds) (hx : ∀ σ, PassesAt Y X σ (E σ))
    (hdb : (x == ("__debug__" : Str)) = false) : PE X (.Call (.Name x p) [] [] pos) (tCallSD sp dvs E tNil) :=
  ⟨fun pins s σ H Q I h => wpAny_Call_Name_kw (ld_glob I hg hm (PySem.W.callWith_K0 I.kIn hk (run_callG (us := []) F hr hb hd (hx σ) I .nil h)) hdb)⟩
/-- a name is global here -/
def glC (sc : Scope) (x : Str) : Bool := decide (sc.names.lookup x = some .globalImplicit) && !(x == ("__debug__" : Str)) && !decide (x = "__name__")
theorem Cs.gl (C : Cs X W k N sc) (h : glC sc x = true) : Gl X x ∧ (x == ("__debug__" : Str)) = false ∧ x ≠ "__name__" := by
  unfold glC at h
  simp only [Bool.and_eq_true, Bool.not_eq_true', decide_eq_true_eq, decide_eq_false_iff_not] at h
  refine ⟨?_, h.1.2, h.2⟩
  show X.env.scope.names.lookup x = _
  rw [C.hsc]; exact h.1.1
theorem je_call {m : MF} {n : Nat} {dds : List D} {ms : List ME} (C : Cs X W k N sc) (F : FuX X j x m n dds) (hjk : j ≤ k) (hg : glC sc x = true) (ha : JA X W (e :: es) ms) (hn : ms.length + dds.length = n)
    (he : starEach (e :: es) X.env = (false, eval e X.env) :: starEach es X.env := by rfl) (hpl : (backTo pos (starEach es X.env)).any (·.1) = false := by rfl) : JE X W (.Call (.Name x p) (e :: es) [] pos) (mCall m ms dds) := by
  obtain ⟨f, fd, ps, ds, dvs, F, hm, hk, hb, hd, hdd⟩ := F.ex
  obtain ⟨g1, g2, g3⟩ := C.gl hg
  exact (pe_callG F (C.rm.mono hjk) g1 hm hk hb hd (passAt C.tk) ha g2 he hpl).imp (call_end (ms := ms) hdd fun ds hl => by rw [List.length_append]; omega)
theorem je_call0 {m : MF} {n : Nat} {dds : List D} (C : Cs X W k N sc) (F : FuX X j x m n dds) (hjk : j ≤ k) (hg : glC sc x = true) (hn : dds.length = n) : JE X W (.Call (.Name x p) [] [] pos) (mCall m [] dds) := by
  obtain ⟨f, fd, ps, ds, dvs, F, hm, hk, hb, hd, hdd⟩ := F.ex
  obtain ⟨g1, g2, g3⟩ := C.gl hg
  refine (pe_callG0 F (C.rm.mono hjk) g1 hm hk hb hd (passAt C.tk) g2).imp fun σ H Q h => ?_
  obtain ⟨Z, F', ρ, μ, δ, S, q⟩ := call_end (W := W) (ms := []) (n := n) hdd (fun ds hl => by rw [List.length_append, ← hl, hn]; exact Nat.zero_add n) σ H Q h
  exact q H F' ρ .refl .refl S [] .nil

/-! ### the rules by the context -/
/-- a local name, seen -/
def varC (N : List Str) (sc : Scope) (i : Nat) (x : Str) : Bool := decide (N[i]? = some x) && (decide (sc.names.lookup x = some .local) || (decide (sc.names.lookup x = some .cell) || decide (sc.names.lookup x = some .free))) && !(x == ("__debug__" : Str)) && !(x == ("__classdict__" : Str))
theorem Cs.var {i : Nat} (C : Cs X W k N sc) (h : varC N sc i x = true) : PE X (.Name x p) (tVar i) := by
  unfold varC at h
  simp only [Bool.and_eq_true, Bool.not_eq_true', decide_eq_true_eq, Bool.or_eq_true] at h
  obtain ⟨⟨⟨h1, h2⟩, h3⟩, h4⟩ := h
  refine pe_var (by rw [C.hN]; exact h1) ?_ h3 h4
  show X.env.scope.names.lookup x = _ ∨ X.env.scope.names.lookup x = _ ∨ X.env.scope.names.lookup x = _
  rw [C.hsc]; exact h2
theorem Cs.v {i : Nat} (C : Cs X W k N sc) (h : varC N sc i x = true) : JE X W (.Name x p) (mV i) := je_v (C.var h)
theorem Cs.ov {i : Nat} (C : Cs X W k N sc) (h : varC N sc i x = true) : JO X W (.Name x p) (.v i) := jo_v (C.var h)
/-- a name that may be stored to -/
def locC (N : List Str) (sc : Scope) (i : Nat) (x : Str) : Bool := decide (N[i]? = some x) && (decide (sc.names.lookup x = some .local) || decide (sc.names.lookup x = some .cell))
theorem Cd.loc {i : Nat} (C : Cd X W k N sc) (h : locC N sc i x = true) : X.N.Nodup ∧ X.N[i]? = some x ∧ L2.Loc X.env.scope x := by
  unfold locC at h
  simp only [Bool.and_eq_true, decide_eq_true_eq, Bool.or_eq_true] at h
  refine ⟨by rw [C.hN]; exact C.nd, by rw [C.hN]; exact h.1, ?_⟩
  show X.env.scope.names.lookup x = _ ∨ X.env.scope.names.lookup x = _
  rw [C.hsc]; exact h.2
theorem Cd.set {i : Nat} {m : ME} {pos' : Pos} (C : Cd X W k N sc) (h : locC N sc i x = true) (he : JE X W e m) (hs : swapsWith e (some (.Name x pos')) pos.line X.env = pure false := by rfl) : JS X W (.Assign [.Name x pos'] e pos) (mSet i m) :=
  let ⟨a, b, c⟩ := C.loc h
  js_set a b c he hs (.inl (C.fn x c))
theorem Cd.tg {i : Nat} (C : Cd X W k N sc) (h : locC N sc i x = true) : JG X (.Name x pos) (tgV i) [i] :=
  let ⟨a, b, c⟩ := C.loc h
  jg_v a b c (.inl (C.fn x c))
/-- .. a plain local name -/
def ownC (N : List Str) (sc : Scope) (i : Nat) (x : Str) : Bool := decide (N[i]? = some x) && decide (sc.names.lookup x = some .local)
theorem Cs.own {i : Nat} (C : Cs X W k N sc) (h : ownC N sc i x = true) : X.N.Nodup ∧ X.N[i]? = some x ∧ X.env.scope.names.lookup x = some .local := by
  unfold ownC at h
  simp only [Bool.and_eq_true, decide_eq_true_eq] at h
  exact ⟨by rw [C.hN]; exact C.nd, by rw [C.hN]; exact h.1, by rw [C.hsc]; exact h.2⟩
theorem Cs.tg {i : Nat} (C : Cs X W k N sc) (h : ownC N sc i x = true) : JG X (.Name x pos) (tgV i) [i] :=
  let ⟨a, b, c⟩ := C.own h
  jg_v a b (.inl c) (.inr c)
/-- the context of a comprehension's block -/
theorem Cs.blk (C : Cs X W k N sc) (scope : Scope) (s : Shared) (H : Hp) (c : Addr) (cl : List (Str × Addr)) (fp : List Addr) : Cs (X.blk s H scope (compEnvC scope cl c X.env) fp) W0 k N (relS scope sc) :=
  ⟨C.calm, C.rm, fun _ _ ⟨_, _, _, _, _, _, _, _, _, _, _, _, _, _, _, _, z⟩ => z.elim, C.hN, by
    show relabel scope X.env = relS scope sc
    rw [← C.hsc]; rfl, C.nd⟩
theorem Cs.lc {elt tg iter : Expr} {ifs : List Expr} {scope : Scope} {mi : MM (List D)} {f : TgF} {is : List Nat} {tests : MT} {m : ME} {Tx : Program → World → PySem.W.Frag → (Str → Option Value) → Heap → Prop} (C : Cs X W k N sc) (T : Tx X.prog X.w X.K X.mg X.base) (own : List (Str × Nat)) (hi : JI X W tg iter mi) (ok : blkC N sc scope own = true)
    (hb : ∀ (Y : Cx), Tx Y.prog Y.w Y.K Y.mg Y.base → Cs Y W0 k N (relS scope sc) → JG Y tg f is ∧ JTs Y W0 ifs tests ∧ JE Y W0 elt m) (hsub : (is.all fun j => (own.map (·.2)).contains j) = true) (hs : ∀ x, foldedSetIterable iter X.env x = pure x := by intro _; rfl) :
    JE X W (.ListComp elt [⟨tg, iter, ifs, 0⟩] scope pos) (mLc mi f tests m (own.map (·.2))) :=
  je_lc C.calm (by rw [C.hN]; exact C.nd) hi (by rw [C.hN, C.hsc]; exact blkOk_by ok) (fun s H c cl fp => (hb (X.blk s H scope (compEnvC scope cl c X.env) fp) T (C.blk scope s H c cl fp)).1) (fun s H c cl fp => (hb (X.blk s H scope (compEnvC scope cl c X.env) fp) T (C.blk scope s H c cl fp)).2.1)
    (fun s H c cl fp => (hb (X.blk s H scope (compEnvC scope cl c X.env) fp) T (C.blk scope s H c cl fp)).2.2) (fun j hj => by simpa using List.all_eq_true.mp hsub j hj) hs
theorem Cs.setLc {i : Nat} {y : Str} {py : Pos} {elt tg iter : Expr} {ifs : List Expr} {scope : Scope} {spos : Pos} {mi : MM (List D)} {f : TgF} {is : List Nat} {tests : MT} {m : ME} {Tx : Program → World → PySem.W.Frag → (Str → Option Value) → Heap → Prop} (C : Cs X W k N sc) (T : Tx X.prog X.w X.K X.mg X.base) (own : List (Str × Nat)) (hy : ownC N sc i y = true)
    (hl : (py.line == pos.line) = true) (hl2 : spos.line = pos.line) (hk : sc.kind = .function) (hna : (scope.names.any fun (n, k) => n == y && (k == .local || k == .cell)) = false)
    (hi : JI X W tg iter mi) (ok : blkC N sc scope own = true)
    (hb : ∀ (Y : Cx), Tx Y.prog Y.w Y.K Y.mg Y.base → Cs Y W0 k N (relS scope sc) → JG Y tg f is ∧ JTs Y W0 ifs tests ∧ JE Y W0 elt m) (hsub : (is.all fun j => (own.map (·.2)).contains j) = true) (hs : ∀ x, foldedSetIterable iter X.env x = pure x := by intro _; rfl) :
    JS X W (.Assign [.Name y py] (.ListComp elt [⟨tg, iter, ifs, 0⟩] scope pos) spos) (mSet i (mLc mi f tests m (own.map (·.2)))) :=
  let ⟨a, b, c⟩ := C.own hy
  js_setLc C.calm a b c (sw_true (by rw [C.hsc]; exact hk) c hl hna) hi (by rw [C.hN, C.hsc]; exact blkOk_by ok) (fun s H c cl fp => (hb (X.blk s H scope (compEnvC scope cl c X.env) fp) T (C.blk scope s H c cl fp)).1) (fun s H c cl fp => (hb (X.blk s H scope (compEnvC scope cl c X.env) fp) T (C.blk scope s H c cl fp)).2.1)
    (fun s H c cl fp => (hb (X.blk s H scope (compEnvC scope cl c X.env) fp) T (C.blk scope s H c cl fp)).2.2) (fun j hj => by simpa using List.all_eq_true.mp hsub j hj) hs
end
end FL

/-! Part I: the rules as the generator names them. -/
namespace FL
open PySem PySem.Spec PyProof.Rows L2

/-- + .. with a list's repetition -/
def gMulA : D → D → Option Slot := fun x y => (gMul x y).or (gRep x y)
abbrev rMulA : R2 := fun x y H Q => rI CMulW (fun i j => .int (i * j)) x y H Q ∨ rRep x y H Q
section
variable {X : Cx} {W : WX} {k j : Nat} {N : List Str} {sc : Scope} {a b c e o : Expr} {es : List Expr} {pos p apos : Pos} {x : Str} {oa ob : Opn}
theorem o_mulA : OpR X (binaryOp .Mult) rMulA := op_mulW.or op_rep
theorem j_mulA : R2J X rMulA gMulA := R2J.or j_mulI j_rep
theorem Cs.hu (C : Cs X W k N sc) : X.A.units + 64 < cLine := by have := C.rm.r.un; omega
theorem add_ (ha : JO X W a oa) (hb : JO X W b ob) : JE X W (.BinOp a .Add b pos) (m2 gAdd oa ob) := je_bin o_add j_add ha hb
theorem sub_ (ha : JO X W a oa) (hb : JO X W b ob) : JE X W (.BinOp a .Sub b pos) (m2 gSub oa ob) := je_bin o_sub j_sub ha hb
theorem mul_ (ha : JO X W a oa) (hb : JO X W b ob) : JE X W (.BinOp a .Mult b pos) (m2 gMulA oa ob) := je_bin o_mulA j_mulA ha hb
theorem div_ (ha : JO X W a oa) (hb : JO X W b ob) : JE X W (.BinOp a .FloorDiv b pos) (m2 gDiv oa ob) := je_bin op_fdivW j_div ha hb
theorem mod_ (ha : JO X W a oa) (hb : JO X W b ob) : JE X W (.BinOp a .Mod b pos) (m2 gMod oa ob) := je_bin op_mod j_mod ha hb
theorem pow_ (ha : JO X W a oa) (hb : JO X W b ob) : JE X W (.BinOp a .Pow b pos) (m2 gPow oa ob) := je_bin op_pow j_pow ha hb
theorem shl_ (ha : JO X W a oa) (hb : JO X W b ob) : JE X W (.BinOp a .LShift b pos) (m2 gShl oa ob) := je_bin op_shl j_shl ha hb
theorem lt_ (ha : JO X W a oa) (hb : JO X W b ob) : JE X W (.Compare a [.Lt] [b] pos) (m2 gLt oa ob) := je_cmp o_lt j_lt ha hb (nomark _)
theorem le_ (ha : JO X W a oa) (hb : JO X W b ob) : JE X W (.Compare a [.LtE] [b] pos) (m2 gLe oa ob) := je_cmp o_le j_le ha hb (nomark _)
theorem gt_ (ha : JO X W a oa) (hb : JO X W b ob) : JE X W (.Compare a [.Gt] [b] pos) (m2 gGt oa ob) := je_cmp o_gt j_gt ha hb (nomark _)
theorem ge_ (ha : JO X W a oa) (hb : JO X W b ob) : JE X W (.Compare a [.GtE] [b] pos) (m2 gGe oa ob) := je_cmp o_ge j_ge ha hb (nomark _)
theorem Cs.eq (C : Cs X W k N sc) (ha : JO X W a oa) (hb : JO X W b ob) : JE X W (.Compare a [.Eq] [b] pos) (m2 (gEq false) oa ob) := je_cmp (o_eq C.hu) j_eq ha hb (nomark _)
theorem Cs.ne (C : Cs X W k N sc) (ha : JO X W a oa) (hb : JO X W b ob) : JE X W (.Compare a [.NotEq] [b] pos) (m2 (gEq true) oa ob) := je_cmp (o_ne C.hu) j_ne ha hb (nomark _)
theorem in_ (ha : JO X W a oa) (hb : JO X W b ob) (hm : behindInMarks .In b = false := by rfl) : JE X W (.Compare a [.In] [b] pos) (m2 (gIn false) oa ob) := je_cmp o_in (j_in false) ha hb hm
theorem nin_ (ha : JO X W a oa) (hb : JO X W b ob) (hm : behindInMarks .NotIn b = false := by rfl) : JE X W (.Compare a [.NotIn] [b] pos) (m2 (gIn true) oa ob) := je_cmp o_nin (j_in true) ha hb hm
theorem isN_ (ha : JO X W a oa) (hb : JO X W b ob) : JE X W (.Compare a [.Is] [b] pos) (m2 (gIsN false) oa ob) := je_cmp o_isN (j_isN false) ha hb (nomark _)
theorem notN_ (ha : JO X W a oa) (hb : JO X W b ob) : JE X W (.Compare a [.IsNot] [b] pos) (m2 (gIsN true) oa ob) := je_cmp o_notN (j_isN true) ha hb (nomark _)
theorem ltT (ha : JO X W a oa) (hb : JO X W b ob) : JT X W (.Compare a [.Lt] [b] pos) (mTb (m2 gLt oa ob)) := jt_cmp o_lt j_lt ha hb (nomark _)
theorem leT (ha : JO X W a oa) (hb : JO X W b ob) : JT X W (.Compare a [.LtE] [b] pos) (mTb (m2 gLe oa ob)) := jt_cmp o_le j_le ha hb (nomark _)
theorem gtT (ha : JO X W a oa) (hb : JO X W b ob) : JT X W (.Compare a [.Gt] [b] pos) (mTb (m2 gGt oa ob)) := jt_cmp o_gt j_gt ha hb (nomark _)
theorem geT (ha : JO X W a oa) (hb : JO X W b ob) : JT X W (.Compare a [.GtE] [b] pos) (mTb (m2 gGe oa ob)) := jt_cmp o_ge j_ge ha hb (nomark _)
theorem Cs.eqT (C : Cs X W k N sc) (ha : JO X W a oa) (hb : JO X W b ob) : JT X W (.Compare a [.Eq] [b] pos) (mTb (m2 (gEq false) oa ob)) := jt_cmp (o_eq C.hu) j_eq ha hb (nomark _)
theorem Cs.neT (C : Cs X W k N sc) (ha : JO X W a oa) (hb : JO X W b ob) : JT X W (.Compare a [.NotEq] [b] pos) (mTb (m2 (gEq true) oa ob)) := jt_cmp (o_ne C.hu) j_ne ha hb (nomark _)
theorem inT (ha : JO X W a oa) (hb : JO X W b ob) (hm : behindInMarks .In b = false := by rfl) : JT X W (.Compare a [.In] [b] pos) (mTb (m2 (gIn false) oa ob)) := jt_cmp o_in (j_in false) ha hb hm
theorem ninT (ha : JO X W a oa) (hb : JO X W b ob) (hm : behindInMarks .NotIn b = false := by rfl) : JT X W (.Compare a [.NotIn] [b] pos) (mTb (m2 (gIn true) oa ob)) := jt_cmp o_nin (j_in true) ha hb hm
theorem isNT (ha : JO X W a oa) (hb : JO X W b ob) : JT X W (.Compare a [.Is] [b] pos) (mTb (m2 (gIsN false) oa ob)) := jt_cmp o_isN (j_isN false) ha hb (nomark _)
theorem notNT (ha : JO X W a oa) (hb : JO X W b ob) : JT X W (.Compare a [.IsNot] [b] pos) (mTb (m2 (gIsN true) oa ob)) := jt_cmp o_notN (j_isN true) ha hb (nomark _)
theorem ix_ (ha : JO X W a oa) (hb : JO X W b ob) (hs : PlainIx b) : JE X W (.Subscript a b pos) (m2 gIxL oa ob) := je_ix ix_seq j_ix ha hb hs
/-- built-in functions and types -/
theorem Cs.bi {id : String} {r : List V → Hp → VK → Prop} {g : List D → Option Slot} {os : List Opn} (C : Cs X W k N sc) (h : glC sc x = true) (hm : X.mg x = none) (hv : bootBuiltins x = some (.builtin id)) (hc : CallR X (.builtin id) r) (hr : RLJ X r g) (ha : JOs X W (e :: es) os)
    (he : starEach (e :: es) X.env = (false, eval e X.env) :: starEach es X.env := by rfl) (hpl : (backTo pos (starEach es X.env)).any (·.1) = false := by rfl) : JE X W (.Call (.Name x p) (e :: es) [] pos) (mC g os) :=
  let ⟨g1, g2, g3⟩ := C.gl h
  je_callB hc hr g1 hm hv ha g3 g2 he hpl
theorem Cs.bt {T : String} {r : List V → Hp → VK → Prop} {g : List D → Option Slot} {os : List Opn} (C : Cs X W k N sc) (h : glC sc x = true) (hm : X.mg x = none) (hv : bootBuiltins x = some (.type T)) (hc : CallR X (.type T) r) (hr : RLJ X r g) (ha : JOs X W (e :: es) os)
    (he : starEach (e :: es) X.env = (false, eval e X.env) :: starEach es X.env := by rfl) (hpl : (backTo pos (starEach es X.env)).any (·.1) = false := by rfl) : JE X W (.Call (.Name x p) (e :: es) [] pos) (mC g os) :=
  let ⟨g1, g2, g3⟩ := C.gl h
  je_callTy hc hr g1 hm hv ha g3 g2 he hpl
theorem Cs.ty {T : String} (C : Cs X W k N sc) (h : glC sc x = true) (hm : X.mg x = none) (hv : bootBuiltins x = some (.type T)) : JE X W (.Name x pos) (mD (.ty T)) :=
  let ⟨g1, g2, g3⟩ := C.gl h
  je_ty g1 hm hv g3 g2
/-- constants of the module -/
theorem Cs.gInt {i : Int} (C : Cs X W k N sc) (h : glC sc x = true) (hm : ∃ t, X.mg x = some (.int i t)) : JE X W (.Name x pos) (mD (.int i)) :=
  let ⟨g1, g2, g3⟩ := C.gl h
  let ⟨t, hm⟩ := hm
  je_mod g1 hm (v := .int i) ⟨t, rfl⟩ (fun _ _ => .int) g2
theorem Cs.gStr {s : String} (C : Cs X W k N sc) (h : glC sc x = true) (hm : ∃ t, X.mg x = some (.str (Str.ofString s) t)) : JE X W (.Name x pos) (mD (.str (lit s))) :=
  let ⟨g1, g2, g3⟩ := C.gl h
  let ⟨t, hm⟩ := hm
  je_mod g1 hm (v := .str (Str.ofString s)) ⟨t, rfl⟩ (fun _ _ => by rw [ofS_lit]; exact .str) g2
/-- a op b op' c -/
def mChain (g g' : D → D → Option Slot) (oa ob oc : Opn) : ME := fun δ μ => (oa.ev δ μ).bind fun ra δ1 μ1 => (ob.ev δ1 μ1).bind fun rb δ2 μ2 => match ra.at δ2 μ2, rb.at δ2 μ2 with
  | some da, some db => match g da db with
    | some (.fr (.bl true)) => (oc.ev δ2 μ2).bind fun rc δ3 μ3 => match rb.at δ3 μ3, rc.at δ3 μ3 with
      | some db', some dc => lift (g' db' dc) δ3 μ3
      | _, _ => .bad
    | some (.fr (.bl false)) => .ok (.fr (.bl false)) δ2 μ2
    | _ => .bad
  | _, _ => .bad
theorem chain_read {r r' : R2} {g g' : D → D → Option Slot} {oc : Opn} (hr : R2J X r g) (hr' : R2J X r' g') : ∀ σ H Q, rdE X W (mChain g g' oa ob oc) σ H Q → tChain r r' (rdO X W oa) (rdO X W ob) (rdO X W oc) σ H Q := by
  intro σ H Q ⟨Z, F, ρ, μ, δ, S, q⟩
  refine ⟨Z, F, ρ, μ, δ, S, (FinE.bind q).imp fun ra δ1 μ1 H1 F1 ρ1 l1 lr1 S1 ⟨_, _, _, p1⟩ x hx => ?_⟩
  refine ⟨Z, F1, ρ1, μ1, δ1, S1, p1.bind.imp fun rb δ2 μ2 H2 F2 ρ2 l2 lr2 S2 ⟨_, _, _, p2⟩ y hy => ?_⟩
  cases ea : ra.at δ2 μ2 with
  | none => simp only [ea] at p2; exact p2.elim
  | some da =>
    cases eb : rb.at δ2 μ2 with
    | none => simp only [ea, eb] at p2; exact p2.elim
    | some db =>
      simp only [ea, eb] at p2
      cases eg : g da db with
      | none => simp only [eg] at p2; exact p2.elim
      | some s =>
        refine hr Z F2 ρ2 μ2 δ2 σ H2 x y da db s _ S2 ((hx.up l2 lr2).bor S2 ea) (hy.bor S2 eb) eg fun v H3 F3 l3 S3 vr => ?_
        cases s with
        | own o => simp only [eg] at p2; exact p2.elim
        | fr d =>
          cases d with
          | bl kk =>
            cases vr.r
            refine ⟨kk, rfl, ?_⟩
            cases kk with
            | false =>
              simp only [eg] at p2
              rw [if_neg Bool.false_ne_true]
              exact p2 H3 F3 ρ2 l3 .refl S3 _ .bl
            | true =>
              simp only [eg] at p2
              rw [if_pos rfl]
              refine ⟨Z, F3, ρ2, μ2, δ2, S3, (p2.mono l3 .refl).bind.imp fun rc δ4 μ4 H4 F4 ρ4 l4 lr4 S4 ⟨_, _, _, p4⟩ w hw => ?_⟩
              cases eb' : rb.at δ4 μ4 with
              | none => simp only [eb'] at p4; exact p4.elim
              | some db' =>
                cases ec : rc.at δ4 μ4 with
                | none => simp only [eb', ec] at p4; exact p4.elim
                | some dc =>
                  simp only [eb', ec] at p4
                  unfold lift at p4
                  cases eg' : g' db' dc with
                  | none => simp only [eg'] at p4; exact p4.elim
                  | some s' =>
                    simp only [eg'] at p4
                    exact hr' Z F4 ρ4 μ4 δ4 σ H4 y w db' dc s' Q S4 (((hy.up l3 .refl).up l4 lr4).bor S4 eb') (hw.bor S4 ec) eg' fun v H' F' l' S' vr => p4 H' F' ρ4 l' .refl S' v vr
          | _ => simp only [eg] at p2; exact p2.elim
theorem chain_ {op op' : CmpOp} {r r' : R2} {g g' : D → D → Option Slot} {oc : Opn} (ho : OpR X (compareOp op) r) (hr : R2J X r g) (ho' : OpR X (compareOp op') r') (hr' : R2J X r' g') (ha : JO X W a oa) (hb : JO X W b ob) (hc : JO X W c oc)
    (hm : lastMarks [op, op'] [b, c] = false := by with_unfolding_all rfl) : JE X W (.Compare a [op, op'] [b, c] pos) (mChain g g' oa ob oc) := (pe_chain ho ho' ha hb hc hm).imp (chain_read hr hr')
theorem chainT {op op' : CmpOp} {r r' : R2} {g g' : D → D → Option Slot} {oc : Opn} (ho : OpR X (compareOp op) r) (hr : R2J X r g) (ho' : OpR X (compareOp op') r') (hr' : R2J X r' g') (ha : JO X W a oa) (hb : JO X W b ob) (hc : JO X W c oc)
    (hm : lastMarks [op, op'] [b, c] = false := by with_unfolding_all rfl) : JT X W (.Compare a [op, op'] [b, c] pos) (mTb (mChain g g' oa ob oc)) := (pt_chain ho ho' ha hb hc hm).imp (mTb_read (chain_read hr hr'))
/-- a, b = x, y -/
theorem Cs.par {i j : Nat} {x y : Str} {ma mb : ME} {px py pt : Pos} {kt k2 pt2} (C : Cs X W k N sc) (hi : ownC N sc i x = true) (hj : ownC N sc j y = true) (hij : i ≠ j) (ha : JE X W a ma) (hb : JE X W b mb)
    (hw : ∀ env : Env, env.scope = sc → swappedStores [.Tuple [.Name x px, .Name y py] kt pt] (.Tuple [a, b] k2 pt2) env = pure (some [x, y]))
    (hs : swapsWithSole [.Tuple [.Name x px, .Name y py] kt pt] (.Tuple [a, b] k2 pt2) pos.line X.env = pure false := by rfl)
    (h1 : starEach [a, b] X.env = (false, eval a X.env) :: starEach [b] X.env := by rfl) (h2 : starEach [b] X.env = (false, eval b X.env) :: starEach [] X.env := by rfl) :
    JS X W (.Assign [.Tuple [.Name x px, .Name y py] kt pt] (.Tuple [a, b] k2 pt2) pos) (mPar i j ma mb) :=
  let ⟨n, i1, i2⟩ := C.own hi
  let ⟨_, j1, j2⟩ := C.own hj
  js_par C.calm n i1 j1 hij i2 j2 ha hb (hw X.env C.hsc) hs h1 h2
/-- methods -/
theorem join_ {ms : List Opn} {oo : Opn} (ho : JO X W o oo) (ha : JOs X W [e] ms) (hbase : attributeBase o "join" X.env (eval o X.env) = eval o X.env := by rfl)
    (hline : (apos.endLine == pos.line) = true := by rfl) (hs : starEach [e] X.env = (false, eval e X.env) :: starEach [] X.env := by rfl)
    (hfew : ((backTo pos (starEach [e] X.env)).all (fun x => !x.1) && (backToKw pos (keywordEach [] X.env)).all (fun x => x.1.isSome)
      && decide ([e].length + ([] : List Keyword).length + (if ([] : List Keyword).isEmpty then 0 else 1) < 30)) = true := by rfl) : JE X W (.Call (.Attribute o "join" apos) [e] [] pos) (mM "str" gJoin oo ms) :=
  je_bm PySem.F.plainAttrs_str PySem.F.slot_str_join PySem.F.type_str_join mt_join j_join ho ha hbase hfew hline hs
theorem lower_ {oo : Opn} (ho : JO X W o oo) (hbase : attributeBase o "lower" X.env (eval o X.env) = eval o X.env := by rfl) (hline : (apos.endLine == pos.line) = true := by rfl) : JE X W (.Call (.Attribute o "lower" apos) [] [] pos) (mM "str" gLower oo []) :=
  je_bm0 PySem.F.plainAttrs_str PySem.F.slot_str_lower PySem.F.type_str_lower mt_lower j_lower ho hbase hline
theorem upper_ {oo : Opn} (ho : JO X W o oo) (hbase : attributeBase o "upper" X.env (eval o X.env) = eval o X.env := by rfl) (hline : (apos.endLine == pos.line) = true := by rfl) : JE X W (.Call (.Attribute o "upper" apos) [] [] pos) (mM "str" gUpper oo []) :=
  je_bm0 PySem.F.plainAttrs_str PySem.F.slot_str_upper PySem.F.type_str_upper mt_upper j_upper ho hbase hline
theorem append_ {ms : List ME} {oo : Opn} (ho : JO X W o oo) (ha : JA X W [e] ms) (hbase : attributeBase o "append" X.env (eval o X.env) = eval o X.env := by rfl)
    (hline : (apos.endLine == pos.line) = true := by rfl) (hs : starEach [e] X.env = (false, eval e X.env) :: starEach [] X.env := by rfl)
    (hfew : ((backTo pos (starEach [e] X.env)).all (fun x => !x.1) && (backToKw pos (keywordEach [] X.env)).all (fun x => x.1.isSome)
      && decide ([e].length + ([] : List Keyword).length + (if ([] : List Keyword).isEmpty then 0 else 1) < 30)) = true := by rfl) : JE X W (.Call (.Attribute o "append" apos) [e] [] pos) (mMut "list" gAppend oo ms) :=
  je_mut PySem.F.plainAttrs_list PySem.F.slot_list_append PySem.F.type_list_append mt_append j_append ho ha hbase hfew hline hs
theorem range1_ {tg : Expr} {o : Opn} (C : Cs X W k N sc) (h : glC sc "range" = true) (hm : X.mg "range" = none) (ha : JOs X W [a] [o]) (hs : starEach [a] X.env = [(false, eval a X.env)] := by rfl) : JI X W tg (.Call (.Name "range" p) [a] [] pos) (mRange1 o) :=
  ji_range1 (C.gl h).1 hm ha hs
theorem range2_ {tg : Expr} {o o' : Opn} (C : Cs X W k N sc) (h : glC sc "range" = true) (hm : X.mg "range" = none) (ha : JOs X W [a, b] [o, o']) (hs : starEach [a, b] X.env = [(false, eval a X.env), (false, eval b X.env)] := by rfl) (hs2 : starEach [b] X.env = [(false, eval b X.env)] := by rfl) : JI X W tg (.Call (.Name "range" p) [a, b] [] pos) (mRange2 o o') :=
  ji_range2 (C.gl h).1 hm ha hs hs2
theorem slice_ {lo hi : Option Expr} {p2 : Pos} {oo : Opn} {ml mh : MM (Option Int)} (ho : JO X W e oo) (hl : JP X W lo ml) (hh : JP X W hi mh) : JE X W (.Subscript e (.Slice lo hi none p2) pos) (mSl gSl oo ml mh) := je_slice o_slice j_slice ho hl hh
theorem setI_ {i : Expr} {spos : Pos} {oo oi : Opn} {m : ME} (he : JE X W e m) (ho : JO X W o oo) (hi : JO X W i oi)
    (ha : ∀ v, assign (.Subscript o i spos) X.env v = (do
      let ov ← holding [v] (eval o X.env)
      let iv ← holding [v, ov] (eval i X.env)
      standAt spos
      holding [v, ov, iv] (setItem ov iv v)
      release [v, ov, iv] []) := by intro _; rfl)
    (hs : swapsWithSole [.Subscript o i spos] e pos.line X.env = pure false := by rfl) (hw : swappedStores [.Subscript o i spos] e X.env = pure none := by rfl)
    (h1 : (assignEach [.Subscript o i spos] X.env).map (·.2) = [assign (.Subscript o i spos) X.env] := by rfl) : JS X W (.Assign [.Subscript o i spos] e pos) (mSetI gSetL oo oi m) :=
  js_setI set_list j_setL he ho hi ha hs hw h1
def mNeg (m : ME) : ME := fun δ μ => (m δ μ).bind fun s δ1 μ1 => match s with
  | .fr (.int i) => .ok (.fr (.int (-i))) δ1 μ1
  | _ => .bad
theorem neg_ {m : ME} (h : JE X W a m) : JE X W (.UnaryOp .USub a pos) (mNeg m) := by
  refine (pe_un un_neg h).imp fun σ H Q ⟨Z, F, ρ, μ, δ, S, q⟩ => ⟨Z, F, ρ, μ, δ, S, (FinE.bind q).imp fun s δ1 μ1 H1 F1 ρ1 l lr S1 ⟨_, _, _, p⟩ v vr => ?_⟩
  cases s with
  | own o => exact p.elim
  | fr d =>
    cases d with
    | int i =>
      cases vr.r
      exact ⟨i, rfl, p H1 F1 ρ1 .refl .refl S1 _ ⟨.int, fun o p z => by cases z⟩⟩
    | _ => exact p.elim
end
/-- a def may be called -/
theorem Fu.mk0 {P : Program} {w : World} {K : PySem.W.Frag} {mg : Str → Option Value} {base : Heap} {k n : Nat} {x : Str} {m : MF} {f : Addr} {fd : FuncData} {ps : List Str} (F : FnG P w K mg base (L2.CX P w) k f fd ps (spM K mg m n)) (hm : mg x = some (.ref f)) (hk : PySem.W.keepIn K (.ref f) = true)
    (hb : Binds K fd ps []) : Fu P w K mg base k x m n [] := ⟨f, fd, ps, [], [], F, hm, hk, hb, .nil, fun _ _ => .nil⟩
theorem Fd.binds {K : PySem.W.Frag} {x qual : Str} {st : Stmt} {f : Addr} {fd : FuncData} (F : Fd K x qual st f fd .none) {ps : List Str}
    (h : ∀ (kV doc pm : Value) (an : Option Addr) (cdv ct : Value) (us : List Value), us.length = ps.length → bindArgs (PySem.W.fnOf x qual (defArgs st) (defBody st) (defScope st) .none kV doc pm an cdv ct) ⟨us, []⟩ = pure (ps.zip us)) : Binds K fd ps [] := by
  obtain ⟨oc, od, kV, doc, pm, an, cdv, ct, osl, rfl, lk, hcd⟩ := F.ex
  exact .all (h kV doc pm an cdv ct)
theorem fnG_s {P : Program} {w : World} {K : PySem.W.Frag} {mg : Str → Option Value} {base : Heap} {k n : Nat} {f : Addr} {x qual : Str} {st : Stmt} {fd : FuncData} {N ps : List Str} {m : MS} {dV : Value} {sc : Scope} (F : Fd K x qual st f fd dV) (S : FnScope N ps sc) (hsc : defScope st = sc) (hn : ps.length = n)
    (hbody : ∀ (X : Cx) (W : WX), X.prog = P → X.w = w → X.K = K → X.mg = mg → X.base = base → Cd X W k N sc → JSs X W (defBody st) m) : FnG P w K mg base (L2.CX P w) (k + 1) f fd ps (spM K mg (mFn N.length m) n) := by
  subst hsc
  exact fnG_m F S hn hbody
end FL

/-! Part N: own exceptions whose __init__ says super().__init__(x); self.x = x. -/
namespace FL
open PySem PySem.Spec PyProof.Rows L2

/-- the env of such an __init__ -/
abbrev supE (qual : Str) (scope : Scope) (L f : Addr) (cd : Value) (cc : Addr) : Env := PySem.W.ksEnv qual scope L f cd cc
/-- the context of its body -/
def supX (P : Program) (w : World) (K : PySem.W.Frag) (mg : Str → Option Value) (base : Heap) (N : List Str) (qual : Str) (scope : Scope) (f : Addr) (cd : Value) (cc : Addr) (A : Around) (outer : List Env) (s : Shared) (H : Hp) (E : XK) : Cx where
  prog := P
  w := w
  K := K
  mg := mg
  base := base
  A := A.deeper (supE qual scope s.heap.objs.size f cd cc)
  N := N
  s_0 := s
  H_0 := H
  env := supE qual scope s.heap.objs.size f cd cc
  outer := outer
  stack := supE qual scope s.heap.objs.size f cd cc :: outer
  ex := []
  calm := true
  fn := fun _ => false
  pn := []
  xe := fun e s' => wpAny (model P w) (A.deeper (supE qual scope s.heap.objs.size f cd cc)) (leaving (supE qual scope s.heap.objs.size f cd cc) e) (fun _ s'' => L2.CX P w outer H s E e s'') (fun e' s'' => L2.CX P w outer H s E e' s'') s'
theorem sup_start {P : Program} {w : World} {K : PySem.W.Frag} {mg : Str → Option Value} {base : Heap} {qual : Str} {scope : Scope} {f cc D : Addr} {cd : Value} {A : Around} {outer : List Env} {s : Shared} {H : Hp} {E : XK} {p0 p1 : Str} {u0 u1 : Value} {v0 v1 : V} {h₁ : Heap} {tk : Nat} {cl : Value} {cld : Option Addr} {csl : Array (Option Value)}
    (hk : scope.kind = .function) (hc : ∀ y ∈ scope.names, y.2 ≠ .cell ∧ (y.2 = .free → y.1 = "__class__")) (h01 : p0 ≠ p1) (l0 : scope.names.lookup p0 = some .local) (l1 : scope.names.lookup p1 = some .local) (hd : A.handled = none) (e0 : Env0 P w K mg base A outer s H)
    (hcell : K.lookup cc = some ⟨cl, cld, .cell (some (.ref D)), csl⟩) (r0 : RelV v0 u0) (r1 : RelV v1 u1) (hns : h₁.Ns s.heap.objs.size fun y => ([(p0, u0), (p1, u1)] : List (Str × Value)).reverse.lookup y) (kp : ∀ b o, s.heap.get? b = some o → h₁.get? b = some o) :
    Inv (supX P w K mg base [p0, p1] qual scope f cd cc A outer s H E) [] [some v0, some v1] H { s with heap := h₁, toks := tk } := by
  have noA : ∀ b : Addr, b ∉ (supX P w K mg base [p0, p1] qual scope f cd cc A outer s H E).ex := fun b z => absurd (show b ∈ ([] : List Addr) from z) (by simp)
  have look : ∀ {y : Str} {c : Addr}, ([(("__class__" : Str), cc)] : List (Str × Addr)).lookup y = some c → y = "__class__" ∧ c = cc := fun {y c} e => by
    rw [List.lookup_cons] at e
    by_cases z : y = "__class__"
    · subst z
      simp at e
      exact ⟨rfl, e.symm⟩
    · have : (y == ("__class__" : Str)) = false := by simpa using z
      rw [this] at e
      cases e
  have hbase := e0.mod.kin _ _ hcell
  refine ⟨⟨e0.mod, hk, rfl, rfl, Nat.le_refl _, fun y z c e1 e2 => ?_, fun y hy => ?_, fun y c z _ => ?_, fun _ => hd, Around.frames_deeper e0.frames, .inr ⟨rfl, rfl⟩, fun b z => absurd z (noA b), e0.bs, e0.bsz, fun b _ _ => noA b, fun b z => absurd z (noA b), e0.funs, e0.frf⟩,
    rfl, e0.bare, Un.kept kp, ⟨_, hns, fun i y v e1 e2 e3 => ?_⟩, fun y c e => ?_, e0.hok.fresh (Nat.le_refl _), fun y c e => ?_, fun q hq => absurd (show q ∈ ([] : List (Addr × Obj)) from hq) (by simp), e0.hok.kept kp, rfl⟩
  · rw [(look e1).1, (look e2).1]
  · have hy : scope.names.lookup y = some .cell ∨ scope.names.lookup y = some .free := hy
    rcases hy with hy | hy
    · exact absurd rfl (hc _ (PySem.mem_of_lookup hy)).1
    · have e := (hc _ (PySem.mem_of_lookup hy)).2 rfl
      have e : y = "__class__" := e
      exact ⟨cc, by rw [e]; show ([(("__class__" : Str), cc)] : List (Str × Addr)).lookup ("__class__" : Str) = some cc; simp⟩
  · have z : false = true := z
    cases z
  · match i, e1, e2 with
    | 0, e1, e2 =>
      cases e1
      cases e2
      refine ⟨u0, r0, .inl ⟨l0, ?_⟩⟩
      show ([(p1, u1), (p0, u0)] : List (Str × Value)).lookup p0 = some u0
      rw [List.lookup_cons, show (p0 == p1) = false by simpa using h01]
      simp
    | 1, e1, e2 =>
      cases e1
      cases e2
      refine ⟨u1, r1, .inl ⟨l1, ?_⟩⟩
      show ([(p1, u1), (p0, u0)] : List (Str × Value)).lookup p1 = some u1
      simp
    | i + 2, e1, e2 =>
      have e1 : ([p0, p1] : List Str)[i + 2]? = some y := e1
      simp at e1
  · have e : ([(("__class__" : Str), cc)] : List (Str × Addr)).lookup y = some c := e
    rw [(look e).2]
    exact ⟨_, _, kp _ _ (e0.bs _ _ hbase).1, rfl⟩
  · have e : ([(("__class__" : Str), cc)] : List (Str × Addr)).lookup y = some c := e
    rw [(look e).2]
    exact (e0.bs _ _ hbase).2
/-- the bound __init__ of the family's built-in class, called: nothing of it is told -/
theorem sup_call {X : Cx} {pins : List (Addr × Obj)} {σ : L2.St} {H : Hp} {s : Shared} {A : Around} {E : Value → Shared → Prop} {a C u : Addr} {us : List Value} {Q : Value → Shared → Prop} (T : OexC X.K C) (I : Inv X pins σ H s) (e : H a = some (exo a C none))
    (hu : s.heap.get? u = some (PySem.W.kxs_mw "ValueError.__init__" a)) (hl : us.length ≤ sizeLine) (h : ∀ s', Inv X pins σ H s' → Q .none s') : wpAny (model X.prog X.w) A (call (.ref u) us) Q E s := by
  obtain ⟨nm, q, N, bs, bm, sn, sub, ab, col, dd, k0, k1, k2, k3, k5, hC, hbm⟩ := T.cls
  obtain ⟨t1, ho⟩ := exo_at I.hok e
  obtain ⟨hp, g, d, t, os⟩ := s
  refine wpAny_call (codeAny_of_tree ?_)
  show wpAny _ A.in1 (callAny (.ref u) ⟨us, []⟩) _ _ _
  simp only [callAny]
  refine wpAny_bind (wpAny_load hu ?_)
  simp only [PySem.W.kxs_mw, show (Value.type "method-wrapper" == Value.type "method" || Value.type "method-wrapper" == Value.type "builtin_function_or_method" || Value.type "method-wrapper" == Value.type "method-wrapper") = true by decide, if_true]
  refine PySem.W.KFB.if_so (by decide) ?_
  refine wpAny_bind (PySem.W.check_bound_init F.excBase_ValueError.toExcCallFacts (I.kIn _ _ hC) ho rfl ?_)
  refine wpAny_bind (wpAny_pure (wpAny_pure ?_))
  refine ⟨plainId_quiet F.excBase_ValueError.init.plain _, codeAny_builtin F.excBase_ValueError.initEntry ?_⟩
  refine PySem.W.exc_init_tree (cls := .ref C) (t0 := t1) (dv := none) (c2 := .none) (c3 := .none) (b4 := .bool false) ho hl fun h' k hx _ => ?_
  have J := I.write (t' := t) (x := a) (e := a) (o := exo a C none) (by rw [e]; exact True.intro) (.inl rfl) k ⟨_, hx⟩ (exo_ok hx)
  have eu : upd H a (exo a C none) = H := by
    funext b
    by_cases hb : b = a
    · rw [hb, upd_same, e]
    · rw [upd_ne hb]
  rw [eu] at J
  exact h _ J
/-- what such an __init__ makes of a new exception: its attribute -/
def spSup (K : PySem.W.Frag) (D : Addr) (at_ : Str) : Sp := fun vs H Q E => ∃ (a C : Addr) (r : V), vs = [.ref a, r] ∧ OexC K C ∧ PySem.W.mroIn K C (.ref D) = some true ∧ PySem.W.ks_superIn K C D "__init__" = some (some (.builtin "ValueError.__init__")) ∧
  PySem.W.subIn K (.ref C) (.type "ValueError") = some true ∧ PySem.W.findIn K (.ref C) at_ = some none ∧ H a = some (exo a C none) ∧ ∀ dx, H dx = none → dx ≠ a → Q .non (upd (upd H dx (exd dx [(at_, r)])) a (exo a C (some dx)))
abbrev supC (p1 : Str) (q : Nat → Pos) : Expr := .Call (.Attribute (.Call (.Name "super" (q 0)) [] [] (q 1)) "__init__" (q 2)) [.Name p1 (q 3)] [] (q 4)
abbrev supB (p0 p1 at_ : Str) (q : Nat → Pos) : List Stmt := [.Expr (supC p1 q) (q 5), .Assign [.Attribute (.Name p0 (q 6)) at_ (q 7)] (.Name p1 (q 8)) (q 9)]
/-- such an __init__, as the top has left it -/
structure SupF (K : PySem.W.Frag) (P : Program) (fI D cc cda : Addr) (qual p0 p1 at_ : Str) (params : Arguments) (q : Nat → Pos) (scope : Scope) (fd : FuncData) : Prop where
  lk : ∃ oc od dV kV doc pm an ct osl, fd = PySem.W.ksFn "__init__" qual params (supB p0 p1 at_ q) scope dV kV doc pm an (.ref cda) ct cc ∧ K.lookup fI = some { cls := oc, dict := od, data := .func fd, slots := osl }
  cd : PySem.W.codeIn K (.ref cda) qual = true
  code : ∃ ccl cdd vs ccs file tf, K.lookup cda = some { cls := ccl, dict := cdd, data := .fields vs, slots := ccs } ∧ vs[2]? = some (.str file tf) ∧ ((P.main.file : Str) == file) = true
  cell : ∃ cl cld csl, K.lookup cc = some { cls := cl, dict := cld, data := .cell (some (.ref D)), slots := csl }
  clsD : ∃ cdD, PySem.W.clsIn K D = some cdD
  any : PySem.W.nsIn K cStatics "thirdparty.any" = some none
  top : (P.main.scope.names.lookup ("super" : Str)).isSome = false
  ev : ∃ pl : Sem Bool, ∀ L : Addr, eval (supC p1 q) (supE qual scope L fI (.ref cda) cc) = (do
      let ov ← attributeBase (.Call (.Name "super" (q 0)) [] [] (q 1)) "__init__" (supE qual scope L fI (.ref cda) cc) (eval (.Call (.Name "super" (q 0)) [] [] (q 1)) (supE qual scope L fI (.ref cda) cc))
      standAt (q 2).atName
      let (f, first) ← holding [ov] (getMethod ov "__init__" pl)
      callWith (q 4) f first (backTo (q 4) (starEach [.Name p1 (q 3)] (supE qual scope L fI (.ref cda) cc))) [])
  sw1 : ∀ L : Addr, swapsWith (supC p1 q) none (q 5).line (supE qual scope L fI (.ref cda) cc) = pure false
  sw2 : ∀ L : Addr, swapsWith (.Name p1 (q 8)) (some (.Attribute (.Name p0 (q 6)) at_ (q 7))) (q 9).line (supE qual scope L fI (.ref cda) cc) = pure false
  self : ∃ ar, (params.posonlyargs ++ params.args).head? = some ar ∧ ar.arg = p0
  kind : scope.kind = .function
  co : scope.isCoroutine = false
  gen : scope.isGenerator = false
  names : ∀ y ∈ scope.names, y.2 ≠ .cell ∧ (y.2 = .free → y.1 = "__class__")
  ne : p0 ≠ p1
  l0 : scope.names.lookup p0 = some .local
  l1 : scope.names.lookup p1 = some .local
  ls : scope.names.lookup ("super" : Str) = some .globalImplicit
  lc : scope.names.lookup ("__class__" : Str) = some .free
  d0 : (p0 == ("__debug__" : Str)) = false ∧ (p0 == ("__classdict__" : Str)) = false
  d1 : (p1 == ("__debug__" : Str)) = false ∧ (p1 == ("__classdict__" : Str)) = false
theorem fn_sup {P : Program} {w : World} {K : PySem.W.Frag} {mg : Str → Option Value} {base : Heap} {fI D cc cda : Addr} {qual p0 p1 at_ : Str} {params : Arguments} {q : Nat → Pos} {scope : Scope} {fd : FuncData} (S : SupF K P fI D cc cda qual p0 p1 at_ params q scope fd) (hsup : mg "super" = none) :
    FnOk P w K mg base (L2.CX P w) 2 fI fd [p0, p1] (spSup K D at_) := by
  refine ⟨fun vs H Q E ⟨_, _, _, e, _⟩ => by rw [e]; rfl, fun A outer s H args us vs Q E hr e0 hb r h => ?_⟩
  obtain ⟨a, C, r1, rfl, T, hsub, hm, hB, hno, ha, hq⟩ := h
  obtain ⟨oc, od, dV, kV, doc, pm, an, ct, osl, rfl, lk⟩ := S.lk
  obtain ⟨ccl, cdd, cvs, ccs, file, tf, hcode, hvs, hfile⟩ := S.code
  obtain ⟨cl, cld, csl, hcell⟩ := S.cell
  obtain ⟨cdD, hD⟩ := S.clsD
  obtain ⟨pl, ev⟩ := S.ev
  obtain ⟨ar, har, har2⟩ := S.self
  obtain ⟨u0, u1, rfl, ra, rr⟩ := vals2 r
  cases ra
  have KX : K.In s.heap := e0.mod.kin.keeps fun b o e => (e0.bs b o e).1
  have lim : s.heap.NoLimit := e0.mod.nolimit.keeps fun b o e => (e0.bs b o e).1
  have binds : [p0, p1].zip [Value.ref a, u1] = [(p0, Value.ref a), (p1, u1)] := rfl
  rw [binds] at hb
  refine PySem.ks_codeAny_call_defAt hr.depth (KX _ _ lk) rfl lim (PySem.W.codeRec_of KX S.cd) rfl hb (fun y hy => (S.names y hy).1) (fun y hy => ?_) (fun h₁ hns kp => ?_) S.co S.gen S.kind
  · simp only [List.mem_cons, List.not_mem_nil, or_false] at hy
    rcases hy with rfl | rfl
    · exact S.l0
    · exact S.l1
  have I : Inv (supX P w K mg base [p0, p1] qual scope fI (.ref cda) cc A outer s H E) [] [some (.ref a), some r1] H { s with heap := h₁, toks := s.toks + ([(p0, Value.ref a), (p1, u1)] : List (Str × Value)).length } :=
    sup_start S.kind S.names S.ne S.l0 S.l1 hr.hd e0 hcell rfl rr hns kp
  have gv0 := hns
  obtain ⟨mb, hmb, hbb⟩ := e0.mod.blt
  have KX1 : K.In h₁ := I.kIn
  have ga : (fun y => ([(p0, Value.ref a), (p1, u1)] : List (Str × Value)).reverse.lookup y) p0 = some (.ref a) := by
    show ([(p1, u1), (p0, Value.ref a)] : List (Str × Value)).lookup p0 = some (.ref a)
    rw [List.lookup_cons, show (p0 == p1) = false by simpa using S.ne]
    simp
  show _root_.PySem.wpAt (model P w) (A.deeper (supE qual scope s.heap.objs.size fI (.ref cda) cc)) (.func (supB p0 p1 at_ q) (supE qual scope s.heap.objs.size fI (.ref cda) cc)) (execs (supB p0 p1 at_ q) (supE qual scope s.heap.objs.size fI (.ref cda) cc)) _ _ _
  refine ks_wpAt_execs_cons (ks_wpAt_Expr_any (ks_wpAt_MethodCall (pl := pl) ?_ (ev _)) (by unfold interactive; simp [S.kind]) (S.sw1 _))
  refine ks_wpAt_super_base S.ls S.lc (by decide) rfl (KX1 _ _ lk) rfl har rfl (KX1 _ _ hcode) rfl hvs hfile S.top ?_
  have oD : ∃ o : Obj, K.lookup D = some o ∧ o.data = .cls cdD := by
    unfold PySem.W.clsIn at hD
    split at hD
    · rename_i ho
      cases hD
      exact ⟨_, ho, rfl⟩
    · cases hD
  obtain ⟨oD, hoD, hdD⟩ := oD
  have lcell : h₁.IsCell cc (some (.ref D)) := ⟨_, KX1 _ _ hcell, rfl⟩
  have hcl : ([(("__class__" : Str), cc)] : List (Str × Addr)).lookup ("__class__" : Str) = some cc := by simp
  obtain ⟨t1, hox⟩ := exo_at I.hok ha
  refine PySem.W.ks_loadName_global S.kind S.ls (PySem.Calls.loadGlobal_builtin (mg := mg) (by exact e0.mod.glob.keeps I.bk) hsup (by exact hmb.keeps I.bk) ((hbb "super" (by decide)).trans PyProof.Rows.Boot.«super») ⟨rfl, ?_⟩)
  refine wpAny_loadName_free S.kind S.lc hcl lcell ?_
  refine wpAny_loadName_local (m := fun y => ([(p0, Value.ref a), (p1, u1)] : List (Str × Value)).reverse.lookup y) S.kind (by rw [har2]; exact S.l0) hns (by rw [har2]; exact ga) ?_
  refine PySem.ks_wpAny_isType_cls (KX1 _ _ hoD) hdD ⟨rfl, ?_⟩
  refine PySem.ks_wpAny_call_super (KX1 _ _ hoD) hdD hox rfl (fun c z => by cases z) (PySem.W.looks_mroIn KX1 hsub) fun h2 hso k2 => ?_
  have KX2 : K.In h2 := KX1.keeps k2
  have I2 := I.kept (t' := s.toks + ([(p0, Value.ref a), (p1, u1)] : List (Str × Value)).length) k2
  obtain ⟨nm, qq, NN, bs, bm, sn, sub, ab, col, dd, x0, x1, x2, x3, x5, hC, hbm⟩ := T.cls
  have hcd : ∃ cd, PySem.W.clsIn K C = some cd := by
    unfold PySem.W.clsIn
    rw [hC]
    exact ⟨_, rfl⟩
  obtain ⟨cdC, hcC⟩ := hcd
  have hal : PySem.W.alongIn K "__init__" ((cdC.mro.dropWhile (· != .ref D)).drop 1) = some (some (.builtin "ValueError.__init__")) := by
    unfold PySem.W.ks_superIn at hm
    rw [hcC] at hm
    exact hm
  have hox2 := k2 _ _ hox
  have hne : a ≠ C := fun z => by
    have y := KX2 _ _ hC
    rw [← z, hox2] at y
    have y2 := congrArg Obj.data (Option.some.inj y)
    cases y2
  refine PySem.W.kxs_getMethod PySem.W.kxs_ValueError hso (PySem.W.looks_opaque KX2 S.any) (l₀ := cdC.mro) (fun A Q E s k q => wpAny_bind ((PySem.W.looks_clsIn KX2 hcC) A _ E s k (wpAny_pure q))) rfl KX2 hal ?_ hne (by decide) ?_
  · exact (PySem.W.InstAt.type (od := none) ⟨hox2, rfl, rfl, trivial⟩).andThen (PySem.W.looks_subIn KX2 hB)
  have k3 : ∀ b o, h2.get? b = some o → (h2.push (PySem.W.kxs_mw "ValueError.__init__" a)).get? b = some o := fun b o e => Heap.get?_push_of_some _ e
  have I3 := I2.kept (t' := s.toks + ([(p0, Value.ref a), (p1, u1)] : List (Str × Value)).length + 1) k3
  have hmw := Heap.get?_push_size h2 (o := PySem.W.kxs_mw "ValueError.__init__" a) rfl
  refine PySem.W.kxs_callWith (i := "ValueError.__init__") (x := a) rfl ?_
  refine PySem.Calls.evalArgs_plain (PySem.Calls.spliced_cons ?_)
  have hns3 := hns.at fun o y => k3 _ _ (k2 _ _ y)
  refine wpAny_Name (wpAny_loadName_local (v := u1) S.kind S.l1 hns3 (by simp) ?_) S.d1.1
  refine PySem.Calls.spliced_nil ⟨hmw, ?_⟩
  refine sup_call (H := H) (X := supX P w K mg base [p0, p1] qual scope fI (.ref cda) cc A outer s H E) T I3 ha hmw (by rw [sizeLine_eq]; simp) fun s4 I4 => ?_
  refine wpAt_of_wpAny ?_
  have go := (pss_one (ps_ost (f := at_) (p' := q 7) (pos := q 9) (pe_var (X := supX P w K mg base [p0, p1] qual scope fI (.ref cda) cc A outer s H E) (i := 0) (pos := q 6) rfl (.inl S.l0) S.d0.1 S.d0.2) (pe_var (i := 1) (pos := q 8) rfl (.inl S.l1) S.d1.1 S.d1.2) (S.sw2 _))).run [] s4 [some (.ref a), some r1] H { nx := fun σ' H' => Q .non H', rt := fun _ _ => False } I4 ?_
  · refine wpAny_mono go (fun fl s' hs => ?_) fun e s' hs => hs
    cases fl with
    | next =>
      obtain ⟨σ', H', J, qz⟩ := hs
      exact ⟨.non, H', J.os, J.bare, J.base, J.hok, rfl, qz⟩
    | ret u =>
      obtain ⟨v, σ', H', J, rv, qz⟩ := hs
      exact False.elim qz
    | brk =>
      obtain ⟨_, _, _, qz⟩ := hs
      exact False.elim qz
    | cont =>
      obtain ⟨_, _, _, qz⟩ := hs
      exact False.elim qz
  · exact ⟨r1, rfl, .ref a, rfl, a, C, rfl, T, hno, .inl ⟨ha, hq⟩⟩
/-! ### raise C(e) -/
/-- an own class of exceptions, its __init__ as above -/
structure Xc (P : Program) (w : World) (K : PySem.W.Frag) (mg : Str → Option Value) (base : Heap) (c at_ : String) : Prop where
  ex : ∃ (C fI : Addr) (fd : FuncData) (ps : List Str), mg (Str.ofString c) = some (.ref C) ∧ OexC K C ∧ PySem.W.findIn K (.ref C) "__init__" = some (some (.ref fI)) ∧ PySem.W.typeIn K (.ref fI) = some (.type "function") ∧
    FnOk P w K mg base (L2.CX P w) 2 fI fd ps (spSup K C (Str.ofString at_)) ∧ Binds K fd ps [] ∧ PySem.W.mroIn K C (.ref C) = some true ∧ PySem.W.ks_superIn K C C "__init__" = some (some (.builtin "ValueError.__init__")) ∧
    PySem.W.subIn K (.ref C) (.type "ValueError") = some true ∧ PySem.W.findIn K (.ref C) (Str.ofString at_) = some none
abbrev XcX (X : Cx) (c at_ : String) : Prop := Xc X.prog X.w X.K X.mg X.base c at_
def mRaise (c at_ : String) (m : ME) : MS := fun δ μ => (m δ μ).thn fun s δ1 μ1 => .exc ⟨c, at_, s.d⟩ δ1 μ1
theorem js_raise {X : Cx} {W : WX} {k : Nat} {N : List Str} {sc : Scope} {c at_ : String} {e : Expr} {m : ME} {p pos pos' : Pos} (C : Cs X W k N sc) (V : XcX X c at_) (hk : 3 ≤ k) (hg : glC sc (Str.ofString c) = true) (he : JE X W e m)
    (hs : starEach [e] X.env = (false, eval e X.env) :: starEach [] X.env := by rfl) : JS X W (.Raise (some (.Call (.Name (Str.ofString c) p) [e] [] pos)) none pos') (mRaise c at_ m) := by
  obtain ⟨A, fI, fd, ps, h1, T, h3, h4, F, hb, h6, h7, h8, h9⟩ := V.ex
  obtain ⟨g1, g2, g3⟩ := C.gl hg
  have mk := pmk_oex (pos := pos) (p := p) T h3 h4 F ((C.rm.mono hk).r) hb (.nil) (passes_call C.tk (fun _ _ _ _ z => z.elim)) g1 h1 (ja_cons he ja_nil hs) g2 hs
  refine (ps_raise C.calm C.tk mk).imp fun D σ H ⟨Z, F, ρ, μ, δ, S, q⟩ => ?_
  refine ⟨Z, F, ρ, μ, δ, S, ?_⟩
  unfold mRaise at q
  show FinE X W Z F ρ σ _ ((m δ μ).bind fun s δ1 μ1 => (evA [] δ1 μ1).bind fun ds δ2 μ2 => .ok (s.d :: ds) δ2 μ2)
  cases em : m δ μ with
  | bad => rw [em] at q; exact q
  | exc x δ1 μ1 => rw [em] at q; exact fun c d H' F' ρ' l lr S e => q c d σ H' F' ρ' l lr S e
  | ok s δ1 μ1 =>
    rw [em] at q
    intro H1 F1 ρ1 l1 lr1 S1 vs hv
    cases hv with
    | @cons r _ _ _ hv hn =>
      cases hn
      refine ⟨by simp, fun a ha => ?_⟩
      refine ⟨a, A, _, rfl, T, h6, h7, h8, h9, upd_same, fun dx hdx hne => ?_⟩
      have hdx1 : H1 dx = none := by
        rw [upd_ne hne] at hdx
        exact hdx
      refine ⟨rfl, dx, [(Str.ofString at_, r)], upd_same, by rw [upd_ne hne, upd_same], hdx1, ?_⟩
      have eH : upd (del (upd (upd (upd H1 a (exo a A none)) dx (exd dx [(Str.ofString at_, r)])) a (exo a A (some dx))) a) dx (.xd [(Str.ofString at_, r)]) = upd H1 dx (.xd [(Str.ofString at_, r)]) := by
        funext b
        by_cases hb : b = dx
        · rw [hb, upd_same, upd_same]
        · rw [upd_ne hb, upd_ne hb]
          by_cases hb2 : b = a
          · rw [hb2, del_same, ha]
          · rw [del_ne hb2, upd_ne hb2, upd_ne hb, upd_ne hb2]
      rw [eH]
      have S2 := S1.laid (o := .xd [(Str.ofString at_, r)]) hdx1
      have N1 := S1.notIn hdx1
      obtain ⟨l3, S3⟩ := S2.freeze upd_same ⟨N1.1, N1.2.1, N1.2.2.1⟩ N1.2.2.2
      exact q _ _ σ _ _ _ (l1.trans l3) lr1 S3 ⟨A, dx, _, rfl, rfl, h1, .inl upd_same, hv.up l3.to fun _ _ h => h⟩
/-! ### the classes, as the top has left them -/
/-- the def j of a class statement -/
def clsDef (j : Nat) : Stmt → Stmt
  | .ClassDef _ _ _ body _ _ _ _ _ _ _ => body.getD j (.Pass ⟨0, 0, 0, 0⟩)
  | s => s
/-- what the text says of such an __init__ -/
structure SupS (P : Program) (st : Stmt) (p0 p1 at_ : Str) (q : Nat → Pos) (sc : Scope) : Prop where
  scope : defScope st = sc
  body : defBody st = supB p0 p1 at_ q
  self : ∃ ar, ((defArgs st).posonlyargs ++ (defArgs st).args).head? = some ar ∧ ar.arg = p0
  top : (P.main.scope.names.lookup ("super" : Str)).isSome = false
  ev : ∀ (qual : Str) (fI : Addr) (cda : Value) (cc : Addr), ∃ pl : Sem Bool, ∀ L : Addr, eval (supC p1 q) (supE qual sc L fI cda cc) = (do
      let ov ← attributeBase (.Call (.Name "super" (q 0)) [] [] (q 1)) "__init__" (supE qual sc L fI cda cc) (eval (.Call (.Name "super" (q 0)) [] [] (q 1)) (supE qual sc L fI cda cc))
      standAt (q 2).atName
      let (f, first) ← holding [ov] (getMethod ov "__init__" pl)
      callWith (q 4) f first (backTo (q 4) (starEach [.Name p1 (q 3)] (supE qual sc L fI cda cc))) [])
  sw1 : ∀ (qual : Str) (fI : Addr) (cda : Value) (cc L : Addr), swapsWith (supC p1 q) none (q 5).line (supE qual sc L fI cda cc) = pure false
  sw2 : ∀ (qual : Str) (fI : Addr) (cda : Value) (cc L : Addr), swapsWith (.Name p1 (q 8)) (some (.Attribute (.Name p0 (q 6)) at_ (q 7))) (q 9).line (supE qual sc L fI cda cc) = pure false
  kind : sc.kind = .function
  co : sc.isCoroutine = false
  gen : sc.isGenerator = false
  names : ∀ y ∈ sc.names, y.2 ≠ .cell ∧ (y.2 = .free → y.1 = "__class__")
  ne : p0 ≠ p1
  l0 : sc.names.lookup p0 = some .local
  l1 : sc.names.lookup p1 = some .local
  ls : sc.names.lookup ("super" : Str) = some .globalImplicit
  lc : sc.names.lookup ("__class__" : Str) = some .free
  d0 : (p0 == ("__debug__" : Str)) = false ∧ (p0 == ("__classdict__" : Str)) = false
  d1 : (p1 == ("__debug__" : Str)) = false ∧ (p1 == ("__classdict__" : Str)) = false
theorem xc_of {P : Program} {w : World} {K : PySem.W.Frag} {mg : Str → Option Value} {base : Heap} {c at_ : String} {st : Stmt} {p0 p1 : Str} {q : Nat → Pos} {sc : Scope} {C fI cc cda : Addr} {qual nm qn file : Str} {tf : Tok} {NN : Addr} {bs bm : List Value} {sn : List Str} {sub : List Value} {ab : Bool} {col : Option Bool} {dd : Option Addr} {k0 k1 k2 k3 k5 : Option Value}
    {oc kV doc pm ct ccl cl : Value} {od an cdd cld : Option Addr} {osl ccs csl : Array (Option Value)} {vs : Array Value}
    (S : SupS P st p0 p1 (Str.ofString at_) q sc) (hm : mg (Str.ofString c) = some (.ref C)) (hsup : mg "super" = none) (hC : K.lookup C = some (excClassObj nm qn C NN bs bm true sn sub ab col dd k0 k1 k2 k3 k5 "ValueError.__new__")) (hbm : PySem.HandSPX.refsVE bm = true)
    (sa : PySem.W.findIn K (.ref C) "__setattr__" = some (some (.builtin "object.__setattr__"))) (exC : PySem.W.subIn K (.ref C) (.type "BaseException") = some true) (tyC : PySem.W.typeIn K (.ref C) = some (.type "type")) (kC : PySem.W.keepIn K (.ref C) = true)
    (iC : PySem.W.findIn K (.ref C) "__init__" = some (some (.ref fI))) (tI : PySem.W.typeIn K (.ref fI) = some (.type "function"))
    (lI : K.lookup fI = some { cls := oc, dict := od, data := .func (PySem.W.ksFn "__init__" qual (defArgs st) (defBody st) (defScope st) .none kV doc pm an (.ref cda) ct cc), slots := osl })
    (cI : PySem.W.codeIn K (.ref cda) qual = true) (lcd : K.lookup cda = some { cls := ccl, dict := cdd, data := .fields vs, slots := ccs }) (hvs : vs[2]? = some (.str file tf)) (hfile : ((P.main.file : Str) == file) = true)
    (lcc : K.lookup cc = some { cls := cl, dict := cld, data := .cell (some (.ref C)), slots := csl }) (any : PySem.W.nsIn K cStatics "thirdparty.any" = some none) (mro : PySem.W.mroIn K C (.ref C) = some true)
    (sup : PySem.W.ks_superIn K C C "__init__" = some (some (.builtin "ValueError.__init__"))) (sB : PySem.W.subIn K (.ref C) (.type "ValueError") = some true) (fat : PySem.W.findIn K (.ref C) (Str.ofString at_) = some none)
    (hb : ∀ us : List Value, us.length = [p0, p1].length → bindArgs (PySem.W.ksFn "__init__" qual (defArgs st) (defBody st) (defScope st) .none kV doc pm an (.ref cda) ct cc) ⟨us, []⟩ = pure ([p0, p1].zip us)) : Xc P w K mg base c at_ := by
  have hcls : ∃ cd, PySem.W.clsIn K C = some cd := by
    unfold PySem.W.clsIn
    rw [hC]
    exact ⟨_, rfl⟩
  obtain ⟨pl, ev⟩ := S.ev qual fI (.ref cda) cc
  have e1 := S.scope
  have e2 := S.body
  have F : SupF K P fI C cc cda qual p0 p1 (Str.ofString at_) (defArgs st) q sc (PySem.W.ksFn "__init__" qual (defArgs st) (defBody st) (defScope st) .none kV doc pm an (.ref cda) ct cc) :=
    ⟨⟨oc, od, .none, kV, doc, pm, an, ct, osl, by rw [e1, e2], lI⟩, cI, ⟨_, _, _, _, _, _, lcd, hvs, hfile⟩, ⟨_, _, _, lcc⟩, hcls, any, S.top, ⟨pl, ev⟩, S.sw1 _ _ _ _, S.sw2 _ _ _ _, S.self, S.kind, S.co, S.gen, S.names, S.ne, S.l0, S.l1, S.ls, S.lc, S.d0, S.d1⟩
  exact ⟨C, fI, _, _, hm, ⟨⟨_, _, _, _, _, _, _, _, _, _, _, _, _, _, _, hC, hbm⟩, sa, exC, tyC, kC⟩, iC, tI, fn_sup F hsup, .all hb, mro, sup, sB, fat⟩
end FL

/-! Part O: lambdas that are handed to a def which calls them at once. -/
namespace FL
open PySem PySem.Spec PyProof.Rows L2 LamX

/-! ### the table of code objects in the memory -/
section
variable {K : PySem.W.Frag} {mg : Str → Option Value} {Z F : Hp} {ρ : List Addr} {μ : Mem} {δ : FL.Loc} {σ : L2.St} {H : Hp}
theorem Sim.tabAt {j : Nat} {P : Addr} {q : Str} (S : Sim K mg Z F ρ μ δ σ H) (e : μ[j]? = some (.tab P q)) : ρ[j]? = some P ∧ ∃ ps : Array Value, H P = some (.tbl ps) ∧ TriplesOk ps.toList ∧ ∀ (pos : Pos) (cv : Value), codeAmong pos ps.toList = some cv → ∃ c, cv = .ref c ∧ F c = some (CodeO c q) := by
  obtain ⟨a, e1, _, _, r⟩ := S.mem j _ e
  obtain ⟨rfl, ps, h1, h2, h3⟩ := r
  exact ⟨e1, ps, h1, h2, h3⟩
/-- a new code object, told in the table -/
theorem Sim.tabNew {j : Nat} {P c : Addr} {q : Str} {pos : Pos} {ps : Array Value} (S : Sim K mg Z F ρ μ δ σ H) (e : μ[j]? = some (.tab P q)) (hP : H P = some (.tbl ps)) (ht : TriplesOk ps.toList)
    (ha : ∀ (p : Pos) (cv : Value), codeAmong p ps.toList = some cv → ∃ c, cv = .ref c ∧ F c = some (CodeO c q)) (hc : H c = none) :
    ∃ F1, Le Z F F1 ∧ F1 c = some (CodeO c q) ∧ Sim K mg Z F1 ρ μ δ σ (upd (upd H P (.tbl (ps ++ #[rawInt pos.line, rawInt pos.col, .ref c]))) c (CodeO c q)) := by
  have nPc : P ≠ c := ne_of_none hP hc
  obtain ⟨b1, b2, b3, b4⟩ := S.notIn hc
  have S1 := S.laid (o := CodeO c q) hc
  obtain ⟨l, S2⟩ := S1.freeze upd_same ⟨b1, b2, b3⟩ b4
  obtain ⟨ep, _⟩ := S.tabAt e
  have eL : (ps ++ #[rawInt pos.line, rawInt pos.col, .ref c]).toList = ps.toList ++ [rawInt pos.line, rawInt pos.col, .ref c] := by simp
  have S3 := S2.writeM (c' := .tab P q) (o := .tbl (ps ++ #[rawInt pos.line, rawInt pos.col, .ref c])) e ep ⟨rfl, _, upd_same, by rw [eL]; exact PySem.TriplesOk_snoc _ _ _ _ ht, fun p' cv hcv => by
    rw [eL] at hcv
    rcases among_app _ ht hcv with z | z
    · obtain ⟨c0, e1, e2⟩ := ha p' cv z
      exact ⟨c0, e1, l.to _ _ e2⟩
    · exact ⟨c, z, upd_same⟩⟩
  have em : μ.set j (.tab P q) = μ := by
    apply List.ext_getElem?
    intro i
    by_cases z : i = j
    · subst z
      rw [List.getElem?_set_self (List.getElem?_eq_some_iff.mp e).1, e]
    · rw [List.getElem?_set_ne (Ne.symm z)]
  have eH : upd (upd H c (CodeO c q)) P (.tbl (ps ++ #[rawInt pos.line, rawInt pos.col, .ref c])) = upd (upd H P (.tbl (ps ++ #[rawInt pos.line, rawInt pos.col, .ref c]))) c (CodeO c q) := by
    funext b
    by_cases h1 : b = c
    · rw [h1, upd_same, upd_ne (Ne.symm nPc), upd_same]
    · by_cases h2 : b = P
      · rw [h2, upd_same, upd_ne nPc, upd_same]
      · rw [upd_ne h2, upd_ne h1, upd_ne h1, upd_ne h2]
  rw [em, eH] at S3
  exact ⟨_, l, upd_same, S3⟩
/-- the slots that a lambda sees: what is owned is hidden -/
def hide (δ : FL.Loc) : FL.Loc := δ.map fun o => match o with
  | some (.fr d) => some (.fr d)
  | _ => none
theorem hide_fr {i : Nat} {s : FL.Slot} (e : (hide δ)[i]? = some (some s)) : ∃ d, s = .fr d ∧ δ[i]? = some (some (.fr d)) := by
  unfold hide at e
  rw [List.getElem?_map] at e
  cases q : δ[i]? with
  | none => rw [q] at e; cases e
  | some o =>
    rw [q] at e
    cases o with
    | none => cases e
    | some t =>
      cases t with
      | fr d => cases e; exact ⟨d, rfl, rfl⟩
      | own c => cases e
/-- the slots of another frame, at a later heap -/
theorem Sim.borrow {Z1 F1 : Hp} {ρ1 : List Addr} {μ1 : Mem} {H1 : Hp} (S : Sim K mg Z F ρ μ δ σ H) (S1 : Sim K mg Z1 F1 ρ1 μ1 [] [] H1) (l : ∀ p o, F p = some o → F1 p = some o) (lr : ∀ (k : Nat) p, ρ[k]? = some p → ρ1[k]? = some p) :
    Sim K mg Z1 F1 ρ1 μ1 (hide δ) σ H1 := by
  refine ⟨S1.le, S1.zk, by unfold hide; rw [List.length_map]; exact S.len, fun i s e => ?_, fun i j p s s' e => ?_, S1.mem, S1.mlen, S1.nod⟩
  · obtain ⟨d, rfl, e2⟩ := hide_fr e
    obtain ⟨v, ev, r⟩ := S.slot i _ e2
    exact ⟨v, ev, Rep.up l lr r⟩
  · obtain ⟨d, e1, _⟩ := hide_fr e
    cases e1
end

/-! ### the names of a lambda -/
structure LmS (N : List Str) (sc scope : Scope) : Prop where
  kind : scope.kind = .function
  co : scope.isCoroutine = false
  gen : scope.isGenerator = false
  own : ∀ y ∈ scope.names, y.2 ≠ .cell ∧ (y.2 = .local → y.1 ∉ N)
  free : ∀ y ∈ scope.names, y.2 = .free → sc.names.lookup y.1 = some .cell ∨ sc.names.lookup y.1 = some .free
def lmSB (N : List Str) (sc scope : Scope) : Bool :=
  decide (scope.kind = .function) && !scope.isCoroutine && !scope.isGenerator && scope.names.all fun y => !decide (y.2 = .cell) && (!decide (y.2 = .local) || !decide (y.1 ∈ N)) && (!decide (y.2 = .free) || decide (sc.names.lookup y.1 = some .cell) || decide (sc.names.lookup y.1 = some .free))
theorem lmS_by {N : List Str} {sc scope : Scope} (h : lmSB N sc scope = true) : LmS N sc scope := by
  unfold lmSB at h
  simp only [Bool.and_eq_true, Bool.or_eq_true, Bool.not_eq_true', decide_eq_true_eq, decide_eq_false_iff_not, List.all_eq_true] at h
  obtain ⟨⟨⟨a1, a2⟩, a3⟩, a4⟩ := h
  refine ⟨a1, a2, a3, fun y hy => ⟨(a4 y hy).1.1, fun e => ?_⟩, fun y hy e => ?_⟩
  · rcases (a4 y hy).1.2 with z | z
    · exact absurd e z
    · exact z
  · rcases (a4 y hy).2 with (z | z) | z
    · exact absurd e z
    · exact Or.inl z
    · exact Or.inr z
theorem LmS.has {N : List Str} {X : Cx} {scope : Scope} (L : LmS N X.env.scope scope) (ok : X.Ok) (y) (hy : y ∈ scope.names) (e : y.2 = .free) : ∃ c, X.env.cells.lookup y.1 = some c :=
  (L.free y hy e).elim (fun k => ok.has _ (Or.inl k)) fun k => ok.has _ (Or.inr k)

section
variable {X : Cx} {pins : List (Addr × Obj)} {σ : L2.St} {H HZ : Hp} {s s1 : Shared}
/-- the lambda's body, entered -/
theorem lm_start {A : Around} {outer : List Env} {E : XK} {scope : Scope} {f c' : Addr} {h₁ : Heap} {tk : Nat} {bs : List (Str × Value)} (J : Inv X pins σ H s) (L : LmS X.N X.env.scope scope) (e0 : Env0 X.prog X.w X.K X.mg X.base A outer s1 HZ) (hd : A.handled = none)
    (un : Un (frs X.stack) [] H HZ s.heap s1.heap) (hns : h₁.Ns s1.heap.objs.size fun y => bs.reverse.lookup y) (kp : ∀ b o, s1.heap.get? b = some o → h₁.get? b = some o) :
    Inv (lamCx X A outer s1 HZ E scope f c') [] σ HZ { s1 with heap := h₁, toks := tk } := by
  have has := L.has J.ok
  have down : ∀ {y c}, (cloFrom X.env.cells scope.names []).lookup y = some c → X.env.cells.lookup y = some c := fun {y c} q => by
    rcases cloFrom_mem (PySem.mem_of_lookup q) with hm | ⟨m1, m2⟩
    · cases hm
    · obtain ⟨d, hd'⟩ := has _ m1 rfl
      have hd' : X.env.cells.lookup y = some d := hd'
      have ed : c = d := by
        rw [m2, hd'] <;> rfl
      rw [ed]
      exact hd'
  have find : ∀ {y}, scope.names.lookup y = some .free → ∃ c, (cloFrom X.env.cells scope.names []).lookup y = some c := fun {y} hl =>
    mem_lookup (cloFrom_has (cells := X.env.cells) (acc := []) (PySem.mem_of_lookup hl : (y, NameKind.free) ∈ scope.names))
  have stays : ∀ {c : Addr} {v : Option Value}, H c = none → s.heap.IsCell c v → h₁.IsCell c v := fun {c v} n ⟨o, ho, hc⟩ => by
    obtain ⟨sl, q⟩ := un.any ho n (by simp)
    exact ⟨_, kp _ _ q, hc⟩
  have none_ex : ∀ b : Addr, b ∉ (lamCx X A outer s1 HZ E scope f c').ex := fun b z => nomatch (show b ∈ ([] : List Addr) from z)
  refine ⟨⟨e0.mod, L.kind, rfl, rfl, Nat.le_refl _, fun y z c e1 e2 => J.ok.inj y z c (down e1) (down e2), fun y hy => ?_, fun y c z _ => ?_, fun _ => hd, Around.frames_deeper e0.frames, .inr ⟨rfl, rfl⟩, fun b z => absurd z (none_ex b), e0.bs, e0.bsz, fun b _ _ => none_ex b,
      fun b z => absurd z (none_ex b), e0.funs, e0.frf⟩,
    rfl, e0.bare, Un.kept kp, ⟨_, hns, fun i y v e1 e2 e3 => ?_⟩, fun y c e => ?_, e0.hok.fresh (Nat.le_refl _), fun y c e => ?_, fun q hq => (nomatch (show q ∈ ([] : List (Addr × Obj)) ++ [] from hq)), e0.hok.kept kp, J.len⟩
  · have hy : scope.names.lookup y = some .cell ∨ scope.names.lookup y = some .free := hy
    rcases hy with hy | hy
    · exact absurd rfl (L.own _ (PySem.mem_of_lookup hy)).1
    · exact find hy
  · exact absurd (show false = true from z) (by decide)
  · have e3 : Vis scope y := e3
    have e1 : X.N[i]? = some y := e1
    rcases e3 with k | k | k
    · exact absurd (List.mem_of_getElem? e1) ((L.own _ (PySem.mem_of_lookup k)).2 rfl)
    · exact absurd rfl (L.own _ (PySem.mem_of_lookup k)).1
    · obtain ⟨m, hn, hl⟩ := J.loc
      have hvis : Vis X.env.scope y := (L.free _ (PySem.mem_of_lookup k) rfl).elim (fun k => .inr (.inl k)) (fun k => .inr (.inr k))
      obtain ⟨w', r, q⟩ := hl i y v e1 e2 hvis
      obtain ⟨c2, h2⟩ := find k
      refine ⟨w', r, .inr ⟨.inr k, c2, h2, ?_⟩⟩
      have c1 := down h2
      rcases q with ⟨k', _⟩ | ⟨_, c3, e', z⟩
      · have k' : X.env.scope.names.lookup y = some .local := k'
        rcases L.free _ (PySem.mem_of_lookup k) rfl with k2 | k2
        · rw [show X.env.scope.names.lookup y = _ from k2] at k'
          cases k'
        · rw [show X.env.scope.names.lookup y = _ from k2] at k'
          cases k'
      · rw [c1] at e'
        cases e'
        exact stays (J.freeC y _ c1) z
  · obtain ⟨w', z⟩ := J.cell y c (down e)
    exact ⟨w', stays (J.freeC y c (down e)) z⟩
  · obtain ⟨v, o, ho, _⟩ := J.cell y c (down e)
    exact un.free c o ho (J.freeC y c (down e)) (by simp)

/-! ### what is called, and does what act says -/
structure Act (P : Program) (w : World) (K : PySem.W.Frag) (mg : Str → Option Value) (base : Heap) (k : Nat) (out0 : List Env) (f : Addr) (F0 : Hp) (ρ0 : List Addr) (act : Mem → OutF) (s0 : Shared) (H0 : Hp) : Prop where
  at_ : (∃ oc od fd osl, s0.heap.get? f = some { cls := oc, dict := od, data := .func fd, slots := osl }) ∧ H0 f = none ∧ f ∉ frs out0
  run : ∀ (A : Around) (outer : List Env) (s : Shared) (H : Hp) (Q : VK) (E : XK) (Z F : Hp) (ρ : List Addr) (μ : Mem), RmG k A → Env0 P w K mg base A outer s H → Un (frs out0) [] H0 H s0.heap s.heap → (∀ p o, F0 p = some o → F p = some o) → (∀ (k : Nat) p, ρ0[k]? = some p → ρ[k]? = some p) →
    Sim K mg Z F ρ μ [] [] H → FinF K mg Z F ρ Q E (act μ) → codeAny (model P w) A (.call (.ref f) ⟨[], []⟩) (CR (L2.CX P w) outer P w H s Q E) s
def actOf (m : ME) (δ : FL.Loc) : Mem → OutF := fun μ => match m (hide δ) μ with
  | .ok s _ μ' => .ok s μ'
  | .exc x _ μ' => .exc x μ'
  | .bad => .bad
/-- the context of a lambda's body: its names -/
abbrev lamW (E : XK) : WX := fun c d _ H => E c d H
theorem act_ok {k : Nat} {f c' : Addr} {q : Str} {params : Arguments} {body : Expr} {scope : Scope} {dV doc pm ctv : Value} {bs : List (Str × Value)} {F0 Z0 : Hp} {ρ0 : List Addr} {μ0 : Mem} {δ : FL.Loc} {m : ME} (I : Inv X pins σ H s) (S : SimX X Z0 F0 ρ0 μ0 δ σ H) (L : LmS X.N X.env.scope scope) (hN : X.N.Nodup)
    (eq : X.env.qual ++ "<lambda>" = q)
    (hf : s.heap.get? f = some (PySem.W.kdv_obj "<lambda>" q params (.expr body) scope (cloFrom X.env.cells scope.names []) dV doc pm c' ctv)) (hfn : H f = none) (hfr : f ∉ frs X.stack) (hco : F0 c' = some (CodeO c' q))
    (hbind : ∀ s1 : Shared, Un (frs X.stack) [] H H s.heap s.heap → (∀ b o, s.heap.get? b = some o → H b = none → b ∉ frs X.stack → s1.heap.get? b = some o) → BindsTo s1 (PySem.W.kdv_fn "<lambda>" q params (.expr body) scope (cloFrom X.env.cells scope.names []) dV doc pm (.ref c') ctv) ⟨[], []⟩ bs)
    (hloc : ∀ y ∈ bs, scope.names.lookup y.1 = some .local)
    (hbody : ∀ (A : Around) (outer : List Env) (s : Shared) (H : Hp) (E : XK), Cs (lamCx X A outer s H E scope f c') (lamW E) k X.N scope → JE (lamCx X A outer s H E scope f c') (lamW E) body m) :
    Act X.prog X.w X.K X.mg X.base (k + 1) X.stack f F0 ρ0 (actOf m δ) s H := by
  subst eq
  refine ⟨⟨⟨_, _, _, _, hf⟩, hfn, hfr⟩, fun A outer s1 HZ Q E Z F ρ μ hr e0 un l lr S1 fin => ?_⟩
  have kept : ∀ b o, s.heap.get? b = some o → H b = none → b ∉ frs X.stack → s1.heap.get? b = some o := fun b o e n hb => un.keep b o e n hb (by simp)
  have of1 := kept f _ hf hfn hfr
  have hc1 : HZ c' = some (CodeO c' (X.env.qual ++ "<lambda>")) := by
    rcases S1.le c' _ (l _ _ hco) with z | ⟨_, _, z, _⟩
    · exact z
    · unfold CodeO at z
      cases z
  obtain ⟨⟨oc, vs, t, hoc, hdc, hvc⟩, _, _⟩ := e0.hok c' _ hc1
  have lim : s1.heap.NoLimit := e0.mod.nolimit.keeps fun b o e => (e0.bs b o e).1
  refine PySem.W.kla_callFunE hr.r.depth of1 rfl L.co L.gen rfl ⟨c', oc, vs, t, rfl, hoc, hdc, hvc⟩ (hbind s1 (Un.kept fun _ _ z => z) kept _ _ _ _ ?_)
  refine wpAny_newFunctionEnv (fun y hy => (L.own y hy).1) hloc (fun h₁ hns hsb => ⟨lim.fresh _ hsb, ?_⟩) L.kind
  show codeAny _ _ (.expr body (lamEnv X scope s1.heap.objs.size f c')) _ _
  have kp : ∀ b o, s1.heap.get? b = some o → h₁.get? b = some o := fun b o e => hsb.extBut b o (Nat.ne_of_lt (Heap.lt_size e)) (Heap.get?_push_of_some _ e)
  have J : Inv (lamCx X A outer s1 HZ E scope f c') [] σ HZ { s1 with heap := h₁, toks := s1.toks + bs.length } := lm_start I L e0 hr.r.hd un hns kp
  have C : Cs (lamCx X A outer s1 HZ E scope f c') (lamW E) k X.N scope := ⟨rfl, hr.deeper _, takes_of rfl rfl rfl rfl, rfl, rfl, hN⟩
  refine PySem.W.kla_codeExpr (wpAny_mono ((hbody A outer s1 HZ E C).run [] _ σ HZ Q J ⟨Z, F, ρ, μ, hide δ, S.borrow S1 l lr, ?_⟩) (fun v s' hq => ?_) fun e s' hq => hq)
  · unfold actOf at fin
    cases em : m (hide δ) μ with
    | ok sl δ' μ' =>
      rw [em] at fin
      exact fun H' F' ρ' l2 lr2 S2 v vr => fin v H' F' ρ' l2 lr2 S2.drop vr.r
    | exc x δ' μ' =>
      rw [em] at fin
      exact fun c d H' F' ρ' l2 lr2 S2 er => fin c d H' F' ρ' l2 lr2 S2.drop er
    | bad => rw [em] at fin; exact fin
  · obtain ⟨w', H', J', rv, q⟩ := hq
    exact ⟨w', H', J'.os, J'.bare, J'.base, J'.hok, rv, q⟩
end
/-! ### a lambda is made -/
section
variable {X : Cx} {pins : List (Addr × Obj)} {σ : L2.St} {H Z F : Hp} {ρ : List Addr} {μ : Mem} {δ : FL.Loc} {s : Shared}
theorem nofr_of (I : Inv X pins σ H s) {f : Addr} (hf : s.heap.objs.size ≤ f) : f ∉ frs X.stack := fun z => by
  rcases List.mem_cons.mp (I.stkSub _ z) with e | e
  · have h1 := I.lt
    rw [← e] at h1
    exact absurd (Nat.lt_of_lt_of_le h1 hf) (Nat.lt_irrefl _)
  · exact I.nofs hf e
theorem lam_tail {j : Nat} {c P : Addr} {q : Str} {params : Arguments} {body : Expr} {scope : Scope} {dV : Value} {pos : Pos} {fl : Nat} {E : Value → Shared → Prop} {Q : Value → Shared → Prop} (I : Inv X pins σ H s) (S : SimX X Z F ρ μ δ σ H) (hj : μ[j]? = some (.tab P q))
    (TB : TabB X.base X.mg c P) (hcode : X.env.code = .ref c) (eq : X.env.qual ++ "<lambda>" = q) (hfree : ∀ y ∈ scope.names, y.2 = .free → ∃ c, X.env.cells.lookup y.1 = some c)
    (h : ∀ (f c' : Addr) (pm ctv doc : Value) (H1 F1 : Hp) (s' : Shared), Inv X pins σ H1 s' → Le Z F F1 → SimX X Z F1 ρ μ δ σ H1 → s'.heap.get? f = some (PySem.W.kdv_obj "<lambda>" q params (.expr body) scope (cloFrom X.env.cells scope.names []) dV doc pm c' ctv) → H1 f = none → f ∉ frs X.stack →
      F1 c' = some (CodeO c' q) → (∀ b o, H b = none → s.heap.get? b = some o → s'.heap.get? b = some o ∧ H1 b = none) → Q (.ref f) s') :
    wpAny (model X.prog X.w) X.A (makeTail "<lambda>" (X.env.qual ++ "<lambda>") params (.expr body) scope X.env dV .none none pos fl) Q E s := by
  subst eq
  obtain ⟨_, ps, hP, ht, ha⟩ := S.tabAt hj
  have bP : s.heap.BuiltinsAt X.mg P := TB.bm.keeps I.bk
  have hP' : s.heap.get? P = some { cls := .none, data := .fields ps } := I.hok P _ hP
  cases hc : codeAmong pos ps.toList with
  | none =>
    refine PySem.W.kdv_makeTail (mg := X.mg) (c := c) (P := P) (ps := ps) (closure_ok hfree) I.ok.glob (I.mod.glob.keeps I.bk) hcode (TB.code.keeps I.bk) hP' ht hc TB.gP bP fun c' ctv doc h' tk hx hge hlt hrec htb => ?_
    obtain ⟨c2, oc, vs, t, e2, hoc, hd, hv⟩ := hrec
    cases e2
    have hsz : s.heap.objs.size ≤ h'.objs.size := Nat.le_trans hge (Nat.le_of_lt hlt)
    have nC : H c' = none := I.hok.fresh hge
    have I1 := inv_table (t' := tk) (more := #[rawInt pos.line, rawInt pos.col, .ref c']) (h' := h'.push (PySem.W.kdv_obj "<lambda>" (X.env.qual ++ "<lambda>") params (.expr body) scope (cloFrom X.env.cells scope.names []) dV doc ((X.mg "__name__").getD .none) c' ctv)) I hP
      (fun b o hb e => Heap.get?_push_of_some _ (hx b o hb e)) (Heap.get?_push_of_some _ htb) hge ⟨oc, vs, t, Heap.get?_push_of_some _ hoc, hd, hv⟩
    obtain ⟨F1, l, hF, S1⟩ := S.tabNew (pos := pos) hj hP ht ha nC
    refine h h'.objs.size c' ((X.mg "__name__").getD .none) ctv doc _ F1 _ I1 l S1 (Heap.get?_push_size _ rfl) ?_ (nofr_of I hsz) hF fun b o n e => ⟨Heap.get?_push_of_some _ (hx b o (fun z => ?_) e), ?_⟩
    · have n1 : h'.objs.size ≠ c' := Nat.ne_of_gt hlt
      have n2 : h'.objs.size ≠ P := Nat.ne_of_gt (Nat.lt_of_lt_of_le (Heap.lt_size hP') hsz)
      rw [upd_ne n1, upd_ne n2]
      exact I.hok.fresh hsz
    · rw [z, hP] at n
      cases n
    · have m1 : b ≠ c' := Nat.ne_of_lt (Nat.lt_of_lt_of_le (Heap.lt_size e) hge)
      have m2 : b ≠ P := fun z => by
        rw [z, hP] at n
        cases n
      rw [upd_ne m1, upd_ne m2]
      exact n
  | some cv =>
    obtain ⟨c', e, hco⟩ := ha pos cv hc
    subst e
    refine PySem.W.kdv_makeTailHit (mg := X.mg) (c := c) (P := P) (ps := ps) (closure_ok hfree) I.ok.glob (I.mod.glob.keeps I.bk) hcode (TB.code.keeps I.bk) hP' ht hc bP fun ctv doc h' tk hx hsz => ?_
    have I1 : Inv X pins σ H { s with heap := h'.push (PySem.W.kdv_obj "<lambda>" (X.env.qual ++ "<lambda>") params (.expr body) scope (cloFrom X.env.cells scope.names []) dV doc ((X.mg "__name__").getD .none) c' ctv), toks := tk } := I.kept fun b o e => Heap.get?_push_of_some _ (hx b o e)
    exact h h'.objs.size c' ((X.mg "__name__").getD .none) ctv doc H F _ I1 .refl S (Heap.get?_push_size _ rfl) (I.hok.fresh hsz) (nofr_of I hsz) hco fun b o n e => ⟨Heap.get?_push_of_some _ (hx b o e), n⟩
end

/-! ### the def that gets a lambda -/
structure Hlp (P : Program) (w : World) (K : PySem.W.Frag) (mg : Str → Option Value) (base : Heap) (k : Nat) (x : Str) (m : (Mem → OutF) → Mem → OutF) : Prop where
  ex : ∃ g : Addr, mg x = some (.ref g) ∧ PySem.W.keepIn K (.ref g) = true ∧
    ∀ (A : Around) (outer : List Env) (s : Shared) (H : Hp) (f : Addr) (Q : VK) (E : XK) (act : Mem → OutF) (Z F : Hp) (ρ : List Addr) (μ : Mem), RmG (k + 1) A → Env0 P w K mg base A outer s H → Sim K mg Z F ρ μ [] [] H → Act P w K mg base k outer f F ρ act s H →
      FinF K mg Z F ρ Q E (m act μ) → codeAny (model P w) A (.call (.ref g) ⟨[.ref f], []⟩) (CR (L2.CX P w) outer P w H s Q E) s
/-- the context of a def that makes lambdas -/
structure Cm (X : Cx) (W : WX) (k : Nat) (N : List Str) (sc : Scope) (q : Str) (P : Addr) : Prop extends Cd X W k N sc where
  tab : ∃ c, X.env.code = .ref c ∧ TabB X.base X.mg c P
  qual : X.env.qual ++ "<lambda>" = q
/-- x(lambda: body); the table is the memory's object j -/
def mLam (h : (Mem → OutF) → Mem → OutF) (j : Nat) (P : Addr) (q : Str) (m : ME) : ME := fun δ μ => match μ[j]? with
  | some (.tab P' q') => if P' = P ∧ q' = q then (match h (actOf m δ) μ with
    | .ok s μ' => .ok s δ μ'
    | .exc x μ' => .exc x δ μ'
    | .bad => .bad) else .bad
  | _ => .bad
section
variable {X : Cx} {W : WX} {k : Nat} {N : List Str} {sc : Scope} {q : Str} {P : Addr}
theorem lam_call {pins : List (Addr × Obj)} {σ : L2.St} {H Z F : Hp} {ρ : List Addr} {μ : Mem} {δ : FL.Loc} {s : Shared} {kh : Nat} {f c' : Addr} {params : Arguments} {body : Expr} {scope : Scope} {dV doc pm ctv : Value} {bs : List (Str × Value)} {h : (Mem → OutF) → Mem → OutF} {m : ME} {Q : VK} {g : Addr}
    (C : Cm X W k N sc q P) (hk : kh + 2 ≤ k) (hh : ∀ (A : Around) (outer : List Env) (s : Shared) (H : Hp) (f : Addr) (Q : VK) (E : XK) (act : Mem → OutF) (Z F : Hp) (ρ : List Addr) (μ : Mem), RmG (kh + 2) A → Env0 X.prog X.w X.K X.mg X.base A outer s H → Sim X.K X.mg Z F ρ μ [] [] H → Act X.prog X.w X.K X.mg X.base (kh + 1) outer f F ρ act s H →
      FinF X.K X.mg Z F ρ Q E (h act μ) → codeAny (model X.prog X.w) A (.call (.ref g) ⟨[.ref f], []⟩) (CR (L2.CX X.prog X.w) outer X.prog X.w H s Q E) s)
    (I : Inv X pins σ H s) (S : SimX X Z F ρ μ δ σ H) (L : LmS N sc scope)
    (hf : s.heap.get? f = some (PySem.W.kdv_obj "<lambda>" q params (.expr body) scope (cloFrom X.env.cells scope.names []) dV doc pm c' ctv)) (hfn : H f = none) (hfr : f ∉ frs X.stack) (hco : F c' = some (CodeO c' q))
    (hbind : ∀ s1 : Shared, (∀ b o, s.heap.get? b = some o → H b = none → b ∉ frs X.stack → s1.heap.get? b = some o) → BindsTo s1 (PySem.W.kdv_fn "<lambda>" q params (.expr body) scope (cloFrom X.env.cells scope.names []) dV doc pm (.ref c') ctv) ⟨[], []⟩ bs)
    (hloc : ∀ y ∈ bs, scope.names.lookup y.1 = some .local)
    (hbody : ∀ (Y : Cx) (V : WX), Y.prog = X.prog → Y.w = X.w → Y.K = X.K → Y.mg = X.mg → Y.base = X.base → Cs Y V kh N scope → JE Y V body m)
    (hq : FinE X W Z F ρ σ (fun s δ' _ F' ρ' H' => ∀ v, VR X.K X.mg Z F' ρ' δ' σ H' v s → Q v H') (match h (actOf m δ) μ with
      | .ok s μ' => .ok s δ μ'
      | .exc x μ' => .exc x δ μ'
      | .bad => .bad)) :
    wpAny (model X.prog X.w) X.A (call (.ref g) [.ref f]) (EP X pins σ Q) X.xe s := by
  have eN := C.hN
  have eS := C.hsc
  have act : Act X.prog X.w X.K X.mg X.base (kh + 1) X.stack f F ρ (actOf m δ) s H := act_ok I S (by rw [eN, eS]; exact L) (by rw [eN]; exact C.nd) C.qual hf hfn hfr hco (fun s1 _ kp => hbind s1 kp) hloc
    fun A outer s H E C2 => hbody _ _ rfl rfl rfl rfl rfl (by rw [eN] at C2; exact C2)
  have S0 := S.enter
  refine wpAny_call (codeAny_mono (hh X.A X.stack s H f Q (WE W σ) (actOf m δ) (zone Z H δ σ) F ρ μ (C.rm.mono hk) I.env0 S0 act ?_) fun res s' hr => ?_)
  · revert hq
    generalize h (actOf m δ) μ = o
    intro hq
    cases o with
    | ok sl μ2 => exact fun v H' F' ρ' l lr S' rv => hq H' F' ρ' (S.leLeave l) (S.leRLeave lr) (S.leave S' l lr) v (S.came rv)
    | exc x μ2 => exact fun c d H' F' ρ' l lr S' er => hq c d H' F' ρ' (S.leLeave l) (S.leRLeave lr) (S.leave S' l lr) er
    | bad => exact hq
  · cases res with
    | error e => exact passAt C.tk σ pins H s e s' I hr
    | ok fl =>
      cases fl with
      | ret u => exact I.after hr
      | next => exact False.elim hr
      | brk => exact False.elim hr
      | cont => exact False.elim hr
end
section
variable {X : Cx} {W : WX} {k : Nat} {N : List Str} {sc : Scope} {q : Str} {P : Addr} {j kh : Nat} {x : Str} {params : Arguments} {body : Expr} {scope : Scope} {lpos p pos : Pos} {h : (Mem → OutF) → Mem → OutF} {m : ME}
/-- x(lambda: body) -/
theorem Cm.lam0 (C : Cm X W k N sc q P) (hH : Hlp X.prog X.w X.K X.mg X.base (kh + 1) x h) (hk : kh + 2 ≤ k) (hg : glC sc x = true) (L : lmSB N sc scope = true)
    (hbody : ∀ (Y : Cx) (V : WX), Y.prog = X.prog → Y.w = X.w → Y.K = X.K → Y.mg = X.mg → Y.base = X.base → Cs Y V kh N scope → JE Y V body m)
    (hdef : defaultsOf params X.env = ([], []) := by rfl)
    (hbind : ∀ (q : Str) (cl : List (Str × Addr)) (doc pm cv ctv : Value), bindArgs (PySem.W.kdv_fn "<lambda>" q params (.expr body) scope cl .none doc pm cv ctv) ⟨[], []⟩ = pure [] := by intro _ _ _ _ _ _; rfl) :
    JE X W (.Call (.Name x p) [.Lambda params body scope lpos] [] pos) (mLam h j P q m) := by
  refine ⟨fun pins s σ H Q I hr => ?_⟩
  obtain ⟨Z, F, ρ, μ, δ, S, fin⟩ := hr
  obtain ⟨g, hm, hkp, hh⟩ := hH.ex
  obtain ⟨g1, g2, g3⟩ := C.gl hg
  obtain ⟨c, hcode, TB⟩ := C.tab
  have LS := lmS_by L
  have LX : LmS N X.env.scope scope := by rw [C.hsc]; exact LS
  unfold mLam at fin
  cases ej : μ[j]? with
  | none => simp only [ej] at fin; exact fin.elim
  | some o =>
    cases o with
    | lst _ => simp only [ej] at fin; exact fin.elim
    | dct _ _ => simp only [ej] at fin; exact fin.elim
    | ins _ _ _ _ => simp only [ej] at fin; exact fin.elim
    | idc _ => simp only [ej] at fin; exact fin.elim
    | tab P' q' =>
      simp only [ej] at fin
      by_cases hPq : P' = P ∧ q' = q
      · rw [if_pos hPq] at fin
        obtain ⟨rfl, rfl⟩ := hPq
        refine wpAny_Call_Name_kw (ld_glob I g1 hm ?_ g2)
        refine PySem.W.callWith_K (h₀ := X.base) I.ok.mod.kin hkp ?_ (by rfl) (by rfl)
        show wpAny _ _ (spliced ((false, eval (.Lambda params body scope lpos) X.env) :: backTo pos (starEach [] X.env))) _ _ s
        refine Calls.spliced_cons (PySem.W.kla_eval hdef ?_)
        rw [makeFunction_eq]
        simp only [List.zip_nil_right, List.filterMap_nil, List.isEmpty_nil, if_true, pure_bind]
        refine lam_tail I S ej TB hcode C.qual (fun y hy => LX.has I.ok y hy) fun f c' pm ctv doc H1 F1 s' I1 l S1 hf hfn hfr hco _ => ?_
        exact Calls.spliced_nil ⟨I1.kIn, lam_call C hk hh I1 S1 LS hf hfn hfr hco (fun s1 _ => .of_eq (hbind _ _ _ _ _ _)) (fun y hy => nomatch hy) hbody (fin.mono l .refl)⟩
      · rw [if_neg hPq] at fin
        exact fin.elim
/-- x(lambda y=i: body) -/
theorem Cm.lam1 {y : Str} {ap dp : Pos} {i : Int} {di : Nat} (C : Cm X W k N sc q P) (hH : Hlp X.prog X.w X.K X.mg X.base (kh + 1) x h) (hk : kh + 2 ≤ k) (hg : glC sc x = true) (L : lmSB N sc scope = true)
    (hbody : ∀ (Y : Cx) (V : WX), Y.prog = X.prog → Y.w = X.w → Y.K = X.K → Y.mg = X.mg → Y.base = X.base → Cs Y V kh N scope → JE Y V body m)
    (hy : scope.names.lookup y = some .local)
    (hbind : ∀ (q : Str) (cl : List (Str × Addr)) (T : Addr) (doc pm cv ctv v : Value), ∃ kk, bindArgs (PySem.W.kdv_fn "<lambda>" q ⟨[], [⟨y, none, ap⟩], none, [], [], none, [.Constant (.int i) di dp]⟩ (.expr body) scope cl (.ref T) doc pm cv ctv) ⟨[], []⟩ = seqItems? (.ref T) >>= kk ∧ kk (some #[v]) = pure [(y, v)] := by intro _ _ _ _ _ _ _ _; exact ⟨_, rfl, rfl⟩) :
    JE X W (.Call (.Name x p) [.Lambda ⟨[], [⟨y, none, ap⟩], none, [], [], none, [.Constant (.int i) di dp]⟩ body scope lpos] [] pos) (mLam h j P q m) := by
  refine ⟨fun pins s σ H Q I hr => ?_⟩
  obtain ⟨Z, F, ρ, μ, δ, S, fin⟩ := hr
  obtain ⟨g, hm, hkp, hh⟩ := hH.ex
  obtain ⟨g1, g2, g3⟩ := C.gl hg
  obtain ⟨c, hcode, TB⟩ := C.tab
  have LS := lmS_by L
  have LX : LmS N X.env.scope scope := by rw [C.hsc]; exact LS
  unfold mLam at fin
  cases ej : μ[j]? with
  | none => simp only [ej] at fin; exact fin.elim
  | some o =>
    cases o with
    | lst _ => simp only [ej] at fin; exact fin.elim
    | dct _ _ => simp only [ej] at fin; exact fin.elim
    | ins _ _ _ _ => simp only [ej] at fin; exact fin.elim
    | idc _ => simp only [ej] at fin; exact fin.elim
    | tab P' q' =>
      simp only [ej] at fin
      by_cases hPq : P' = P ∧ q' = q
      · rw [if_pos hPq] at fin
        obtain ⟨rfl, rfl⟩ := hPq
        refine wpAny_Call_Name_kw (ld_glob I g1 hm ?_ g2)
        refine PySem.W.callWith_K (h₀ := X.base) I.ok.mod.kin hkp ?_ (by rfl) (by rfl)
        show wpAny _ _ (spliced ((false, eval (.Lambda ⟨[], [⟨y, none, ap⟩], none, [], [], none, [.Constant (.int i) di dp]⟩ body scope lpos) X.env) :: backTo pos (starEach [] X.env))) _ _ s
        refine Calls.spliced_cons (PySem.W.kdv_lam rfl rfl ?_)
        refine PySem.W.kdv_all1 (wpAny_Constant_int (PySem.W.kdv_all0 ?_))
        rw [makeFunction_eq]
        simp only [List.zip_nil_right, List.filterMap_nil, List.isEmpty_nil, if_true, pure_bind]
        refine wpAny_bind (wpAny_newTextTuple ?_)
        obtain ⟨hp, gg, dd, tk, os⟩ := s
        have I0 : Inv X pins σ H ⟨hp.push { cls := .type "tuple", data := .seq #[.int i tk] }, gg, dd, tk + 1, os⟩ := I.kept (t' := tk + 1) fun b o e => Heap.get?_push_of_some _ e
        have nT : H hp.objs.size = none := I.hok.fresh (Nat.le_refl _)
        have fT : hp.objs.size ∉ frs X.stack := nofr_of I (Nat.le_refl _)
        refine lam_tail I0 S ej TB hcode C.qual (fun y hy => LX.has I.ok y hy) fun f c' pm ctv doc H1 F1 s' I1 l S1 hf hfn hfr hco keep => ?_
        obtain ⟨gT, nT1⟩ := keep hp.objs.size _ nT (Heap.get?_push_size hp rfl)
        refine Calls.spliced_nil ⟨I1.kIn, lam_call (bs := [(y, .int i tk)]) C hk hh I1 S1 LS hf hfn hfr hco (fun s1 kp => ?_) (fun z hz => ?_) hbody (fin.mono l .refl)⟩
        · obtain ⟨kk, e1, e2⟩ := hbind q' (cloFrom X.env.cells scope.names []) hp.objs.size doc pm (.ref c') ctv (.int i tk)
          exact .of_defaults rfl (kp _ _ gT nT1 fT) rfl e1 e2
        · rcases List.mem_cons.mp hz with rfl | hz
          · exact hy
          · cases hz
      · rw [if_neg hPq] at fin
        exact fin.elim
end
/-! ### caught = None / try: a() / except C as err: caught = err / .. -/
section
variable {K : PySem.W.Frag} {mg : Str → Option Value} {Z F F1 : Hp} {ρ ρ1 : List Addr} {μ : Mem} {δ : FL.Loc} {σ : L2.St} {H : Hp} {Q : VK} {E : XK}
theorem FinF.mono {r : OutF} (h : FinF K mg Z F ρ Q E r) (l : Le Z F F1) (lr : LeR Z ρ ρ1) : FinF K mg Z F1 ρ1 Q E r := by
  cases r with
  | ok s μ => exact fun v H' F' ρ' l' lr' S rv => h v H' F' ρ' (l.trans l') (lr.trans lr') S rv
  | exc x μ => exact fun c d H' F' ρ' l' lr' S er => h c d H' F' ρ' (l.trans l') (lr.trans lr') S er
  | bad => exact h
theorem fin_S {X : Cx} {W : WX} {r : OutS} (hW : ∀ c d σ' H', E c d H' → W c d σ' H') (h : FinF X.K X.mg Z F ρ Q E r.fin) : FinS X W Z F ρ { nx := fun _ H' => Q .non H', rt := Q } r := by
  cases r with
  | nx δ μ' => exact fun σ' H' F' ρ' l lr S' => h .non H' F' ρ' l lr S'.drop .non
  | rt s μ' => exact fun v H' F' ρ' l lr S' rv => h v H' F' ρ' l lr S' rv
  | bk δ μ' => exact h.elim
  | ct δ μ' => exact h.elim
  | exc x δ μ' => exact fun c d σ' H' F' ρ' l lr S' er => hW _ _ _ _ (h c d H' F' ρ' l lr S'.drop er)
  | bad => exact h
/-- slots of plain data -/
theorem Sim.frs (S : Sim K mg Z F ρ μ [] [] H) (hl : σ.length = δ.length) (h : ∀ (i : Nat) s, δ[i]? = some (some s) → ∃ d v, s = .fr d ∧ σ[i]? = some (some v) ∧ Rep K mg F ρ v d) : Sim K mg Z F ρ μ δ σ H := by
  refine ⟨S.le, S.zk, hl, fun i s e => ?_, fun i j p s s' e => ?_, S.mem, S.mlen, S.nod⟩
  · obtain ⟨d, v, rfl, ev, r⟩ := h i s e
    exact ⟨v, ev, r⟩
  · obtain ⟨d, v, z, _⟩ := h i _ e
    cases z
end
def mHelp (sub : String → Option Bool) (rest : MS) : (Mem → OutF) → Mem → OutF := fun act μ => match act μ with
  | .ok _ μ' => (rest [some (.fr .unk), some (.fr .non), none] μ').fin
  | .exc x μ' => match sub x.cls with
    | some true => (rest [some (.fr .unk), some (.fr .unk), none] μ').fin
    | some false => .exc x μ'
    | none => .bad
  | .bad => .bad
abbrev hlpB (a caught err ec : Str) (jn : Nat) (q : Nat → Pos) (rest : List Stmt) : List Stmt :=
  .Assign [.Name caught (q 0)] (.Constant .none jn (q 1)) (q 2) :: .Try [.Expr (.Call (.Name a (q 3)) [] [] (q 4)) (q 5)] [.ExceptHandler (some (.Name ec (q 6))) (some err) [.Assign [.Name caught (q 7)] (.Name err (q 8)) (q 9)] (q 10)] [] [] (q 11) :: rest
/-- the classes that an except clause catches, among the known ones -/
def Subs (K : PySem.W.Frag) (mg : Str → Option Value) (CS : Addr) (sub : String → Option Bool) : Prop := ∀ c C b, sub c = some b → mg (Str.ofString c) = some (.ref C) → PySem.W.exmOne K (.ref C) (.ref CS) = some b
section
variable {P : Program} {w : World} {K : PySem.W.Frag} {mg : Str → Option Value} {base : Heap} {k : Nat} {g : Addr} {x a caught err ec : Str} {jn : Nat} {q : Nat → Pos} {st : Stmt} {fd : FuncData} {rest : List Stmt} {sc : Scope} {m : MS} {sub : String → Option Bool} {CS : Addr}
theorem hlp_of (Fz : Fd K x x st g fd .none) (S : FnScope [a, caught, err] [a] sc) (hsc : defScope st = sc) (hB : defBody st = hlpB a caught err ec jn q rest) (hm : mg x = some (.ref g)) (hkp : PySem.W.keepIn K (.ref g) = true) (hbd : Binds K fd [a] [])
    (he : glC sc ec = true) (hec : mg ec = some (.ref CS)) (hsub : Subs K mg CS sub) (v0 : varC [a, caught, err] sc 0 a = true) (l1 : locC [a, caught, err] sc 1 caught = true) (v2 : varC [a, caught, err] sc 2 err = true) (k2 : sc.names.lookup err = some .local)
    (hrest : ∀ (X : Cx) (W : WX), X.prog = P → X.w = w → X.K = K → X.mg = mg → X.base = base → Cd X W (k + 1) [a, caught, err] sc → JSs X W rest m) : Hlp P w K mg base (k + 1) x (mHelp sub m) := by
  subst hsc
  refine ⟨g, hm, hkp, fun A outer s H f Q E act Z F ρ μ hr e0 S0 hact fin => ?_⟩
  obtain ⟨oc, od, kV, doc, pm, an, cdv, ct, osl, rfl, lk, hcd⟩ := Fz.ex
  have inK : K.In s.heap := e0.mod.kin.keeps fun b o e => (e0.bs b o e).1
  have lim : s.heap.NoLimit := e0.mod.nolimit.keeps fun b o e => (e0.bs b o e).1
  have hb := hbd s [.ref f] inK rfl
  refine codeAny_call_function hr.r.depth (inK _ _ lk) rfl S.co S.gen rfl (PySem.W.codeRec_of inK hcd) (hb _ _ _ _ ?_)
  refine wpAny_newFunctionEnv_cells S.kind (fun ⟨n, u⟩ hy => ?_) fun env eenv s1 xx => ?_
  · rcases S.par n (List.of_mem_zip hy).1 with z | z
    · exact Or.inl z
    · exact Or.inr ⟨z, PySem.W.cellsFrom_some _ _ _ (Or.inl z)⟩
  subst eenv
  refine ⟨lim.keeps xx.toInCall.keep, codeAny_func ?_⟩
  have rv : Vals [V.ref f] [Value.ref f] := .cons rfl .nil
  generalize hX : cxOf (L2.CX P w) P w K mg base [a, caught, err] x (defScope st) g cdv A outer s H E = X
  have I : Inv X [] (L2.start [a, caught, err] [.ref f]) H s1 := by
    subst hX
    exact inv_start S hr.r.hd e0 rfl rv xx
  have C : Cd X (lamW E) (k + 1) [a, caught, err] (defScope st) := by
    subst hX
    exact ⟨⟨rfl, hr.deeper _, takes_of rfl rfl rfl rfl, rfl, rfl, S.nd⟩, passes_of rfl, fun _ _ => rfl⟩
  have xP : X.prog = P := by subst hX; rfl
  have xw : X.w = w := by subst hX; rfl
  have xK : X.K = K := by subst hX; rfl
  have xm : X.mg = mg := by subst hX; rfl
  have xb : X.base = base := by subst hX; rfl
  have xs : X.stack = X.env :: X.outer := by subst hX; rfl
  have xf : X.env.frame = some X.env.locals := by subst hX; rfl
  have xH : X.H_0 = H := by subst hX; rfl
  have xS : X.s_0 = s := by subst hX; rfl
  have xo : X.outer = outer := by subst hX; rfl
  have xx' : X.ex = [] := by subst hX; rfl
  have xA : X.A = A.deeper (envOfC x (defScope st) s.heap.objs.size g cdv) := by subst hX; rfl
  have xE : X.env = envOfC x (defScope st) s.heap.objs.size g cdv := by subst hX; rfl
  have xX : X.xe = fun e s' => wpAny (model P w) (A.deeper (envOfC x (defScope st) s.heap.objs.size g cdv)) (leaving (envOfC x (defScope st) s.heap.objs.size g cdv) e) (fun _ s'' => L2.CX P w outer H s E e s'') (fun e' s'' => L2.CX P w outer H s E e' s'') s' := by subst hX; rfl
  have hJ := hrest X (lamW E) xP xw xK xm xb C
  subst xP xw xK xm xb
  -- the act, called
  have hcall : ∀ (W : WX) (pn : List (Addr × Obj)) (xe : Value → Shared → Prop), Takes (X.tr pn xe) W → PassesOwn (model X.prog X.w) X.A X.env xe →
      PSs (X.tr pn xe) [.Expr (.Call (.Name a (q 3)) [] [] (q 4)) (q 5)] (fun D σ H1 => σ[0]? = some (some (.ref f)) ∧ H1 = H ∧ FinF X.K X.mg Z F ρ (fun v H' => D.nx σ H') (fun c d H' => W c d σ H') (act μ)) := fun W pn xe tk _ => by
    have hp : PE (X.tr pn xe) (.Call (.Name a (q 3)) [] [] (q 4)) (fun σ H1 Q => σ[0]? = some (some (.ref f)) ∧ H1 = H ∧ FinF X.K X.mg Z F ρ (fun v H' => Q v H') (fun c d H' => W c d σ H') (act μ)) := by
      refine ⟨fun pins s' σ H1 Q' I' hh => ?_⟩
      obtain ⟨h0, rfl, hfin⟩ := hh
      have pv : PE (X.tr pn xe) (.Name a (q 3)) (tVar 0) := by
        unfold varC at v0
        simp only [Bool.and_eq_true, Bool.not_eq_true', decide_eq_true_eq, Bool.or_eq_true] at v0
        obtain ⟨⟨⟨z1, z2⟩, z3⟩, z4⟩ := v0
        refine pe_var (by show X.N[0]? = some a; rw [C.hN]; exact z1) ?_ z3 z4
        show X.env.scope.names.lookup a = _ ∨ X.env.scope.names.lookup a = _ ∨ X.env.scope.names.lookup a = _
        rw [C.hsc]
        exact z2
      refine wpAny_Call_Name_kw (thn (pv.run pins s' σ H1 (fun v H2 => v = .ref f ∧ H2 = H1) I' ⟨.ref f, h0, rfl, rfl⟩) fun u s2 ⟨v, H2, I2, r2, q2⟩ => ?_)
      obtain ⟨ev, eH⟩ := q2
      subst ev
      rw [eH] at I2
      obtain rfl : u = Value.ref f := r2
      obtain ⟨⟨oc2, od2, fd2, osl2, of0⟩, nf, ff⟩ := hact.at_
      have un : Un (frs outer) [] H1 H1 s.heap s2.heap := by
        have z : Un X.fs X.ex X.H_0 H1 X.s_0.heap s2.heap := I2.base
        rw [xH, xS, xx'] at z
        rw [← xo]
        exact z
      have of2 := un.keep f _ of0 nf ff (by simp)
      refine PySem.W.callWith_F0 ⟨_, _, _, _, of2⟩ ?_
      refine wpAny_call (codeAny_mono (hact.run X.A X.stack s2 H1 Q' (WE W σ) Z F ρ μ C.rm I2.env0 un (fun _ _ z => z) (fun _ _ z => z) S0 hfin) fun res s3 hr3 => ?_)
      cases res with
      | error e => exact passAt tk σ pins H1 s2 e s3 I2 hr3
      | ok fl =>
        cases fl with
        | ret u => exact I2.after hr3
        | next => exact False.elim hr3
        | brk => exact False.elim hr3
        | cont => exact False.elim hr3
    exact (pss_one (ps_expr hp)).imp fun D σ H1 h => h
  have loc1 := C.loc l1
  have hset : ∀ e te (pc : Pos), PE X e te → swapsWith e (some (.Name caught (q 0))) (q 2).line X.env = pure false → PS X (.Assign [.Name caught (q 0)] e (q 2)) (tAsg te (gName 1)) := fun e te _ he hs => ps_set loc1.1 loc1.2.1 loc1.2.2 he hs (.inl (C.fn caught loc1.2.2))
  have first := hset (.Constant .none jn (q 1)) (tC .non) (q 2) pe_non rfl
  have nerr : X.N[2]? = some err := by
    rw [C.hN]
    rfl
  have kerr : X.env.kindOf err = some .local := by
    show X.env.scope.names.lookup err = some .local
    rw [C.hsc]
    exact k2
  obtain ⟨g1, g2, g3⟩ := C.gl he
  have tr := ps_try_as (pos := q 11) (pos' := q 10) (np := q 6) (Wout := lamW E) (c := .ref CS) (i := 2) (ts := fun a _ _ => tAsg (tVar 2) (gName 1)) xs xf (by rw [C.hN]; exact S.nd) nerr kerr ⟨g1, g2, .inl hec⟩ C.tk hcall (fun b oe cls d pn _ _ => by
    have nd : (X.suite b ((b, oe) :: pn)).N.Nodup := loc1.1
    have pv : PE (X.suite b ((b, oe) :: pn)) (.Name err (q 8)) (tVar 2) := by
      unfold varC at v2
      simp only [Bool.and_eq_true, Bool.not_eq_true', decide_eq_true_eq, Bool.or_eq_true] at v2
      obtain ⟨⟨⟨z1, z2⟩, z3⟩, z4⟩ := v2
      refine pe_var nerr ?_ z3 z4
      show X.env.scope.names.lookup err = _ ∨ X.env.scope.names.lookup err = _ ∨ X.env.scope.names.lookup err = _
      rw [C.hsc]
      exact z2
    exact pss_one (ps_set (pos' := q 7) (pos := q 9) nd loc1.2.1 loc1.2.2 pv rfl (.inl (C.fn caught loc1.2.2))))
  have all := pss_cons first (pss_cons tr hJ)
  have hq := all.run [] s1 _ H { nx := fun _ H' => Q .non H', rt := Q } I ?_
  · rw [xA, xE, xX] at hq
    have out : ∀ {σ' : L2.St} {H' : Hp} {s' : Shared}, Inv X [] σ' H' s' → s'.os = s.os ∧ Un (frs outer) [] H H' s.heap s'.heap := fun {σ' H' s'} J => by
      have z : Un X.fs X.ex X.H_0 H' X.s_0.heap s'.heap := J.base
      rw [xH, xS, xx'] at z
      have y : s'.os = X.s_0.os := J.os
      rw [xS] at y
      rw [← xo]
      exact ⟨y, z⟩
    have hq2 : wpAny (model X.prog X.w) (A.deeper (envOfC x (defScope st) s.heap.objs.size g cdv)) (execs (defBody st) (envOfC x (defScope st) s.heap.objs.size g cdv)) (SP X [] { nx := fun _ H' => Q .non H', rt := Q }) (fun e s' => wpAny (model X.prog X.w) (A.deeper (envOfC x (defScope st) s.heap.objs.size g cdv)) (leaving (envOfC x (defScope st) s.heap.objs.size g cdv) e) (fun _ s'' => L2.CX X.prog X.w outer H s E e s'') (fun e' s'' => L2.CX X.prog X.w outer H s E e' s'') s') s1 := by
      rw [hB]
      exact hq
    refine wpAny_mono hq2 (fun fl s' hs => ?_) fun e s' hs => hs
    cases fl with
    | ret u =>
      obtain ⟨v, σ', H', J, rv, q⟩ := hs
      exact ⟨v, H', (out J).1, J.bare, (out J).2, J.hok, rv, q⟩
    | next =>
      obtain ⟨σ', H', J, q⟩ := hs
      exact ⟨.non, H', (out J).1, J.bare, (out J).2, J.hok, rfl, q⟩
    | brk =>
      obtain ⟨_, _, _, z⟩ := hs
      exact z.elim
    | cont =>
      obtain ⟨_, _, _, z⟩ := hs
      exact z.elim
  · show tAsg (tC .non) (gName 1) _ _ _
    refine ⟨rfl, rfl, ?_⟩
    unfold mHelp at fin
    cases ea : act μ with
    | bad => rw [ea] at fin; exact fin.elim
    | ok sl μ' =>
      rw [ea] at fin
      intro v H' F' ρ' l lr S' rvv
      refine ⟨Z, F', ρ', μ', _, S'.frs rfl (fun i s e => ?_), fin_S (fun _ _ _ _ z => z) (fin.mono l lr)⟩
      match i, e with
      | 0, e => cases e; exact ⟨_, .ref f, rfl, rfl, .unk⟩
      | 1, e => cases e; exact ⟨_, .non, rfl, rfl, .non⟩
      | 2, e => cases e
      | i + 3, e => cases e
    | exc xx μ' =>
      rw [ea] at fin
      intro c d H' F' ρ' l lr S' er
      obtain ⟨Cc, dx, vv, rfl, rfl, h3, h4⟩ := id er
      cases es : sub xx.cls with
      | none => simp only [es] at fin; exact fin.elim
      | some b =>
        refine ⟨b, hsub _ _ _ es h3, fun hb1 a' ha' => ?_, fun hb0 => ?_⟩
        · subst hb1
          simp only [es] at fin
          refine ⟨.ref a', rfl, ?_⟩
          refine ⟨Z, F', ρ', μ', _, S'.frs rfl (fun i s e => ?_), fin_S (fun _ _ _ _ z => z) (fin.mono l lr)⟩
          match i, e with
          | 0, e => cases e; exact ⟨_, .ref f, rfl, rfl, .unk⟩
          | 1, e => cases e; exact ⟨_, .ref a', rfl, rfl, .unk⟩
          | 2, e => cases e
          | i + 3, e => cases e
        · subst hb0
          simp only [es] at fin
          exact fin _ _ _ _ _ l lr S' er
end
/-! ### a def that makes lambdas -/
structure FdL (K : PySem.W.Frag) (x qual : Str) (st : Stmt) (f : Addr) (fd : FuncData) (dV : Value) (c : Addr) : Prop where
  ex : ∃ (oc : Value) (od : Option Addr) (kV doc pm : Value) (an : Option Addr) (ct : Value) (osl : Array (Option Value)),
    fd = PySem.W.fnOf x qual (defArgs st) (defBody st) (defScope st) dV kV doc pm an (.ref c) ct ∧ K.lookup f = some { cls := oc, dict := od, data := .func fd, slots := osl } ∧ PySem.W.codeIn K (.ref c) qual = true
theorem FdL.fd {K : PySem.W.Frag} {x qual : Str} {st : Stmt} {f : Addr} {fd : FuncData} {dV : Value} {c : Addr} (F : FdL K x qual st f fd dV c) : Fd K x qual st f fd dV :=
  let ⟨oc, od, kV, doc, pm, an, ct, osl, h1, h2, h3⟩ := F.ex
  ⟨oc, od, kV, doc, pm, an, .ref c, ct, osl, h1, h2, h3⟩
theorem fnG_l {P : Program} {w : World} {K : PySem.W.Frag} {mg : Str → Option Value} {base : Heap} {k n : Nat} {f c Pt : Addr} {x qual q : Str} {st : Stmt} {fd : FuncData} {N ps : List Str} {m : MS} {dV : Value} {sc : Scope} (Fz : FdL K x qual st f fd dV c) (TB : TabB base mg c Pt) (S : FnScope N ps sc) (hsc : defScope st = sc) (hn : ps.length = n)
    (hq : ∀ (L : Addr), (envOfC qual sc L f (.ref c)).qual ++ "<lambda>" = q)
    (hbody : ∀ (X : Cx) (W : WX), X.prog = P → X.w = w → X.K = K → X.mg = mg → X.base = base → Cm X W k N sc q Pt → JSs X W (defBody st) m) : FnG P w K mg base (L2.CX P w) (k + 1) f fd ps (spM K mg (mFn N.length m) n) := by
  subst hsc
  subst hn
  obtain ⟨oc, od, kV, doc, pm, an, ct, osl, rfl, lk, hcd⟩ := Fz.ex
  refine ⟨fun vs H Q E h => h.1, fun A outer s H args us vs Q E hr e0 hb r hsp => ?_⟩
  obtain ⟨hl, Z, F0, ρ, μ, ds, S0, rr, fin⟩ := hsp
  have inK : K.In s.heap := e0.mod.kin.keeps fun b o e => (e0.bs b o e).1
  have lim : s.heap.NoLimit := e0.mod.nolimit.keeps fun b o e => (e0.bs b o e).1
  refine codeAny_call_function hr.r.depth (inK _ _ lk) rfl S.co S.gen rfl (PySem.W.codeRec_of inK hcd) (hb _ _ _ _ ?_)
  refine wpAny_newFunctionEnv_cells S.kind (fun ⟨y, u⟩ hy => ?_) fun env eenv s1 xx => ?_
  · rcases S.par y (List.of_mem_zip hy).1 with z | z
    · exact Or.inl z
    · exact Or.inr ⟨z, PySem.W.cellsFrom_some _ _ _ (Or.inl z)⟩
  subst eenv
  refine ⟨lim.keeps xx.toInCall.keep, codeAny_func ?_⟩
  have ht := hbody (cxOf (L2.CX P w) P w K mg base N qual (defScope st) f (.ref c) A outer s H E) (lamW E) rfl rfl rfl rfl rfl ⟨⟨⟨rfl, hr.deeper _, takes_of rfl rfl rfl rfl, rfl, rfl, S.nd⟩, passes_of rfl, fun _ _ => rfl⟩, ⟨c, rfl, TB⟩, hq _⟩
  have I : Inv (cxOf (L2.CX P w) P w K mg base N qual (defScope st) f (.ref c) A outer s H E) [] (L2.start N vs) H s1 := inv_start S hr.r.hd e0 hl r xx
  refine wpAny_mono (ht.run [] s1 (L2.start N vs) H { nx := fun _ H' => Q .non H', rt := Q } I ⟨Z, F0, ρ, μ, _, S0.begin rr, fin_S (fun _ _ _ _ z => z) (mFn_eq ▸ fin)⟩) (fun fl s' hs => ?_) fun e s' hs => hs
  cases fl with
  | ret u =>
    obtain ⟨v, σ', H', J, rv, q⟩ := hs
    exact ⟨v, H', J.os, J.bare, J.base, J.hok, rv, q⟩
  | next =>
    obtain ⟨σ', H', J, q⟩ := hs
    exact ⟨.non, H', J.os, J.bare, J.base, J.hok, rfl, q⟩
  | brk =>
    obtain ⟨_, _, _, z⟩ := hs
    exact z.elim
  | cont =>
    obtain ⟨_, _, _, z⟩ := hs
    exact z.elim
/-- what a lambda's body needs, told of the lambda's context -/
theorem Cm.body {X : Cx} {W : WX} {k kh : Nat} {N : List Str} {sc scope : Scope} {q : Str} {P : Addr} {Tx : Program → World → PySem.W.Frag → (Str → Option Value) → Heap → Prop} {body : Expr} {m : ME} (C : Cm X W k N sc q P) (T : Tx X.prog X.w X.K X.mg X.base)
    (h : ∀ (Y : Cx) (V : WX), Tx Y.prog Y.w Y.K Y.mg Y.base → Cs Y V kh N scope → JE Y V body m) :
    ∀ (Y : Cx) (V : WX), Y.prog = X.prog → Y.w = X.w → Y.K = X.K → Y.mg = X.mg → Y.base = X.base → Cs Y V kh N scope → JE Y V body m := fun Y V e1 e2 e3 e4 e5 c => h Y V (by rw [e1, e2, e3, e4, e5]; exact T) c
/-- {} -/
def mDct0 : ME := fun δ μ => .ok (.own (.dct [] [])) δ μ
theorem je_dict0 {X : Cx} {W : WX} {pos : Pos} : JE X W (.Dict [] [] pos) mDct0 := by
  refine pe_dnewK.imp fun σ H Q ⟨Z, F, ρ, μ, δ, S, q⟩ p hp => ?_
  obtain ⟨n1, n2, n3, n4⟩ := S.notIn hp
  exact q _ F ρ .refl .refl (S.laid hp) _ ⟨⟨p, rfl, ⟨n1, n2, n3⟩, [], upd_same, rfl, .nil⟩, fun o p' z z2 => by cases z2; exact n4⟩
/-! ### a, b, c = x, y, z -/
def mPar3 (i j l : Nat) (ms : List ME) : MS := fun δ μ => (evA ms δ μ).thn fun ds δ1 μ1 => match ds with
  | [a, b, c] => .nx (((δ1.set i (some (.fr a))).set j (some (.fr b))).set l (some (.fr c))) μ1
  | _ => .bad
theorem Cs.par3 {X : Cx} {W : WX} {k : Nat} {N : List Str} {sc : Scope} {i j l : Nat} {x y z : Str} {a b c : Expr} {ms : List ME} {px py pz pt pos : Pos} {kt k2 pt2} (C : Cs X W k N sc) (hi : ownC N sc i x = true) (hj : ownC N sc j y = true) (hl : ownC N sc l z = true) (hij : i ≠ j) (hil : i ≠ l) (hjl : j ≠ l) (ha : JA X W [a, b, c] ms)
    (hw : ∀ env : Env, env.scope = sc → swappedStores [.Tuple [.Name x px, .Name y py, .Name z pz] kt pt] (.Tuple [a, b, c] k2 pt2) env = pure (some [x, y, z]))
    (hs : swapsWithSole [.Tuple [.Name x px, .Name y py, .Name z pz] kt pt] (.Tuple [a, b, c] k2 pt2) pos.line X.env = pure false := by rfl) :
    JS X W (.Assign [.Tuple [.Name x px, .Name y py, .Name z pz] kt pt] (.Tuple [a, b, c] k2 pt2) pos) (mPar3 i j l ms) := by
  obtain ⟨n, i1, i2⟩ := C.own hi
  obtain ⟨_, j1, j2⟩ := C.own hj
  obtain ⟨_, l1, l2⟩ := C.own hl
  refine (ps_par3 C.calm n i1 j1 l1 hij hil hjl i2 j2 l2 ha (hw X.env C.hsc) hs).imp fun Z0 σ H ⟨Z, F, ρ, μ, δ, S, q⟩ => ⟨Z, F, ρ, μ, δ, S, (FinS.thn q).imp fun ds δ1 μ1 H1 F1 ρ1 le lr S1 ⟨_, p⟩ vs hv => ?_⟩
  match ds, hv, p with
  | [], _, p => exact p.elim
  | [_], _, p => exact p.elim
  | [_, _], _, p => exact p.elim
  | [d1, d2, d3], .cons r1 (.cons r2 (.cons r3 .nil)), p =>
    have no : ∀ {d : D} {v : V} {δ : FL.Loc} {σ : L2.St}, Rep X.K X.mg F1 ρ1 v d → VR X.K X.mg Z F1 ρ1 δ σ H1 v (.fr d) := fun r => ⟨r, fun o p z => by cases z⟩
    exact ⟨_, _, _, rfl, p.nx (((S1.put (no r1)).put (no r2)).put (no r3))⟩
  | _ :: _ :: _ :: _ :: _, _, p => exact p.elim
end FL

/-! Part M: exceptions that are kept behind their handler; isinstance of them; split(), range with a step. -/
namespace FL
open PySem PySem.Spec PyProof.Rows L2 LamX

/-! ### an exception, kept -/
section
variable {X : Cx} {pins : List (Addr × Obj)} {σ : L2.St} {H : Hp} {s sI : Shared}
theorem errO_ok {P : Program} {w : World} {a : Addr} {cls : Value} {d : Option Addr} {oe : Obj} {vs : Array Value} {h : Heap} {H' : Hp} (he : h.get? a = some oe) (h1 : oe.cls = cls) (h2 : oe.dict = d) (h3 : oe.data = .fields vs) : ObjOk P w H' h a (ErrO a cls d) :=
  ⟨⟨oe, vs, he, h1, h2, h3⟩, ⟨oe, he⟩, fun g1 g2 ⟨o, ws, x1, x2, x3, x4⟩ st => ⟨o, ws, st _ x1, x2, x3, x4⟩⟩
theorem track {a : Addr} {cls : Value} {d : Option Addr} {oe : Obj} {vs : Array Value} (J : Inv X pins σ H s) (na : H a = none) (he : s.heap.get? a = some oe) (h1 : oe.cls = cls) (h2 : oe.dict = d) (h3 : oe.data = .fields vs) (n0 : X.s_0.heap.get? a = none) (nL : a ≠ X.env.locals)
    (np : ∀ p ∈ X.pn ++ pins, p.1 ≠ a) : Inv X pins σ (upd H a (ErrO a cls d)) s := by
  have off : ∀ b, b ≠ a → upd H a (ErrO a cls d) b = H b := fun b z => upd_ne z
  have had : ∀ {b o}, H b = some o → b ≠ a := fun {b o} q z => by
    rw [z, na] at q
    cases q
  have h0 : ∀ {b o}, X.s_0.heap.get? b = some o → b ≠ a := fun {b o} q z => by
    rw [z, n0] at q
    cases q
  refine ⟨J.ok, J.os, J.bare, ⟨J.base.keep, J.base.slot, fun b o e n hx => ?_, J.base.there, fun b xs e => ?_, fun b o u e => ?_, fun b ps e => ?_⟩, J.loc, J.cell, ?_, fun y c e => ?_, fun p hp => ?_, fun b o e => ?_, J.len⟩
  · rw [off b (h0 e)]
    exact J.base.free b o e n hx
  · have z := J.base.tups b xs e
    rw [off b (had z)]
    exact z
  · have z := J.base.frzs b o u e
    rw [off b (had z)]
    exact z
  · obtain ⟨more, z⟩ := J.base.tbls b ps e
    exact ⟨more, by rw [off b (had z)]; exact z⟩
  · rw [off _ (Ne.symm nL)]
    exact J.free
  · have ne : c ≠ a := fun z => by
      obtain ⟨v, o, q1, q2⟩ := J.cell y c e
      rw [z, he] at q1
      cases q1
      rw [h3] at q2
      cases q2
    rw [off c ne]
    exact J.freeC y c e
  · obtain ⟨q1, q2, q3⟩ := J.pin p hp
    exact ⟨q1, by rw [off _ (np p hp)]; exact q2, q3⟩
  · by_cases z : b = a
    · rw [z, upd_same] at e
      cases e
      rw [z]
      exact errO_ok he h1 h2 h3
    · rw [off b z] at e
      refine (J.hok b o e).stay (fun c v _ q => q) (fun c q => ?_) fun c xs q => ?_
      · rw [off c (had q)]
        exact q
      · rw [off c (had q)]
        exact q
end
/-- what 'except C as n: k = n' wishes of an exception of the body: slot i is n's, slot j is k's -/
def wX (K : PySem.W.Frag) (c : Value) (i j : Nat) (Wout : WX) (D : Ends) : WX := fun cls d σ H =>
  ∃ b, PySem.W.exmOne K cls c = some b ∧ (b = true → ∀ a, H a = none → D.nx (((σ.set i (some (.ref a))).set j (some (.ref a))).set i none) (upd H a (ErrO a cls d))) ∧ (b = false → Wout cls d σ H)
section
variable {X : Cx} {x n k : Str} {c : Value} {i j : Nat} {body : List Stmt} {np pos pos' q7 q8 q9 : Pos} {tb : WX → TS} {Wout : WX}
theorem ps_try_x (hs : X.stack = X.env :: X.outer) (hf : X.env.frame = some X.env.locals) (hex : X.ex = []) (hN : X.N.Nodup) (hi : X.N[i]? = some n) (hln : X.env.kindOf n = some .local) (hj : X.N[j]? = some k) (hlk : L2.Loc X.env.scope k) (hfk : X.fn k = true) (hij : i < X.N.length)
    (nd : (n == ("__debug__" : Str)) = false) (ncd : (n == ("__classdict__" : Str)) = false) (hc : Names X x c) (tk : Takes X Wout)
    (hb : ∀ (W : WX) (pn : List (Addr × Obj)) (xe : Value → Shared → Prop), Takes (X.tr pn xe) W → PassesOwn (model X.prog X.w) X.A X.env xe → PSs (X.tr pn xe) body (tb W)) :
    PS X (.Try body [.ExceptHandler (some (.Name x np)) (some n) [.Assign [.Name k q7] (.Name n q8) q9] pos'] [] [] pos) (fun D σ H => tb (wX X.K c i j Wout D) D σ H) := by
  refine ⟨fun pins s σ H D I0 want => ?_⟩
  have ok := I0.ok
  have frs1 : X.A.frames = some (X.env :: X.outer) := by rw [ok.frames, hs]
  have ln : L2.Loc X.env.scope n := .inl hln
  refine wpAny_Try_except (wpAny_mono ((hb (wX X.K c i j Wout D) (X.pn ++ pins) (fun e s₁ => wpAny (model X.prog X.w) X.A (noteFrame e X.env) (fun _ s₂ => wpAny (model X.prog X.w) X.A (setFlight e none) (fun _ s₃ =>
    wpAny (model X.prog X.w) X.A (handleBy e X.env [.ExceptHandler (some (.Name x np)) (some n) [.Assign [.Name k q7] (.Name n q8) q9] pos']) (SP X pins D) X.xe s₃) X.xe s₂) X.xe s₁) (fun u s' xx => ?_) PassesOwn.looking).run [] s σ H D (I0.toTry _) want) (fun f s1 hsp => ?_) (fun e s1 he => he))
  · obtain ⟨a, B, sI, pz, σ', H', cls, d, rfl, Jt, nb, up, sky, na, os, ag, b, hb1, yes, no⟩ := xx
    have J : Inv X pins σ' H' sI := Jt.ofTry ok
    have sk : Sky B (X.env :: X.outer) a (Zc cls d) X.env.locals s'.heap := by
      rw [← hs]
      exact sky
    show wpAny (model X.prog X.w) X.A (noteFrame (.ref a) X.env) _ _ _
    refine Sky.land Zc.steady frs1 hf sk fun g3 f3 u3 => ?_
    have J3 : Inv X pins σ' H' { s' with heap := g3 } := J.landed nb f3.1 (up.trans u3) os ag
    obtain ⟨o3, w3, e3, z3, d3⟩ := f3.there
    have away : a ∉ frs (X.env :: X.outer) := fun hm => by
      obtain ⟨_, o', e', hnf⟩ := f3.2.2.1.mem hm
      rw [e3] at e'
      cases e'
      exact hnf _ d3
    have nL : a ≠ X.env.locals := fun z => away (List.mem_filterMap.mpr ⟨X.env, List.mem_cons_self, by rw [hf, z]⟩)
    have nF : a ∉ X.fs := fun hm => by
      obtain ⟨e, he, q⟩ := List.mem_filterMap.mp hm
      exact away (List.mem_filterMap.mpr ⟨e, List.mem_cons_of_mem _ he, q⟩)
    have newI : sI.heap.get? a = none := by
      cases q : sI.heap.get? a with
      | none => rfl
      | some o =>
        have z := nb a o q (by rw [hs]; exact away)
        have z2 : B.get? a = none := f3.2.1
        rw [z2] at z
        cases z
    have new0 : X.s_0.heap.get? a = none := by
      cases q : X.s_0.heap.get? a with
      | none => rfl
      | some o =>
        obtain ⟨o', z⟩ := J.base.there a o q (by rw [hex]; simp)
        rw [newI] at z
        cases z
    have npin : ∀ p ∈ X.pn ++ pins, p.1 ≠ a := fun p hp z => by
      have y := (J.pin p hp).1
      rw [z, newI] at y
      cases y
    have S3 := J3.suite e3 d3 na nL nF
    refine wpAny_handleBy_cons (codeAny_handlers_test ?_) (by intro q; cases q)
    have LT : PySem.W.Looks (model X.prog X.w) g3 (typeOf (.ref a)) cls := fun A Q E s k q => wpAny_typeOf_ref (k _ _ e3) (by rw [z3.1]; exact q)
    have LM := PySem.W.exm_one (M := model X.prog X.w) J3.kIn LT hb1
    have named : ∀ {Q : Value → Shared → Prop} {E : Value → Shared → Prop}, Q c { s' with heap := g3 } → wpAny (model X.prog X.w) (X.A.mark (some (.ref a))) (eval (.Name x np) X.env) Q E { s' with heap := g3 } := fun {Q E} q => by
      obtain ⟨hg, hdbg, hm | ⟨hm, hv, hnn⟩⟩ := hc
      · exact ld_glob (X := X.suite a ((a, o3) :: (X.pn ++ pins))) S3 hg hm q hdbg
      · exact ld_blt (X := X.suite a ((a, o3) :: (X.pn ++ pins))) S3 hg hm hv q hnn hdbg
    refine named (LM.here ?_)
    cases b with
    | true =>
      refine codeAny_handlers_suite_as (HandSPX.lands_againZ f3 fun g4 f4 u4 => ?_)
      have J4 : Inv X pins σ' H' { s' with heap := g4 } := J.landed nb f4.1 ((up.trans u3).trans u4) os ag
      obtain ⟨o4, w4, e4, z4, d4⟩ := f4.there
      refine store_ok (X := X.suite a ((a, o4) :: (X.pn ++ pins))) (v := .ref a) (J4.suite e4 d4 na nL nF) hN hi ln rfl (fun s5 S5 => ?_) (.inr hln)
      have pv : PE (X.suite a ((a, o4) :: (X.pn ++ pins))) (.Name n q8) (tVar i) := pe_var hi (.inl hln) nd ncd
      have pa := pss_one (ps_set (X := X.suite a ((a, o4) :: (X.pn ++ pins))) (pos' := q7) (pos := q9) hN hj hlk pv rfl (.inl hfk))
      have hi2 : i < σ'.length := by rw [J.len]; exact hij
      refine wpAny_mono (pa.run [] s5 _ H' { nx := fun τ G => τ = (σ'.set i (some (.ref a))).set j (some (.ref a)) ∧ G = H', rt := fun _ _ => False } S5 ⟨.ref a, by rw [List.getElem?_set_self hi2], rfl, rfl⟩) (fun f s6 hsp => ?_) (fun _ _ z => False.elim z)
      cases f with
      | next =>
        obtain ⟨σ6, H6, S6, q1, q2⟩ := hsp
        subst q1 q2
        have S7 : Inv X ((a, o4) :: pins) ((σ'.set i (some (.ref a))).set j (some (.ref a))) H6 s6 :=
          ⟨ok, S6.os, S6.bare, S6.base, S6.loc, S6.cell, S6.free, S6.freeC, fun p hp => S6.pin p (by
            rw [List.append_nil]
            rcases List.mem_append.mp hp with y | y
            · exact List.mem_cons_of_mem _ (List.mem_append_left _ y)
            · rcases List.mem_cons.mp y with y | y
              · rw [y]
                exact List.mem_cons_self
              · exact List.mem_cons_of_mem _ (List.mem_append_right _ y)), S6.hok, S6.len⟩
        refine gone_ok S7 hN hi hln fun s7 J7 => ⟨_, _, ?_, yes rfl a na⟩
        obtain ⟨y1, y2, y3, _⟩ := J7.pin (a, o4) (List.mem_append_right _ List.mem_cons_self)
        have J8 : Inv X pins _ H6 s7 := ⟨J7.ok, J7.os, J7.bare, J7.base, J7.loc, J7.cell, J7.free, J7.freeC, fun p hp => J7.pin p (by
          rcases List.mem_append.mp hp with y | y
          · exact List.mem_append_left _ y
          · exact List.mem_append_right _ (List.mem_cons_of_mem _ y)), J7.hok, J7.len⟩
        exact track J8 y2 y1 z4.1 z4.2 d4 new0 y3 npin
      | ret u =>
        obtain ⟨_, _, _, _, _, z⟩ := hsp
        exact z.elim
      | brk =>
        obtain ⟨_, _, _, z⟩ := hsp
        exact z.elim
      | cont =>
        obtain ⟨_, _, _, z⟩ := hsp
        exact z.elim
    | false =>
      show wpAny _ X.A (handleBy (.ref a) X.env []) _ _ _
      refine wpAny_handleBy_nil ?_
      obtain ⟨_, _, _, oe, vs, T, oT, ts', he, hz, hd, h1, _⟩ := id f3
      unfold PySem.passOn
      refine wpAny_bind (wpAny_field he hd h1 ?_)
      rw [if_neg (show ¬ ((Value.ref T == Value.none) = true) from by simp)]
      have leave : wpAny (model X.prog X.w) X.A (setFlight (.ref a) X.env.frame) (fun _ s4 => wpAny (model X.prog X.w) X.A (throw (.ref a) : Sem Flow) (SP X pins D) X.xe s4) X.xe { s' with heap := g3 } := by
        rw [hf]
        refine HandSPX.setFlight_upZ f3 fun g4 hh4 u4 => wpAny_throw (tk _ _ ⟨a, B, sI, pins, σ', H', cls, d, rfl, J, nb, (up.trans u3).trans u4, .inr (.inr (by rw [hs]; exact hh4)), na, os, ag, no rfl⟩)
      first
        | exact wpAny_bind (wpAny_pure (wpAny_bind leave))
        | exact wpAny_bind leave
  · cases f with
    | next =>
      obtain ⟨σ', H', J, q⟩ := hsp
      exact wpAny_execs_nil ⟨σ', H', J.ofTry ok, q⟩
    | ret u =>
      obtain ⟨v, σ', H', J, r, q⟩ := hsp
      exact ⟨v, σ', H', J.ofTry ok, r, q⟩
    | brk =>
      obtain ⟨σ', H', J, q⟩ := hsp
      exact ⟨σ', H', J.ofTry ok, q⟩
    | cont =>
      obtain ⟨σ', H', J, q⟩ := hsp
      exact ⟨σ', H', J.ofTry ok, q⟩
end
/-! ### caught = None / try: a() / except C as err: caught = err / .., the exception kept -/
def mHelpX (sub : String → Option Bool) (rest : MS) : (Mem → OutF) → Mem → OutF := fun act μ => match act μ with
  | .ok _ μ' => (rest [some (.fr .unk), some (.fr .non), none] μ').fin
  | .exc x μ' => match sub x.cls with
    | some true => (rest [some (.fr .unk), some (.fr (.exn x.cls x.attr x.arg)), none] μ').fin
    | some false => .exc x μ'
    | none => .bad
  | .bad => .bad
section
variable {P : Program} {w : World} {K : PySem.W.Frag} {mg : Str → Option Value} {base : Heap} {k : Nat} {g : Addr} {x a caught err ec : Str} {jn : Nat} {q : Nat → Pos} {st : Stmt} {fd : FuncData} {rest : List Stmt} {sc : Scope} {m : MS} {sub : String → Option Bool} {CS : Addr}
theorem hlpX_of (Fz : Fd K x x st g fd .none) (S : FnScope [a, caught, err] [a] sc) (hsc : defScope st = sc) (hB : defBody st = hlpB a caught err ec jn q rest) (hm : mg x = some (.ref g)) (hkp : PySem.W.keepIn K (.ref g) = true) (hbd : Binds K fd [a] [])
    (he : glC sc ec = true) (hec : mg ec = some (.ref CS)) (hsub : Subs K mg CS sub) (v0 : varC [a, caught, err] sc 0 a = true) (l1 : locC [a, caught, err] sc 1 caught = true) (v2 : varC [a, caught, err] sc 2 err = true) (k2 : sc.names.lookup err = some .local)
    (hrest : ∀ (X : Cx) (W : WX), X.prog = P → X.w = w → X.K = K → X.mg = mg → X.base = base → Cd X W (k + 1) [a, caught, err] sc → JSs X W rest m) : Hlp P w K mg base (k + 1) x (mHelpX sub m) := by
  subst hsc
  refine ⟨g, hm, hkp, fun A outer s H f Q E act Z F ρ μ hr e0 S0 hact fin => ?_⟩
  obtain ⟨oc, od, kV, doc, pm, an, cdv, ct, osl, rfl, lk, hcd⟩ := Fz.ex
  have inK : K.In s.heap := e0.mod.kin.keeps fun b o e => (e0.bs b o e).1
  have lim : s.heap.NoLimit := e0.mod.nolimit.keeps fun b o e => (e0.bs b o e).1
  have hb := hbd s [.ref f] inK rfl
  refine codeAny_call_function hr.r.depth (inK _ _ lk) rfl S.co S.gen rfl (PySem.W.codeRec_of inK hcd) (hb _ _ _ _ ?_)
  refine wpAny_newFunctionEnv_cells S.kind (fun ⟨n, u⟩ hy => ?_) fun env eenv s1 xx => ?_
  · rcases S.par n (List.of_mem_zip hy).1 with z | z
    · exact Or.inl z
    · exact Or.inr ⟨z, PySem.W.cellsFrom_some _ _ _ (Or.inl z)⟩
  subst eenv
  refine ⟨lim.keeps xx.toInCall.keep, codeAny_func ?_⟩
  have rv : Vals [V.ref f] [Value.ref f] := .cons rfl .nil
  generalize hX : cxOf (L2.CX P w) P w K mg base [a, caught, err] x (defScope st) g cdv A outer s H E = X
  have I : Inv X [] (L2.start [a, caught, err] [.ref f]) H s1 := by
    subst hX
    exact inv_start S hr.r.hd e0 rfl rv xx
  have C : Cd X (lamW E) (k + 1) [a, caught, err] (defScope st) := by
    subst hX
    exact ⟨⟨rfl, hr.deeper _, takes_of rfl rfl rfl rfl, rfl, rfl, S.nd⟩, passes_of rfl, fun _ _ => rfl⟩
  have xP : X.prog = P := by subst hX; rfl
  have xw : X.w = w := by subst hX; rfl
  have xK : X.K = K := by subst hX; rfl
  have xm : X.mg = mg := by subst hX; rfl
  have xb : X.base = base := by subst hX; rfl
  have xs : X.stack = X.env :: X.outer := by subst hX; rfl
  have xf : X.env.frame = some X.env.locals := by subst hX; rfl
  have xH : X.H_0 = H := by subst hX; rfl
  have xS : X.s_0 = s := by subst hX; rfl
  have xo : X.outer = outer := by subst hX; rfl
  have xx' : X.ex = [] := by subst hX; rfl
  have xA : X.A = A.deeper (envOfC x (defScope st) s.heap.objs.size g cdv) := by subst hX; rfl
  have xE : X.env = envOfC x (defScope st) s.heap.objs.size g cdv := by subst hX; rfl
  have xX : X.xe = fun e s' => wpAny (model P w) (A.deeper (envOfC x (defScope st) s.heap.objs.size g cdv)) (leaving (envOfC x (defScope st) s.heap.objs.size g cdv) e) (fun _ s'' => L2.CX P w outer H s E e s'') (fun e' s'' => L2.CX P w outer H s E e' s'') s' := by subst hX; rfl
  have hJ := hrest X (lamW E) xP xw xK xm xb C
  subst xP xw xK xm xb
  -- the act, called
  have hcall : ∀ (W : WX) (pn : List (Addr × Obj)) (xe : Value → Shared → Prop), Takes (X.tr pn xe) W → PassesOwn (model X.prog X.w) X.A X.env xe →
      PSs (X.tr pn xe) [.Expr (.Call (.Name a (q 3)) [] [] (q 4)) (q 5)] (fun D σ H1 => σ[0]? = some (some (.ref f)) ∧ H1 = H ∧ FinF X.K X.mg Z F ρ (fun v H' => D.nx σ H') (fun c d H' => W c d σ H') (act μ)) := fun W pn xe tk _ => by
    have hp : PE (X.tr pn xe) (.Call (.Name a (q 3)) [] [] (q 4)) (fun σ H1 Q => σ[0]? = some (some (.ref f)) ∧ H1 = H ∧ FinF X.K X.mg Z F ρ (fun v H' => Q v H') (fun c d H' => W c d σ H') (act μ)) := by
      refine ⟨fun pins s' σ H1 Q' I' hh => ?_⟩
      obtain ⟨h0, rfl, hfin⟩ := hh
      have pv : PE (X.tr pn xe) (.Name a (q 3)) (tVar 0) := by
        unfold varC at v0
        simp only [Bool.and_eq_true, Bool.not_eq_true', decide_eq_true_eq, Bool.or_eq_true] at v0
        obtain ⟨⟨⟨z1, z2⟩, z3⟩, z4⟩ := v0
        refine pe_var (by show X.N[0]? = some a; rw [C.hN]; exact z1) ?_ z3 z4
        show X.env.scope.names.lookup a = _ ∨ X.env.scope.names.lookup a = _ ∨ X.env.scope.names.lookup a = _
        rw [C.hsc]
        exact z2
      refine wpAny_Call_Name_kw (thn (pv.run pins s' σ H1 (fun v H2 => v = .ref f ∧ H2 = H1) I' ⟨.ref f, h0, rfl, rfl⟩) fun u s2 ⟨v, H2, I2, r2, q2⟩ => ?_)
      obtain ⟨ev, eH⟩ := q2
      subst ev
      rw [eH] at I2
      obtain rfl : u = Value.ref f := r2
      obtain ⟨⟨oc2, od2, fd2, osl2, of0⟩, nf, ff⟩ := hact.at_
      have un : Un (frs outer) [] H1 H1 s.heap s2.heap := by
        have z : Un X.fs X.ex X.H_0 H1 X.s_0.heap s2.heap := I2.base
        rw [xH, xS, xx'] at z
        rw [← xo]
        exact z
      have of2 := un.keep f _ of0 nf ff (by simp)
      refine PySem.W.callWith_F0 ⟨_, _, _, _, of2⟩ ?_
      refine wpAny_call (codeAny_mono (hact.run X.A X.stack s2 H1 Q' (WE W σ) Z F ρ μ C.rm I2.env0 un (fun _ _ z => z) (fun _ _ z => z) S0 hfin) fun res s3 hr3 => ?_)
      cases res with
      | error e => exact passAt tk σ pins H1 s2 e s3 I2 hr3
      | ok fl =>
        cases fl with
        | ret u => exact I2.after hr3
        | next => exact False.elim hr3
        | brk => exact False.elim hr3
        | cont => exact False.elim hr3
    exact (pss_one (ps_expr hp)).imp fun D σ H1 h => h
  have loc1 := C.loc l1
  have hset : ∀ e te (pc : Pos), PE X e te → swapsWith e (some (.Name caught (q 0))) (q 2).line X.env = pure false → PS X (.Assign [.Name caught (q 0)] e (q 2)) (tAsg te (gName 1)) := fun e te _ he hs => ps_set loc1.1 loc1.2.1 loc1.2.2 he hs (.inl (C.fn caught loc1.2.2))
  have first := hset (.Constant .none jn (q 1)) (tC .non) (q 2) pe_non rfl
  have nerr : X.N[2]? = some err := by
    rw [C.hN]
    rfl
  have kerr : X.env.kindOf err = some .local := by
    show X.env.scope.names.lookup err = some .local
    rw [C.hsc]
    exact k2
  obtain ⟨g1, g2, g3⟩ := C.gl he
  have tr := ps_try_x (pos := q 11) (pos' := q 10) (np := q 6) (q7 := q 7) (q8 := q 8) (q9 := q 9) (Wout := lamW E) (c := .ref CS) (i := 2) (j := 1) xs xf xx' (by rw [C.hN]; exact S.nd) nerr kerr loc1.2.1 loc1.2.2 (C.fn caught loc1.2.2) (by rw [C.hN]; exact Nat.lt_succ_self 2) (by
      unfold varC at v2
      simp only [Bool.and_eq_true, Bool.not_eq_true'] at v2
      exact v2.1.2) (by
      unfold varC at v2
      simp only [Bool.and_eq_true, Bool.not_eq_true'] at v2
      exact v2.2) ⟨g1, g2, .inl hec⟩ C.tk hcall
  have all := pss_cons first (pss_cons tr hJ)
  have hq := all.run [] s1 _ H { nx := fun _ H' => Q .non H', rt := Q } I ?_
  · rw [xA, xE, xX] at hq
    have out : ∀ {σ' : L2.St} {H' : Hp} {s' : Shared}, Inv X [] σ' H' s' → s'.os = s.os ∧ Un (frs outer) [] H H' s.heap s'.heap := fun {σ' H' s'} J => by
      have z : Un X.fs X.ex X.H_0 H' X.s_0.heap s'.heap := J.base
      rw [xH, xS, xx'] at z
      have y : s'.os = X.s_0.os := J.os
      rw [xS] at y
      rw [← xo]
      exact ⟨y, z⟩
    have hq2 : wpAny (model X.prog X.w) (A.deeper (envOfC x (defScope st) s.heap.objs.size g cdv)) (execs (defBody st) (envOfC x (defScope st) s.heap.objs.size g cdv)) (SP X [] { nx := fun _ H' => Q .non H', rt := Q }) (fun e s' => wpAny (model X.prog X.w) (A.deeper (envOfC x (defScope st) s.heap.objs.size g cdv)) (leaving (envOfC x (defScope st) s.heap.objs.size g cdv) e) (fun _ s'' => L2.CX X.prog X.w outer H s E e s'') (fun e' s'' => L2.CX X.prog X.w outer H s E e' s'') s') s1 := by
      rw [hB]
      exact hq
    refine wpAny_mono hq2 (fun fl s' hs => ?_) fun e s' hs => hs
    cases fl with
    | ret u =>
      obtain ⟨v, σ', H', J, rv, q⟩ := hs
      exact ⟨v, H', (out J).1, J.bare, (out J).2, J.hok, rv, q⟩
    | next =>
      obtain ⟨σ', H', J, q⟩ := hs
      exact ⟨.non, H', (out J).1, J.bare, (out J).2, J.hok, rfl, q⟩
    | brk =>
      obtain ⟨_, _, _, z⟩ := hs
      exact z.elim
    | cont =>
      obtain ⟨_, _, _, z⟩ := hs
      exact z.elim
  · show tAsg (tC .non) (gName 1) _ _ _
    refine ⟨rfl, rfl, ?_⟩
    unfold mHelpX at fin
    cases ea : act μ with
    | bad => rw [ea] at fin; exact fin.elim
    | ok sl μ' =>
      rw [ea] at fin
      intro v H' F' ρ' l lr S' rvv
      refine ⟨Z, F', ρ', μ', _, S'.frs rfl (fun i s e => ?_), fin_S (fun _ _ _ _ z => z) (fin.mono l lr)⟩
      match i, e with
      | 0, e => cases e; exact ⟨_, .ref f, rfl, rfl, .unk⟩
      | 1, e => cases e; exact ⟨_, .non, rfl, rfl, .non⟩
      | 2, e => cases e
      | i + 3, e => cases e
    | exc xx μ' =>
      rw [ea] at fin
      intro c d H' F' ρ' l lr S' er
      obtain ⟨Cc, dx, vv, rfl, rfl, h3, h4⟩ := id er
      cases es : sub xx.cls with
      | none => simp only [es] at fin; exact fin.elim
      | some b =>
        refine ⟨b, hsub _ _ _ es h3, fun hb1 a' ha' => ?_, fun hb0 => ?_⟩
        · subst hb1
          simp only [es] at fin
          obtain ⟨w1, w2, w3, w4⟩ := S'.notIn ha'
          have S2 := S'.laid (o := ErrO a' (.ref Cc) (some dx)) ha'
          obtain ⟨l3, S3⟩ := S2.freeze upd_same ⟨w1, w2, w3⟩ w4
          refine ⟨Z, _, ρ', μ', _, S3.frs rfl (fun i s e => ?_), fin_S (fun _ _ _ _ z => z) ((fin.mono l lr).mono l3 .refl)⟩
          match i, e with
          | 0, e => cases e; exact ⟨_, .ref f, rfl, rfl, .unk⟩
          | 1, e => cases e; exact ⟨_, .ref a', rfl, rfl, .exn h3 (Rd.up l3.to h4.1) upd_same (Rep.up l3.to (fun _ _ z => z) h4.2)⟩
          | 2, e => cases e
          | i + 3, e => cases e
        · subst hb0
          simp only [es] at fin
          exact fin _ _ _ _ _ l lr S' er
end

/-! ### isinstance of an exception that is kept -/
structure ExcK (K : PySem.W.Frag) (C : Addr) : Prop where
  cl : (PySem.W.clsIn K C).isSome = true
  ga : PySem.W.findIn K (.ref C) "__getattribute__" = some (some (.builtin "BaseException.__getattribute__"))
  gt : PySem.W.findIn K (.ref C) "__getattr__" = some none
  sb : PySem.W.subIn K (.ref C) (.type "BaseException") = some true
  ca : PySem.W.findIn K (.ref C) "__class__" = some (some (.builtin "object.__class__"))
  sp : PySem.W.specialIn K (.builtin "object.__class__") "__get__" = some (some (.builtin "getset_descriptor.__get__"))
  tk : PySem.W.takesIn K (.builtin "object.__class__") = some true
  ob : PySem.W.mroIn K C (.type "object") = some true
/-- isa c d: whether the own class c is below the own class d, as far as it is known -/
def Isa (K : PySem.W.Frag) (mg : Str → Option Value) (isa : String → String → Option Bool) : Prop := ∀ c d b C D, isa c d = some b → mg (Str.ofString c) = some (.ref C) → mg (Str.ofString d) = some (.ref D) → ExcK K C ∧ PySem.W.kitOne K (.ref C) (.ref D) = some b
def rIsX (K : PySem.W.Frag) : List V → Hp → VK → Prop := fun xs H Q => ∃ (a C D dx : Addr) (fs : List (Str × V)) (b : Bool), xs = [.ref a, .ref D] ∧ H a = some (ErrO a (.ref C) (some dx)) ∧ Rd H dx (.xd fs) ∧ ExcK K C ∧ PySem.W.kitOne K (.ref C) (.ref D) = some b ∧ Q (.bl b) H
theorem call_isX {X : Cx} : CallR X (.builtin "isinstance") (rIsX X.K) := by
  intro pins s σ H xs us Q I r h
  obtain ⟨a, C, D, dx, fs, b, rfl, ha, hd, E, ko, q⟩ := h
  cases r with
  | cons rx rr =>
    cases rr with
    | cons rt rr =>
      cases rr
      cases rx
      cases rt
      obtain ⟨⟨oe, vs, h1, h2, h3, h4⟩, _, _⟩ := I.hok a _ ha
      have hx : ∃ od, s.heap.get? dx = some od := by
        rcases hd with hd | ⟨ob, hd⟩
        · obtain ⟨mA, hns, _⟩ := I.hok dx _ hd
          obtain ⟨o, es, ep, e, _⟩ := hns
          exact ⟨o, e⟩
        · exact ⟨_, (I.hok dx _ hd).1⟩
      obtain ⟨od, hod⟩ := hx
      have J : PySem.W.InstAt s.heap a oe C (some od) := by
        obtain ⟨oc, oo, oda, osl⟩ := oe
        dsimp only at h2 h3 h4
        subst h2 h3 h4
        exact ⟨h1, rfl, rfl, hod⟩
      exact PySem.W.kia_one (PySem.W.kitx_exc E.cl E.ga E.gt E.sb E.ca E.sp E.tk E.ob) I.kIn J ko (fun z => nomatch z) fun tk => ⟨.bl b, H, I.kept (t' := tk) fun _ _ z => z, rfl, q⟩
def gIsX (isa : String → String → Option Bool) : List D → Option FL.Slot
  | [.exn c _ _, .glo d] => (isa c d).map fun b => tb b
  | _ => none
theorem j_isX {X : Cx} {isa : String → String → Option Bool} (hi : Isa X.K X.mg isa) (hc : ∀ d b c, isa c d = some b → ∃ D, X.mg (Str.ofString d) = some (.ref D)) : RLJ X (rIsX X.K) (gIsX isa) := by
  intro Z F ρ μ δ σ H xs ds s Q S b e q
  unfold gIsX at e
  split at e
  · rename_i c at_ v d
    obtain ⟨k, e1, e2⟩ := Option.map_eq_some_iff.mp e
    subst e2
    obtain ⟨x, y, rfl, hx, hy⟩ := b.two
    obtain ⟨D, hD⟩ := hc _ _ _ e1
    have rx := hx.rep (fun o z => by cases o <;> cases z)
    have ry := hy.rep (fun o z => by cases o <;> cases z)
    cases rx with
    | exn h1 h2 h3 h4 =>
      cases ry with
      | glo g1 g2 =>
        rw [hD] at g1
        cases g1
        have ey : y = V.ref D := by
          cases y with
          | ref p => cases g2; rfl
          | non => cases g2
          | bl _ => cases g2
          | int _ => obtain ⟨_, z⟩ := g2; cases z
          | str _ => obtain ⟨_, z⟩ := g2; cases z
          | byt _ => obtain ⟨_, z⟩ := g2; cases z
          | flt _ => obtain ⟨_, z⟩ := g2; cases z
          | ty _ => cases g2
        subst ey
        obtain ⟨i1, i2⟩ := hi _ _ _ _ _ e1 h1 hD
        have hH : H _ = some _ := (S.le _ _ h3).elim (fun z => z) fun ⟨ob, kvs, z, _⟩ => by
          unfold ErrO at z
          cases z
        exact ⟨_, _, D, _, _, k, rfl, hH, S.rd h2, i1, i2, q _ H F .refl S ⟨.bl, fun o p z => by cases z⟩⟩
  · cases e
/-- a class of the module, named -/
theorem Cs.cls {X : Cx} {W : WX} {k : Nat} {N : List Str} {sc : Scope} {x : String} {pos : Pos} (C : Cs X W k N sc) (h : glC sc (Str.ofString x) = true) (hm : ∃ D : Addr, X.mg (Str.ofString x) = some (.ref D)) : JE X W (.Name (Str.ofString x) pos) (mD (.glo x)) :=
  let ⟨g1, g2, g3⟩ := C.gl h
  let ⟨D, hm⟩ := hm
  je_glo g1 hm (v := .ref D) rfl g2

/-! ### x.split(), range(a, b, c) -/
def gWords : D → List D → Option FL.Slot
  | .str x, [] => if x.length + 2 ≤ 16777216 then some (.own (.lst ((TL.wfin (x.foldl TL.wstep ([], []))).map .str))) else none
  | _, _ => none
theorem words_toS (x : Tx) : (Txt.words (toS x)).map V.str = ((TL.wfin (x.foldl TL.wstep ([], []))).map toS).map V.str := by
  have h := TL.words_tl (toS x)
  have e : TL.tl (toS x) = x := toS_cps x
  rw [e] at h
  have all : ∀ l : List Str, (l.map TL.tl).map toS = l := fun l => by
    induction l with
    | nil => rfl
    | cons a r ih =>
      rw [List.map_cons, List.map_cons, ih]
      show toS a.cps.toList :: r = _
      rw [toS_of]
  rw [← h, all]
theorem j_words {X : Cx} : RMJ X (fun x xs H Q => ∃ a, x = .str a ∧ xs = [] ∧ a.length + 2 ≤ sizeLine ∧ rNewStrs (Txt.words a) H Q) gWords := by
  intro Z F ρ μ δ σ H x xs dx ds s Q S bx bs e q
  unfold gWords at e
  split at e
  · rename_i t
    by_cases h : t.length + 2 ≤ 16777216
    · rw [if_pos h] at e
      cases e
      cases bx.str
      refine ⟨_, rfl, bs.nil_of, by rw [toS_len, sizeLine_eq]; exact h, fun p hp => ?_⟩
      rw [words_toS]
      obtain ⟨S', vr⟩ := vr_newL S hp (RepL.ofStrs _)
      exact q _ _ F .refl S' vr
    · rw [if_neg h] at e; cases e
  · cases e
theorem words_ {X : Cx} {W : WX} {o : Expr} {oo : Opn} {apos pos : Pos} (ho : JO X W o oo) (hbase : attributeBase o "split" X.env (eval o X.env) = eval o X.env := by rfl) (hline : (apos.endLine == pos.line) = true := by rfl) : JE X W (.Call (.Attribute o "split" apos) [] [] pos) (mM "str" gWords oo []) :=
  je_bm0 PySem.F.plainAttrs_str PySem.F.slot_str_split PySem.F.type_str_split mt_words j_words ho hbase hline
def rangeC (lo c : Int) (n : Nat) : List D := (List.range n).map fun i => .int (lo + (i : Nat) * c)
theorem itr_rangeC {X : Cx} {F : Hp} {ρ : List Addr} {lo c : Int} {n : Nat} : ItR X F ρ (Itc lo c n) (rangeC lo c n) := by
  intro Z' F' ρ' μ δ σ H i to tr S
  refine ⟨fun hl => ?_, fun d hd => ?_⟩
  · show n ≤ i
    simpa [rangeC] using hl
  · unfold rangeC at hd
    rw [List.getElem?_map] at hd
    by_cases hi : i < n
    · rw [List.getElem?_range hi] at hd
      cases hd
      refine ⟨hi, fun x H' y => ?_⟩
      obtain ⟨rfl, rfl⟩ := y
      exact ⟨F', .refl, S, .int⟩
    · rw [List.getElem?_eq_none (by simp; omega)] at hd
      cases hd
def mRange3 (o o' o2 : Opn) : MM (List D) := fun δ μ => (evs [o, o', o2] δ μ).bind fun rs δ1 μ1 => match OR.ats δ1 μ1 rs with
  | some [.int i, .int j, .int c] => if c ≠ 0 ∧ c.natAbs < 1073741824 ∧ Builtin.Range.small i j c = true ∧ 0 ≤ Builtin.Range.rangeSize i j c then .ok (rangeC i c (Builtin.Range.rangeSize i j c).toNat) δ1 μ1 else .bad
  | _ => .bad
theorem Cs.range3 {X : Cx} {W : WX} {k : Nat} {N : List Str} {sc : Scope} {tg a b c : Expr} {o o' o2 : Opn} {p pos : Pos} (C : Cs X W k N sc) (h : glC sc "range" = true) (hm : X.mg "range" = none) (ha : JOs X W [a, b, c] [o, o', o2])
    (hs : starEach [a, b, c] X.env = (false, eval a X.env) :: starEach [b, c] X.env := by rfl) (hpl : (backTo pos (starEach [b, c] X.env)).any (·.1) = false := by rfl) : JI X W tg (.Call (.Name "range" p) [a, b, c] [] pos) (mRange3 o o' o2) := by
  refine (pi_range3 (C.gl h).1 hm ha hs hpl).imp fun σ H R ⟨Z, F, ρ, μ, δ, S, q⟩ => ⟨Z, F, ρ, μ, δ, S, (FinE.bind q).imp fun rs δ1 μ1 H1 F1 ρ1 l lr S1 ⟨_, _, _, p⟩ vs hv => ?_⟩
  split at p
  · rename_i i j c ej
    have hb := hv.bor S1 ej
    cases hb with
    | cons h1 t1 =>
      cases t1 with
      | cons h2 t2 =>
        cases t2 with
        | cons h3 t3 =>
          cases t3
          cases h1.int
          cases h2.int
          cases h3.int
          by_cases cc : c ≠ 0 ∧ c.natAbs < 1073741824 ∧ Builtin.Range.small i j c = true ∧ 0 ≤ Builtin.Range.rangeSize i j c
          · rw [if_pos cc] at p
            exact ⟨i, j, c, (Builtin.Range.rangeSize i j c).toNat, rfl, ⟨cc.1, cc.2.1, cc.2.2.1, by have := cc.2.2.2; omega⟩, p H1 F1 ρ1 .refl .refl S1 _ itr_rangeC⟩
          · rw [if_neg cc] at p
            exact p.elim
  · exact p.elim
/-- a, b = x, y with names that lambdas or comprehensions see -/
theorem Cd.parT {X : Cx} {W : WX} {k : Nat} {N : List Str} {sc : Scope} {i j : Nat} {x y : Str} {a b : Expr} {ma mb : ME} {px py pt pos : Pos} {kt k2 pt2} (C : Cd X W k N sc) (hi : locC N sc i x = true) (hj : locC N sc j y = true) (ha : JE X W a ma) (hb : JE X W b mb)
    (hw : ∀ env : Env, env.scope = sc → swappedStores [.Tuple [.Name x px, .Name y py] kt pt] (.Tuple [a, b] k2 pt2) env = pure none)
    (hs : swapsWithSole [.Tuple [.Name x px, .Name y py] kt pt] (.Tuple [a, b] k2 pt2) pos.line X.env = pure false := by rfl)
    (h1 : starEach [a, b] X.env = (false, eval a X.env) :: starEach [b] X.env := by rfl) (h2 : starEach [b] X.env = (false, eval b X.env) :: starEach [] X.env := by rfl) :
    JS X W (.Assign [.Tuple [.Name x px, .Name y py] kt pt] (.Tuple [a, b] k2 pt2) pos) (mPar i j ma mb) :=
  let ⟨n, i1, i2⟩ := C.loc hi
  let ⟨_, j1, j2⟩ := C.loc hj
  js_parT C.calm n i1 j1 i2 j2 (C.fn x i2) (C.fn y j2) ha hb (hw X.env C.hsc) hs h1 h2

/-! ### a local name, its value given up -/
def mMv (i : Nat) : ME := fun δ μ => match δ[i]? with
  | some (some s) => .ok s (δ.set i none) μ
  | _ => .bad
theorem je_mv {X : Cx} {W : WX} {e : Expr} {i : Nat} (h : PE X e (tVar i)) : JE X W e (mMv i) := by
  refine h.imp fun σ H Q ⟨Z, F, ρ, μ, δ, S, q⟩ => ?_
  unfold mMv at q
  cases e1 : δ[i]? with
  | none => simp only [e1] at q; exact q.elim
  | some o =>
    cases o with
    | none => simp only [e1] at q; exact q.elim
    | some s =>
      simp only [e1] at q
      obtain ⟨v, ev, r⟩ := S.slot i s e1
      have hi : i < σ.length := (List.getElem?_eq_some_iff.mp ev).1
      have same : σ.set i (some v) = σ := by
        apply List.ext_getElem?
        intro j
        by_cases z : j = i
        · subst z
          rw [List.getElem?_set_self hi, ev]
        · rw [List.getElem?_set_ne (Ne.symm z)]
      have S0 := S.forget (i := i) (x := some v)
      rw [same] at S0
      refine ⟨v, ev, q H F ρ .refl .refl S0 v ⟨r, fun o p z1 z2 j o' e2 e3 => ?_⟩⟩
      subst z1 z2
      have nj : j ≠ i := fun z => by
        subst z
        rw [List.getElem?_set_self (List.getElem?_eq_some_iff.mp e1).1] at e2
        cases e2
      rw [List.getElem?_set_ne (Ne.symm nj)] at e2
      exact nj (S.apart j i p o' o e2 e1 e3 ev)

/-! ### text * int -/
def rMulS : R2 := fun x y H Q => ∃ a k, x = .str a ∧ y = .int k ∧ MulOk a k ∧ Q (.str (Txt.mul a k)) H
theorem op_mulS {X : Cx} : OpR X (binaryOp .Mult) rMulS := by
  intro pins s σ H x y v u Q I rx ry h
  obtain ⟨a, k, rfl, rfl, ok, q⟩ := h
  obtain ⟨t, rfl⟩ := rx
  obtain ⟨t', rfl⟩ := ry
  exact SB.mul ok fun t2 k2 => ⟨.str (Txt.mul a k), H, I.tok k2, ⟨t2, rfl⟩, q⟩
def gRepS : D → D → Option FL.Slot
  | .str x, .int k => if 2 ≤ k ∧ k ≤ 1000 ∧ 1 ≤ x.length ∧ x.length ≤ 1000 then some (.fr (.str (List.replicate k.toNat x).flatten)) else none
  | _, _ => none
theorem foldl_app (x : Tx) : ∀ (n : Nat) (acc : Array Nat), (List.replicate n x.toArray).foldl (· ++ ·) acc = acc ++ (List.replicate n x).flatten.toArray
  | 0, acc => by simp
  | n + 1, acc => by
    rw [List.replicate_succ, List.foldl_cons, foldl_app x n, List.replicate_succ, List.flatten_cons]
    simp [Array.append_assoc]
theorem mul_toS {x : Tx} {k : Int} (h1 : 2 ≤ k) (h2 : 1 ≤ x.length) : Txt.mul (toS x) k = toS (List.replicate k.toNat x).flatten := by
  unfold Txt.mul
  have e1 : ¬ k < 1 := by omega
  have e2 : (k == 1 || (toS x).length == 0) = false := by
    rw [toS_len]
    simp only [Bool.or_eq_false_iff, beq_eq_false_iff_ne]
    exact ⟨by omega, by omega⟩
  rw [if_neg e1, e2, if_neg Bool.false_ne_true]
  show (⟨(List.replicate k.toNat x.toArray).foldl (· ++ ·) #[]⟩ : Str) = ⟨(List.replicate k.toNat x).flatten.toArray⟩
  rw [foldl_app]
  simp
theorem mul_okS {x : Tx} {k : Int} (h1 : 2 ≤ k) (h2 : k ≤ 1000) (h3 : x.length ≤ 1000) : MulOk (toS x) k := by
  have hm : x.length * k.toNat ≤ 1000 * 1000 := Nat.mul_le_mul h3 (by omega)
  refine ⟨?_, fun _ _ z => ?_, fun _ _ => ?_⟩
  · simp only [Bool.or_eq_false_iff, decide_eq_false_iff_not]
    omega
  · rw [toS_len] at z
    have hk : (2 ^ 63 - 1) / 1000 ≤ (2 ^ 63 - 1) / k := by
      apply Int.le_ediv_of_mul_le (by omega)
      have : (2 ^ 63 - 1) / 1000 * k ≤ (2 ^ 63 - 1) / 1000 * 1000 := Int.mul_le_mul_of_nonneg_left h2 (by decide)
      omega
    have : (1000 : Int) ≤ (2 ^ 63 - 1) / 1000 := by decide
    omega
  · rw [toS_len]
    have hl : x.length * k.toNat ≤ sizeLine := by rw [sizeLine_eq]; omega
    first
      | exact decide_eq_false (by omega)
      | (unfold tooLong; exact decide_eq_false (by omega))
theorem j_mulS {X : Cx} : R2J X rMulS gRepS := by
  refine r2_flat fun F ρ H x y dx dy s Q bx bY e => ?_
  unfold gRepS at e
  cases dx <;> cases dy <;> first | (cases e; done) | skip
  rename_i x k
  have e : (if 2 ≤ k ∧ k ≤ 1000 ∧ 1 ≤ x.length ∧ x.length ≤ 1000 then some (FL.Slot.fr (.str (List.replicate k.toNat x).flatten)) else none) = some s := e
  by_cases h : 2 ≤ k ∧ k ≤ 1000 ∧ 1 ≤ x.length ∧ x.length ≤ 1000
  · rw [if_pos h] at e
    cases e
    cases bx.str
    cases bY.int
    exact ⟨_, fun q => ⟨_, k, rfl, rfl, mul_okS h.1 h.2.1 h.2.2.2, by rw [mul_toS h.1 h.2.2.1]; exact q⟩, _, rfl, fun _ _ => .str⟩
  · rw [if_neg h] at e
    cases e
def gMulB : D → D → Option FL.Slot := fun x y => (gMulA x y).or (gRepS x y)
theorem mulB_ {X : Cx} {W : WX} {a b : Expr} {oa ob : Opn} {pos : Pos} (ha : JO X W a oa) (hb : JO X W b ob) : JE X W (.BinOp a .Mult b pos) (m2 gMulB oa ob) := je_bin (o_mulA.or op_mulS) (R2J.or j_mulA j_mulS) ha hb
end FL

/-! Part Ca: instances: their fields; a new one that is locked when it is made. -/
namespace FL
open PySem L2

/-! ### fields -/
theorem ofS_inj {a b : String} (h : Str.ofString a = Str.ofString b) : a = b := by
  rw [ofS_lit, ofS_lit] at h
  have e := toS_inj h
  unfold lit at e
  have e2 : a.toList = b.toList := by
    have inj : ∀ l m : List Char, l.map Char.toNat = m.map Char.toNat → l = m := by
      intro l
      induction l with
      | nil => intro m h; cases m with
        | nil => rfl
        | cons _ _ => cases h
      | cons c l ih =>
        intro m h
        cases m with
        | nil => cases h
        | cons d m =>
          rw [List.map_cons, List.map_cons] at h
          injection h with h1 h2
          rw [ih m h2, Char.ext (UInt32.toNat_inj.mp h1)]
    exact inj _ _ e
  exact String.toList_inj.mp e2
def getF : List String → List D → String → Option D
  | k :: ks, d :: ds, f => if k = f then some d else getF ks ds f
  | _, _, _ => none
def putNm : List String → String → List String
  | [], f => [f]
  | k :: ks, f => if k = f then k :: ks else k :: putNm ks f
def putVs : List String → List D → String → D → List D
  | [], _, _, d => [d]
  | k :: ks, x :: xs, f, d => if k = f then d :: xs else x :: putVs ks xs f d
  | _ :: _, [], _, _ => []
abbrev rowF (ks : List String) (vs : List V) : List (Str × V) := (ks.map Str.ofString).zip vs
section
variable {K : PySem.W.Frag} {mg : Str → Option Value} {Z F F' : Hp} {ρ ρ' : List Addr} {μ : Mem} {δ : FL.Loc} {σ : L2.St} {H H' : Hp}
theorem getF_row : ∀ {ks : List String} {vs : List V} {ds : List D} {f : String} {d : D}, RepL K mg F ρ vs ds → getF ks ds f = some d → ∃ v, (rowF ks vs).lookup (Str.ofString f) = some v ∧ Rep K mg F ρ v d
  | k :: ks, _, _, f, d, .cons (v := v) (vs := vs) h t, e => by
    unfold getF at e
    by_cases hk : k = f
    · rw [if_pos hk] at e
      cases e
      exact ⟨v, by simp [rowF, hk], h⟩
    · rw [if_neg hk] at e
      obtain ⟨w, e1, e2⟩ := getF_row t e
      refine ⟨w, ?_, e2⟩
      have : (Str.ofString f == Str.ofString k) = false := beq_eq_false_iff_ne.mpr fun z => hk (ofS_inj z).symm
      simp only [rowF, List.map_cons, List.zip_cons_cons, List.lookup_cons, this]
      exact e1
  | [], _, _, _, _, _, e => by cases e
  | _ :: _, _, _, _, _, .nil, e => by cases e
theorem getF_none : ∀ {ks : List String} {vs : List V} {ds : List D} {f : String}, RepL K mg F ρ vs ds → ks.length = vs.length → getF ks ds f = none → (rowF ks vs).lookup (Str.ofString f) = none
  | k :: ks, _, _, f, .cons (v := v) (vs := vs) h t, n, e => by
    unfold getF at e
    by_cases hk : k = f
    · rw [if_pos hk] at e; cases e
    · rw [if_neg hk] at e
      have : (Str.ofString f == Str.ofString k) = false := beq_eq_false_iff_ne.mpr fun z => hk (ofS_inj z).symm
      simp only [rowF, List.map_cons, List.zip_cons_cons, List.lookup_cons, this]
      exact getF_none t (by simpa using n) e
  | [], _, _, _, _, _, _ => by simp [rowF]
  | _ :: _, _, _, _, .nil, n, _ => by simp at n
theorem putF_row {v : V} {d : D} (hv : Rep K mg F ρ v d) : ∀ {ks : List String} {vs : List V} {ds : List D} {f : String}, RepL K mg F ρ vs ds → ks.length = vs.length →
    ∃ vs', putF (Str.ofString f) v (rowF ks vs) = rowF (putNm ks f) vs' ∧ (putNm ks f).length = vs'.length ∧ RepL K mg F ρ vs' (putVs ks ds f d)
  | [], _, _, f, .nil, _ => ⟨[v], rfl, rfl, .cons hv .nil⟩
  | [], _, _, f, .cons _ _, n => by simp at n
  | _ :: _, _, _, _, .nil, n => by simp at n
  | k :: ks, _, _, f, .cons (v := x) (vs := vs) (ds := ds) h t, n => by
    by_cases hk : k = f
    · subst hk
      exact ⟨v :: vs, by simp [putNm, putF, rowF], by simpa [putNm] using n, by simp only [putVs, if_true]; exact .cons hv t⟩
    · obtain ⟨vs', e1, e2, e3⟩ := putF_row hv (f := f) t (by simpa using n)
      have hne : ¬ Str.ofString k = Str.ofString f := fun z => hk (ofS_inj z)
      refine ⟨x :: vs', ?_, by simpa [putNm, hk] using e2, by simp only [putVs, hk, if_false]; exact .cons h e3⟩
      simp only [putNm, hk, if_false, rowF, List.map_cons, List.zip_cons_cons, putF, hne]
      rw [show (ks.map Str.ofString).zip vs = rowF ks vs from rfl, e1]

/-! ### what refers to memory below k alone -/
mutual
def D.lowb (k : Nat) : D → Bool
  | .obj j => decide (j < k)
  | .lst xs => D.lowbs k xs
  | .tup xs => D.lowbs k xs
  | .ro xs => D.lowbs k xs
  | .dct _ xs => D.lowbs k xs
  | .exn _ _ v => D.lowb k v
  | .ins _ _ xs => D.lowbs k xs
  | _ => true
def D.lowbs (k : Nat) : List D → Bool
  | [] => true
  | d :: ds => D.lowb k d && D.lowbs k ds
end
mutual
theorem Rep.lowb : ∀ {v : V} {d : D}, Rep K mg F ρ v d → D.lowb ρ.length d = true
  | _, _, .non => by simp [D.lowb]
  | _, _, .bl => by simp [D.lowb]
  | _, _, .int => by simp [D.lowb]
  | _, _, .str => by simp [D.lowb]
  | _, _, .lst _ r => by simp only [D.lowb]; exact RepL.lowbs r
  | _, _, .ro _ r => by simp only [D.lowb]; exact RepL.lowbs r
  | _, _, .tup _ r => by simp only [D.lowb]; exact RepL.lowbs r
  | _, _, .dct _ _ r => by simp only [D.lowb]; exact RepL.lowbs r
  | _, _, .obj h => by simp only [D.lowb, decide_eq_true_eq]; exact (List.getElem?_eq_some_iff.mp h).1
  | _, _, .glo _ _ => by simp [D.lowb]
  | _, _, .ty => by simp [D.lowb]
  | _, _, .exn _ _ _ r => by simp only [D.lowb]; exact Rep.lowb r
  | _, _, .ins _ _ _ _ r => by simp only [D.lowb]; exact RepL.lowbs r
  | _, _, .unk => by simp [D.lowb]
theorem RepL.lowbs : ∀ {vs : List V} {ds : List D}, RepL K mg F ρ vs ds → D.lowbs ρ.length ds = true
  | _, _, .nil => by simp [D.lowbs]
  | _, _, .cons h t => by simp only [D.lowbs, Bool.and_eq_true]; exact ⟨Rep.lowb h, RepL.lowbs t⟩
end
mutual
theorem Rep.down {k : Nat} (hk : ∀ j, j < k → ∀ p, ρ'[j]? = some p → ρ[j]? = some p) : ∀ {v : V} {d : D}, Rep K mg F ρ' v d → D.lowb k d = true → Rep K mg F ρ v d
  | _, _, .non, _ => .non
  | _, _, .bl, _ => .bl
  | _, _, .int, _ => .int
  | _, _, .str, _ => .str
  | _, _, .lst h r, b => .lst h (RepL.down hk r (by simpa only [D.lowb] using b))
  | _, _, .ro h r, b => .ro h (RepL.down hk r (by simpa only [D.lowb] using b))
  | _, _, .tup h r, b => .tup h (RepL.down hk r (by simpa only [D.lowb] using b))
  | _, _, .dct h l r, b => .dct h l (RepL.down hk r (by simpa only [D.lowb] using b))
  | _, _, .obj h, b => .obj (hk _ (by simpa only [D.lowb, decide_eq_true_eq] using b) _ h)
  | _, _, .glo h r, _ => .glo h r
  | _, _, .ty, _ => .ty
  | _, _, .exn h e o r, b => .exn h e o (Rep.down hk r (by simpa only [D.lowb] using b))
  | _, _, .ins h e o l r, b => .ins h e o l (RepL.down hk r (by simpa only [D.lowb] using b))
  | _, _, .unk, _ => .unk
theorem RepL.down {k : Nat} (hk : ∀ j, j < k → ∀ p, ρ'[j]? = some p → ρ[j]? = some p) : ∀ {vs : List V} {ds : List D}, RepL K mg F ρ' vs ds → D.lowbs k ds = true → RepL K mg F ρ vs ds
  | _, _, .nil, _ => .nil
  | _, _, .cons h t, b => by
    simp only [D.lowbs, Bool.and_eq_true] at b
    exact .cons (Rep.down hk h b.1) (RepL.down hk t b.2)
end
/-- an owned thing that was there already, in the memory as it was -/
theorem OwnR.down {c : Own} {p q : Addr} {H0 : Hp} (h0 : OwnR K mg F ρ H0 q c) (h : OwnR K mg F' ρ' H p c) (hk : ∀ j, j < ρ.length → ∀ p, ρ'[j]? = Option.some p → ρ[j]? = Option.some p) : OwnR K mg F' ρ H p c := by
  cases c with
  | lst ds =>
    obtain ⟨_, _, r0⟩ := h0
    obtain ⟨vs, e, r⟩ := h
    exact ⟨vs, e, r.down hk r0.lowbs⟩
  | dct ks ds =>
    obtain ⟨_, _, _, r0⟩ := h0
    obtain ⟨vs, e, n, r⟩ := h
    exact ⟨vs, e, n, r.down hk r0.lowbs⟩
  | tab P q => exact h
  | ins c kd ks ds =>
    obtain ⟨_, _, _, _, e0, _, _, r0⟩ := h0
    obtain ⟨C, dx, vs, e1, e2, e3, n, r⟩ := h
    exact ⟨C, dx, vs, e1, hk _ (List.getElem?_eq_some_iff.mp e0).1 _ e2, e3, n, r.down hk r0.lowbs⟩
  | idc k =>
    obtain ⟨_, e0, _⟩ := h0
    obtain ⟨q, e1, e2⟩ := h
    exact ⟨q, hk _ (List.getElem?_eq_some_iff.mp e0).1 _ e1, e2⟩
/-- what came to memory is forgotten, where what was there is as it was -/
theorem Sim.shrink {F1 H1 : Hp} {ρ1 : List Addr} {μ1 : Mem} (S : Sim K mg Z F ρ μ [] [] H) (S1 : Sim K mg Z F1 ρ1 μ1 [] [] H1) (lr : ∀ (k : Nat) p, ρ[k]? = some p → ρ1[k]? = some p) (ht : ∀ (j : Nat) c, μ[j]? = some c → μ1[j]? = some c) :
    Sim K mg Z F1 ρ μ [] [] H1 ∧ ∀ j, j < ρ.length → ∀ p, ρ1[j]? = some p → ρ[j]? = some p := by
  have hk : ∀ j, j < ρ.length → ∀ p, ρ1[j]? = some p → ρ[j]? = some p := fun j hj p e => by
    have := lr j _ (List.getElem?_eq_getElem hj)
    rw [e] at this
    cases this
    exact List.getElem?_eq_getElem hj
  refine ⟨⟨S1.le, S1.zk, rfl, fun i s e => by simp at e, fun i j p s s' e => by simp at e, fun j c e => ?_, S.mlen, S.nod⟩, hk⟩
  obtain ⟨a0, e0, _, _, r0⟩ := S.mem j c e
  obtain ⟨a, ea, f1, f2, r⟩ := S1.mem j c (ht j c e)
  rw [lr j a0 e0] at ea
  cases ea
  exact ⟨a0, e0, f1, f2, r0.down r hk⟩
/-- a new instance x with its dict dx becomes a shared object -/
theorem Sim.newIns {x dx C : Addr} {c : String} (S : Sim K mg Z F ρ μ [] [] H) (hx : H x = none) (hd : H dx = none) (ne : dx ≠ x) (hc : mg (Str.ofString c) = some (.ref C)) :
    Sim K mg Z F (ρ ++ [x, dx]) (μ ++ [.ins c (μ.length + 1) [] [], .idc μ.length]) [] [] (upd (upd H dx (.own x)) x (.ins C dx [])) ∧ LeR Z ρ (ρ ++ [x, dx]) ∧ Rep K mg F (ρ ++ [x, dx]) (.ref x) (.obj μ.length) := by
  obtain ⟨x1, x2, x3, _⟩ := S.notIn hx
  obtain ⟨d1, d2, d3, _⟩ := S.notIn hd
  have S1 := S.laid (o := .own x) hd
  have hx1 : upd H dx (.own x) x = none := by rw [upd_ne (Ne.symm ne)]; exact hx
  have S2 := S1.laid (o := .ins C dx []) hx1
  have to : ∀ (k : Nat) p, ρ[k]? = some p → (ρ ++ [x, dx])[k]? = some p := fun k p e => by rw [List.getElem?_append_left (List.getElem?_eq_some_iff.mp e).1]; exact e
  have i0 : (ρ ++ [x, dx])[μ.length]? = some x := by rw [← S.mlen]; simp
  have i1 : (ρ ++ [x, dx])[μ.length + 1]? = some dx := by rw [← S.mlen]; simp
  refine ⟨⟨S2.le, S2.zk, rfl, fun i s e => by simp at e, fun i j p s s' e => by simp at e, fun j u e => ?_, by simp [S.mlen], ?_⟩, ⟨to, fun p hp => ?_⟩, .obj i0⟩
  · by_cases hj : j < μ.length
    · rw [List.getElem?_append_left hj] at e
      obtain ⟨a, ea, f1, f2, r⟩ := S2.mem j u e
      exact ⟨a, to j a ea, f1, f2, r.up (fun _ _ z => z) to rfl⟩
    · rw [List.getElem?_append_right (by omega)] at e
      have hj2 : j - μ.length = 0 ∨ j - μ.length = 1 := by
        have := (List.getElem?_eq_some_iff.mp e).1
        simp at this
        omega
      rcases hj2 with hj2 | hj2
      · rw [hj2] at e
        simp at e
        subst e
        have : j = μ.length := by omega
        subst this
        exact ⟨x, i0, x1, x2, C, dx, [], hc, i1, upd_same, rfl, .nil⟩
      · rw [hj2] at e
        simp at e
        subst e
        have : j = μ.length + 1 := by omega
        subst this
        exact ⟨dx, i1, d1, d2, x, i0, by rw [upd_ne ne, upd_same]⟩
  · rw [List.nodup_append]
    refine ⟨S.nod, by simp [Ne.symm ne], fun a ha b hb z => ?_⟩
    subst z
    rcases List.mem_cons.mp hb with z | z
    · subst z; exact x3 ha
    · rw [List.mem_singleton.mp z] at ha; exact d3 ha
  · rcases List.mem_append.mp hp with hp | hp
    · exact .inl hp
    · rcases List.mem_cons.mp hp with z | z
      · subst z; exact .inr x2
      · rw [List.mem_singleton.mp z]; exact .inr d2
/-- .. and is locked when it is made -/
theorem Sim.settle {F1 H1 : Hp} {ρ1 : List Addr} {μ1 : Mem} {x dx : Addr} {c : String} {ks : List String} {ds : List D} (S : Sim K mg Z F ρ μ [] [] H) (S1 : Sim K mg Z F1 ρ1 μ1 [] [] H1) (l : Le Z F F1) (lr : LeR Z (ρ ++ [x, dx]) ρ1)
    (ht : ∀ (j : Nat) u, μ[j]? = some u → μ1[j]? = some u) (h0 : μ1[μ.length]? = some (.ins c (μ.length + 1) ks ds)) (h1 : μ1[μ.length + 1]? = some (.idc μ.length)) (hb : D.lowbs μ.length ds = true) :
    ∃ F2, Le Z F F2 ∧ Sim K mg Z F2 ρ μ [] [] H1 ∧ Rep K mg F2 ρ (.ref x) (.ins c ks ds) := by
  have to : ∀ (k : Nat) p, ρ[k]? = some p → ρ1[k]? = some p := fun k p e => lr.to k p (by rw [List.getElem?_append_left (List.getElem?_eq_some_iff.mp e).1]; exact e)
  have i0 : ρ1[μ.length]? = some x := lr.to _ _ (by rw [← S.mlen]; simp)
  have i1 : ρ1[μ.length + 1]? = some dx := lr.to _ _ (by rw [← S.mlen]; simp)
  obtain ⟨S2, hk⟩ := S.shrink S1 to ht
  obtain ⟨a, ea, fa, za, C, dx', vs, hc, hdx, hH, n, r⟩ := S1.mem _ _ h0
  rw [i0] at ea; cases ea
  rw [i1] at hdx; cases hdx
  obtain ⟨b, eb, fb, zb, q, hq, hHd⟩ := S1.mem _ _ h1
  rw [i1] at eb; cases eb
  rw [i0] at hq; cases hq
  have nx : x ∉ ρ := fun hm => by
    obtain ⟨j, hj⟩ := List.getElem?_of_mem hm
    have h3 := to j x hj
    have h4 := (List.getElem?_inj (List.getElem?_eq_some_iff.mp i0).1 S1.nod).mp (i0.trans h3.symm)
    have := (List.getElem?_eq_some_iff.mp hj).1
    rw [S.mlen] at this
    omega
  have nd : dx ∉ ρ := fun hm => by
    obtain ⟨j, hj⟩ := List.getElem?_of_mem hm
    have h3 := to j dx hj
    have h4 := (List.getElem?_inj (List.getElem?_eq_some_iff.mp i1).1 S1.nod).mp (i1.trans h3.symm)
    have := (List.getElem?_eq_some_iff.mp hj).1
    rw [S.mlen] at this
    omega
  have ne : dx ≠ x := fun z => by
    subst z
    rw [hH] at hHd
    cases hHd
  obtain ⟨l1, S3⟩ := S2.freeze hH ⟨fa, za, nx⟩ fun i s e => by simp at e
  have fd : upd F1 x (.ins C dx (rowF ks vs)) dx = none := by rw [upd_ne ne]; exact fb
  obtain ⟨l2, S4⟩ := S3.freeze hHd ⟨fd, zb, nd⟩ fun i s e => by simp at e
  have l12 := l1.trans l2
  refine ⟨_, l.trans l12, S4, .ins (dx := dx) hc ?_ upd_same n ?_⟩
  · rw [upd_ne (Ne.symm ne), upd_same]
  · have hb' : D.lowbs ρ.length ds = true := by rw [S.mlen]; exact hb
    exact (RepL.down hk r hb').up l12.to fun _ _ z => z
end
end FL

/-! Part Cl: own classes: attributes read and stored, instances made, methods, properties. -/
namespace FL
open PySem PySem.Spec PyProof.Rows L2

/-- the instance that a value is: its class, its fields -/
def insOf (μ : Mem) : D → Option (String × List String × List D)
  | .ins c ks vs => some (c, ks, vs)
  | .obj k => match μ[k]? with
    | some (.ins c _ ks vs) => some (c, ks, vs)
    | _ => none
  | _ => none
def OR.self (δ : FL.Loc) : OR → Option D
  | .d x => some x
  | .i j => match δ[j]? with
    | some (some (.fr x)) => some x
    | _ => none
section
variable {K : PySem.W.Frag} {mg : Str → Option Value} {Z F F' : Hp} {ρ ρ' : List Addr} {μ : Mem} {δ : FL.Loc} {σ : L2.St} {H H' : Hp} {v : V} {d : D}
theorem OR.self_rep {r : OR} (S : Sim K mg Z F ρ μ δ σ H) (h : OrR K mg F ρ σ v r) (e : r.self δ = some d) : Rep K mg F ρ v d := by
  cases r with
  | d d' => cases e; exact h
  | i j =>
    have h' : σ[j]? = some (some v) := h
    have e : (match δ[j]? with | some (some (.fr x)) => some x | _ => none) = some d := e
    cases q : δ[j]? with
    | none => rw [q] at e; cases e
    | some o =>
      cases o with
      | none => rw [q] at e; cases e
      | some s =>
        cases s with
        | own o => rw [q] at e; cases e
        | fr d' =>
          rw [q] at e
          cases e
          obtain ⟨w, ew, r⟩ := S.slot j _ q
          rw [h'] at ew
          cases ew
          exact r
theorem ins_at {c : String} {ks : List String} {ds : List D} (S : Sim K mg Z F ρ μ δ σ H) (h : Rep K mg F ρ v d) (e : insOf μ d = some (c, ks, ds)) :
    ∃ p C dx vs, v = .ref p ∧ mg (Str.ofString c) = some (.ref C) ∧ H p = some (.ins C dx (rowF ks vs)) ∧ ks.length = vs.length ∧ RepL K mg F ρ vs ds := by
  cases h with
  | ins hc e1 e2 n r =>
    cases e
    exact ⟨_, _, _, _, rfl, hc, (S.le _ _ e1).elim (fun q => q) fun ⟨_, _, z, _⟩ => (nomatch z), n, r⟩
  | @obj k p hp =>
    have e : (match μ[k]? with | some (.ins c _ ks vs) => some (c, ks, vs) | _ => none) = some (c, ks, ds) := e
    cases q : μ[k]? with
    | none => rw [q] at e; cases e
    | some o =>
      cases o with
      | ins c' kd ks' vs' =>
        rw [q] at e
        cases e
        obtain ⟨a, ea, _, _, C, dx, vs, e1, e2, e3, n, r⟩ := S.mem k _ q
        rw [hp] at ea
        cases ea
        exact ⟨p, C, dx, vs, rfl, e1, e3, n, r⟩
      | _ => rw [q] at e; cases e
  | _ => cases e
end

/-! ### attributes -/
inductive Att where
  | fld | con (d : D) | no
def Att.isF : Att → Bool
  | .fld => true
  | _ => false
theorem Att.isF_eq {a : Att} (h : a.isF = true) : a = .fld := by cases a <;> first | rfl | cases h
/-- what is said of the attribute f of the class at C -/
def AttOk (K : PySem.W.Frag) (mg : Str → Option Value) (f : String) (C : Addr) : Att → Prop
  | .fld => NoAttr K C (Str.ofString f)
  | .con d => ∃ v u, Con K C (Str.ofString f) v u ∧ ∀ F ρ, Rep K mg F ρ v d
  | .no => True
def AttsOk (K : PySem.W.Frag) (mg : Str → Option Value) (at_ : String → String → Att) : Prop := ∀ c f C, at_ c f ≠ .no → mg (Str.ofString c) = some (.ref C) → Cls K C ∧ AttOk K mg f C (at_ c f)
def mAt (at_ : String → String → Att) (f : String) (o : Opn) : ME := fun δ μ => (o.ev δ μ).bind fun r δ1 μ1 => match (r.self δ1).bind (insOf μ1) with
  | some (c, ks, ds) => (match at_ c f with
    | .fld => lift ((getF ks ds f).map .fr) δ1 μ1
    | .con d => if getF ks ds f = none then .ok (.fr d) δ1 μ1 else .bad
    | .no => .bad)
  | none => .bad
section
variable {X : Cx} {W : WX} {k : Nat} {e o : Expr} {pos pos' : Pos} {oo : Opn} {f : String} {at_ : String → String → Att}
theorem VR.fr' {Z F : Hp} {ρ : List Addr} {δ : FL.Loc} {σ : L2.St} {H : Hp} {v : V} {d : D} (r : Rep X.K X.mg F ρ v d) : VR X.K X.mg Z F ρ δ σ H v (.fr d) := ⟨r, fun o p z => by cases z⟩
/-- e.f: an attribute of the instance, or a constant of its class -/
def tAt (K : PySem.W.Frag) (ta : TE) (f : Str) : TE := fun σ H Q => ta σ H fun x H1 => ∃ a C dx fs, x = .ref a ∧ H1 a = some (.ins C dx fs) ∧ Cls K C ∧ ((NoAttr K C f ∧ ∃ v, fs.lookup f = some v ∧ Q v H1) ∨ ∃ v u, Con K C f v u ∧ fs.lookup f = none ∧ Q v H1)
theorem pe_at {ta : TE} {f : Str} (he : PE X e ta) (hb : attributeBase e f X.env (eval e X.env) = eval e X.env) : PE X (.Attribute e f pos) (tAt X.K ta f) :=
  ⟨fun pins s σ H Q I h => attr_of hb (thn (he.run pins s σ H _ I h) fun u s1 ⟨x, H1, I1, rx, a, C, dx, fs, ex, ea, c, q⟩ => by
    subst ex
    obtain rfl : u = Value.ref a := rx
    rcases q with ⟨n, v, l, q⟩ | ⟨v, u0, k, l, q⟩
    · exact getattr_ok I1 ea c n l fun u' s2 I2 ru => ⟨v, H1, I2, ru, q⟩
    · exact getcon_ok I1 ea c k l fun s2 I2 => ⟨v, H1, I2, k.rel, q⟩)⟩
theorem je_at (AO : AttsOk X.K X.mg at_) (ho : JO X W o oo) (hb : attributeBase o (Str.ofString f) X.env (eval o X.env) = eval o X.env := by rfl) : JE X W (.Attribute o (Str.ofString f) pos) (mAt at_ f oo) := by
  refine (pe_at ho hb).imp fun σ H Q ⟨Z, F, ρ, μ, δ, S, q⟩ => ⟨Z, F, ρ, μ, δ, S, (FinE.bind q).imp fun r δ1 μ1 H1 F1 ρ1 l lr S1 ⟨_, _, _, p⟩ x hx => ?_⟩
  cases es : (r.self δ1).bind (insOf μ1) with
  | none => simp only [es] at p; exact p.elim
  | some t =>
    obtain ⟨c, ks, ds⟩ := t
    simp only [es] at p
    obtain ⟨d, e1, e2⟩ := Option.bind_eq_some_iff.mp es
    obtain ⟨a, C, dx, vs, rfl, hc, hH, n, rl⟩ := ins_at S1 (OR.self_rep S1 hx e1) e2
    have ao := AO c f C
    cases ea : at_ c f with
    | no => simp only [ea] at p; exact p.elim
    | fld =>
      simp only [ea] at p ao
      obtain ⟨cl, no⟩ := ao (fun z => nomatch z) hc
      unfold lift at p
      cases eg : getF ks ds f with
      | none => simp only [eg] at p; exact p.elim
      | some d' =>
        simp only [eg] at p
        obtain ⟨v, lv, rv⟩ := getF_row rl eg
        exact ⟨a, C, dx, _, rfl, hH, cl, .inl ⟨no, v, lv, p H1 F1 ρ1 .refl .refl S1 v (VR.fr' rv)⟩⟩
    | con d' =>
      simp only [ea] at p ao
      obtain ⟨cl, v, u, co, rv⟩ := ao (fun z => nomatch z) hc
      by_cases eg : getF ks ds f = none
      · rw [if_pos eg] at p
        exact ⟨a, C, dx, _, rfl, hH, cl, .inr ⟨v, u, co, getF_none rl n eg, p H1 F1 ρ1 .refl .refl S1 v (VR.fr' (rv F1 ρ1))⟩⟩
      · rw [if_neg eg] at p; exact p.elim
/-- o.f = e, o a shared instance -/
def mStF (at_ : String → String → Att) (f : String) (o : Opn) (m : ME) : MS := fun δ μ => (m δ μ).thn fun s δ1 μ1 => (o.ev δ1 μ1).thn fun r δ2 μ2 => match r.self δ2 with
  | some (.obj k) => (match μ2[k]? with
    | some (.ins c kd ks vs) => if (at_ c f).isF = true ∧ ks.length < 1000 then .nx δ2 (μ2.set k (.ins c kd (putNm ks f) (putVs ks vs f s.d))) else .bad
    | _ => .bad)
  | _ => .bad
theorem js_stF {m : ME} (AO : AttsOk X.K X.mg at_) (ho : JO X W o oo) (he : JE X W e m) (hs : swapsWith e (some (.Attribute o (Str.ofString f) pos')) pos.line X.env = pure false := by rfl) : JS X W (.Assign [.Attribute o (Str.ofString f) pos'] e pos) (mStF at_ f oo m) := by
  refine (ps_fld ho he.locked hs).imp fun D' σ H ⟨Z, F, ρ, μ, δ, S, q⟩ => ⟨Z, F, ρ, μ, δ, S, (FinS.thn q).imp fun s δ1 μ1 H1 F1 ρ1 l lr S1 ⟨_, p⟩ y hy => ?_⟩
  refine ⟨Z, F1, ρ1, μ1, δ1, S1, (FinS.thn p).imp fun r δ2 μ2 H2 F2 ρ2 l2 lr2 S2 ⟨_, p2⟩ x hx => ?_⟩
  have hy2 := hy.up l2.to lr2.to
  cases es : r.self δ2 with
  | none => simp only [es] at p2; exact p2.elim
  | some d =>
    cases d with
    | obj k =>
      simp only [es] at p2
      cases em : μ2[k]? with
      | none => simp only [em] at p2; exact p2.elim
      | some u =>
        cases u with
        | ins c kd ks vs =>
          simp only [em] at p2
          by_cases hc : (at_ c f).isF = true ∧ ks.length < 1000
          · rw [if_pos hc] at p2
            have hr := OR.self_rep S2 hx es
            cases hr with
            | obj hp =>
              obtain ⟨a, ea, f1, f2, C, dx, ws, e1, e2, e3, n, rl⟩ := S2.mem k _ em
              rw [hp] at ea
              cases ea
              have ao := AO c f C
              simp only [Att.isF_eq hc.1] at ao
              obtain ⟨cl, no⟩ := ao (fun z => nomatch z) e1
              obtain ⟨vs', g1, g2, g3⟩ := putF_row hy2 (f := f) rl n
              refine ⟨_, C, dx, _, rfl, e3, cl, no, ?_, ?_⟩
              · have : (rowF ks ws).length ≤ ks.length := by simp [rowF]; omega
                exact Nat.lt_of_le_of_lt this hc.2
              · rw [g1]
                exact p2.nx (S2.writeM em hp ⟨C, dx, vs', e1, e2, upd_same, g2, g3⟩)
          · rw [if_neg hc] at p2; exact p2.elim
        | _ => simp only [em] at p2; exact p2.elim
    | _ => simp only [es] at p2; exact p2.elim
end

/-! ### what may be called: functions and classes -/
/-- the object at a may be called: m does it; dds are the defaults behind the arguments -/
structure CallD (X : Cx) (k : Nat) (a : Addr) (m : MF) (n : Nat) (dds : List D) : Prop where
  ex : ∃ dvs : List V, (∀ F ρ, RepL X.K X.mg F ρ dvs dds) ∧ (RmG k X.A → ∀ (pins : List (Addr × Obj)) (σ : L2.St) (H : Hp) (s : Shared) (us : List Value) (vs : List V) (Q : VK) (E : XK), PassesAt (L2.CX X.prog X.w) X σ E → Inv X pins σ H s → Vals vs us →
    spM X.K X.mg m n (vs ++ dvs) H Q E → wpAny (model X.prog X.w) X.A (call (.ref a) us) (EP X pins σ Q) X.xe s)
section
variable {X : Cx} {W : WX} {k j n : Nat} {N : List Str} {sc : Scope} {e : Expr} {es : List Expr} {pos p : Pos} {f C : Addr} {fd : FuncData} {ps : List Str} {ds : List Value} {dvs : List V} {dds : List D} {m : MF} {x : Str}
theorem CallD.fn (F : FnG X.prog X.w X.K X.mg X.base (L2.CX X.prog X.w) j f fd ps (spM X.K X.mg m n)) (hb : Binds X.K fd ps ds) (hd : Vals dvs ds) (hdd : ∀ F ρ, RepL X.K X.mg F ρ dvs dds) : CallD X j f m n dds :=
  ⟨dvs, hdd, fun hr pins σ H s us vs Q E hx I r h => run_callG (E := fun _ => E) F hr hb hd hx I r h⟩
theorem CallD.of (F : FuX X j x m n dds) : ∃ a, X.mg x = some (.ref a) ∧ PySem.W.keepIn X.K (.ref a) = true ∧ CallD X j a m n dds := by
  obtain ⟨f, fd, ps, ds, dvs, F, hm, hk, hb, hd, hdd⟩ := F.ex
  exact ⟨f, hm, hk, .fn F hb hd hdd⟩
/-- an instance that is shared when it is made -/
def mkS0 (c : String) (mi : MF) : MF := fun ds μ => match mi (.obj μ.length :: ds) (μ ++ [.ins c (μ.length + 1) [] [], .idc μ.length]) with
  | .ok (.fr .non) μ' => OutF.ok (.fr (.obj μ.length)) μ'
  | .exc x μ' => .exc x μ'
  | _ => .bad
noncomputable def mkS (c : String) (mi : MF) : MF := Classical.choose (sealed (mkS0 c mi))
theorem mkS_eq {c : String} {mi : MF} {ds : List D} {μ : Mem} : mkS c mi ds μ = mkS0 c mi ds μ := congrFun (congrFun (Classical.choose_spec (sealed (mkS0 c mi))) ds) μ
/-- what stood in memory stands there still -/
def Keeps (μ μ' : Mem) : Prop := ∀ (j : Nat) u, μ[j]? = some u → μ'[j]? = some u
open Classical in
/-- the new instance, locked -/
noncomputable def lockI (c : String) (μ : Mem) : OutF → OutF
  | .ok (.fr .non) μ' => (match μ'[μ.length]?, μ'[μ.length + 1]? with
    | some (.ins c' kd ks vs), some (.idc k) => if (c' = c ∧ kd = μ.length + 1 ∧ k = μ.length) ∧ Keeps μ μ' ∧ D.lowbs μ.length vs = true then .ok (.fr (.ins c ks vs)) μ else .bad
    | _, _ => .bad)
  | .exc x μ' => if Keeps μ μ' ∧ D.lowb μ.length x.arg = true then .exc x μ else .bad
  | _ => .bad
/-- an instance that never changes once it is made -/
noncomputable def mkF0 (c : String) (mi : MF) : MF := fun ds μ => lockI c μ (mi (.obj μ.length :: ds) (μ ++ [.ins c (μ.length + 1) [] [], .idc μ.length]))
noncomputable def mkF (c : String) (mi : MF) : MF := Classical.choose (sealed (mkF0 c mi))
theorem mkF_eq {c : String} {mi : MF} {ds : List D} {μ : Mem} : mkF c mi ds μ = mkF0 c mi ds μ := congrFun (congrFun (Classical.choose_spec (sealed (mkF0 c mi))) ds) μ
end
section
variable {K : PySem.W.Frag} {mg : Str → Option Value} {H : Hp} {C x dx : Addr} {c : String} {mi : MF} {n : Nat} {vs : List V} {Q : VK} {E : XK}
theorem ExcR.down {F1 : Hp} {ρ ρ1 : List Addr} {cv : Value} {d : Option Addr} {xx : Exc} {k : Nat} (hk : ∀ j, j < k → ∀ p, ρ1[j]? = some p → ρ[j]? = some p) (h : ExcR K mg F1 ρ1 cv d xx) (hb : D.lowb k xx.arg = true) : ExcR K mg F1 ρ cv d xx := by
  obtain ⟨Cc, dd, v, h1, h2, h3, h4, h5⟩ := h
  exact ⟨Cc, dd, v, h1, h2, h3, h4, h5.down hk hb⟩
theorem new_spS (hc : mg (Str.ofString c) = some (.ref C)) (hx : H x = none) (hd : H dx = none) (ne : dx ≠ x) (h : spM K mg (mkS c mi) n vs H Q E) :
    spM K mg mi (n + 1) (.ref x :: vs) (upd (upd H dx (.own x)) x (.ins C dx [])) (fun v H2 => v = .non ∧ Q (.ref x) H2) E := by
  obtain ⟨hl, Z, F, ρ, μ, ds, S, r, q⟩ := h
  obtain ⟨S2, lr, rp⟩ := S.newIns hx hd ne hc
  refine ⟨by rw [List.length_cons, hl], Z, F, _, _, .obj μ.length :: ds, S2, .cons rp (r.up (fun _ _ z => z) lr.to), ?_⟩
  rw [mkS_eq] at q
  unfold mkS0 at q
  generalize mi (.obj μ.length :: ds) (μ ++ [.ins c (μ.length + 1) [] [], .idc μ.length]) = o at q
  cases o with
  | bad => exact q
  | exc xx μ' => exact fun cv d H' F' ρ' l lr' S' er => q cv d H' F' ρ' l (lr.trans lr') S' er
  | ok s μ' =>
    cases s with
    | own o => exact q.elim
    | fr d =>
      cases d with
      | non =>
        intro v H' F' ρ' l lr' S' rv
        cases rv
        exact ⟨rfl, q (.ref x) H' F' ρ' l (lr.trans lr') S' (rp.up l.to lr'.to)⟩
      | _ => exact q.elim
theorem new_spF (hc : mg (Str.ofString c) = some (.ref C)) (hx : H x = none) (hd : H dx = none) (ne : dx ≠ x) (h : spM K mg (mkF c mi) n vs H Q E) :
    spM K mg mi (n + 1) (.ref x :: vs) (upd (upd H dx (.own x)) x (.ins C dx [])) (fun v H2 => v = .non ∧ Q (.ref x) H2) E := by
  obtain ⟨hl, Z, F, ρ, μ, ds, S, r, q⟩ := h
  obtain ⟨S2, lr, rp⟩ := S.newIns hx hd ne hc
  refine ⟨by rw [List.length_cons, hl], Z, F, _, _, .obj μ.length :: ds, S2, .cons rp (r.up (fun _ _ z => z) lr.to), ?_⟩
  rw [mkF_eq] at q
  unfold mkF0 at q
  generalize mi (.obj μ.length :: ds) (μ ++ [.ins c (μ.length + 1) [] [], .idc μ.length]) = o at q
  cases o with
  | bad => exact q
  | exc xx μ' =>
    intro cv d H' F' ρ' l lr' S' er
    unfold lockI at q
    dsimp only at q
    by_cases hk : Keeps μ μ' ∧ D.lowb μ.length xx.arg = true
    · rw [if_pos hk] at q
      obtain ⟨S3, dn⟩ := S.shrink S' (fun j p e => lr'.to j p (lr.to j p e)) hk.1
      exact q cv d H' F' ρ l .refl S3 (ExcR.down dn er (by rw [S.mlen]; exact hk.2))
    · rw [if_neg hk] at q; exact q.elim
  | ok s μ' =>
    cases s with
    | own o => exact q.elim
    | fr d =>
      cases d with
      | non =>
        intro v H' F' ρ' l lr' S' rv
        cases rv
        refine ⟨rfl, ?_⟩
        unfold lockI at q
        cases e0 : μ'[μ.length]? with
        | none => simp only [e0] at q; exact q.elim
        | some u0 =>
          cases u0 with
          | ins c' kd ks ws =>
            cases e1 : μ'[μ.length + 1]? with
            | none => simp only [e0, e1] at q; exact q.elim
            | some u1 =>
              cases u1 with
              | idc k =>
                simp only [e0, e1] at q
                by_cases hk : (c' = c ∧ kd = μ.length + 1 ∧ k = μ.length) ∧ Keeps μ μ' ∧ D.lowbs μ.length ws = true
                · rw [if_pos hk] at q
                  obtain ⟨⟨rfl, rfl, rfl⟩, h2, h3⟩ := hk
                  obtain ⟨F2, l2, S3, rp2⟩ := S.settle S' l lr' h2 e0 e1 h3
                  exact q (.ref x) H' F2 ρ l2 .refl S3 rp2
                · rw [if_neg hk] at q; exact q.elim
              | _ => simp only [e0, e1] at q; exact q.elim
          | _ => simp only [e0] at q; exact q.elim
      | _ => exact q.elim
end
section
variable {X : Cx} {W : WX} {k j n : Nat} {N : List Str} {sc : Scope} {e : Expr} {es : List Expr} {pos p : Pos} {f C : Addr} {fd : FuncData} {ps : List Str} {ds : List Value} {dvs : List V} {dds : List D} {m mi : MF} {x : Str} {c : String}
theorem RmG.make {A : Around} (r : RmG (k + 1) A) (C : Addr) (us : List Value) (kw : List (Str × Value)) : RmG k (A.under (.builtin "type.__call__" ⟨.ref C :: us, kw⟩)) :=
  ⟨r.r.make C us kw, by have := r.g; first | exact this | (simp [Around.under]; exact this)⟩
/-- a class is called -/
theorem run_makeG {pins : List (Addr × Obj)} {σ : L2.St} {H : Hp} {s : Shared} {Q : VK} {E : XK} {us : List Value} {vs : List V} (M : Mk X.K C f) (F : FnG X.prog X.w X.K X.mg X.base (L2.CX X.prog X.w) j f fd ps (spM X.K X.mg mi (n + 1))) (hr : RmG (j + 1) X.A) (hb : Binds X.K fd ps ds)
    (hd : Vals dvs ds) (hx : PassesAt (L2.CX X.prog X.w) X σ E) (I : Inv X pins σ H s) (r : Vals vs us)
    (h : ∀ xa dx, H xa = none → H dx = none → dx ≠ xa → spM X.K X.mg mi (n + 1) (.ref xa :: (vs ++ dvs)) (upd (upd H dx (.own xa)) xa (.ins C dx [])) (fun v H2 => v = .non ∧ Q (.ref xa) H2) E) :
    wpAny (model X.prog X.w) X.A (call (.ref C) us) (EP X pins σ Q) X.xe s := by
  have new := h (s.heap.objs.size + 1) s.heap.objs.size (I.hok.fresh (Nat.le_succ _)) (I.hok.fresh (Nat.le_refl _)) (Nat.ne_of_lt (Nat.lt_succ_self _))
  have J := Inv.made (C := C) I
  have rv : Vals (V.ref (s.heap.objs.size + 1) :: (vs ++ dvs)) (Value.ref (s.heap.objs.size + 1) :: (us ++ ds)) := .cons rfl (r.append hd)
  have many : (Value.ref (s.heap.objs.size + 1) :: us ++ ds).length = ps.length := (F.len _ _ _ _ new ▸ rv.length).symm
  refine wpAny_call (make_map (f := f) I.kIn M.makes M.init (beq_iff_eq.mp M.fn) (codeAny_mono (F.run _ X.stack _ _ ⟨Value.ref (s.heap.objs.size + 1) :: us, []⟩ _ _ _ E (hr.make C us []) (J.env0.make C us []) (hb _ (Value.ref (s.heap.objs.size + 1) :: us) J.kIn many) rv new) fun res t ht => ?_))
  match res, ht with
  | .error er, ht => exact hx pins _ _ er t J ht
  | .ok (.ret u), ht =>
    obtain ⟨v, H', I3, rvu, ev, q3⟩ := J.after ht
    cases ev
    exact ⟨rvu, V.ref (s.heap.objs.size + 1), H', I3, rfl, q3⟩
theorem CallD.mkF (hc : X.mg (Str.ofString c) = some (.ref C)) (M : Mk X.K C f) (F : FnG X.prog X.w X.K X.mg X.base (L2.CX X.prog X.w) j f fd ps (spM X.K X.mg mi (n + 1))) (hb : Binds X.K fd ps ds) (hd : Vals dvs ds) (hdd : ∀ F ρ, RepL X.K X.mg F ρ dvs dds) : CallD X (j + 1) C (FL.mkF c mi) n dds :=
  ⟨dvs, hdd, fun hr pins σ H s us vs Q E hx I r h => run_makeG M F hr hb hd hx I r fun xa dx h1 h2 h3 => new_spF hc h1 h2 h3 h⟩
theorem CallD.mkS (hc : X.mg (Str.ofString c) = some (.ref C)) (M : Mk X.K C f) (F : FnG X.prog X.w X.K X.mg X.base (L2.CX X.prog X.w) j f fd ps (spM X.K X.mg mi (n + 1))) (hb : Binds X.K fd ps ds) (hd : Vals dvs ds) (hdd : ∀ F ρ, RepL X.K X.mg F ρ dvs dds) : CallD X (j + 1) C (FL.mkS c mi) n dds :=
  ⟨dvs, hdd, fun hr pins σ H s us vs Q E hx I r h => run_makeG M F hr hb hd hx I r fun xa dx h1 h2 h3 => new_spS hc h1 h2 h3 h⟩
end
end FL

/-! Part Cm: calls of what a global name holds: functions and classes, also with keywords. -/
namespace FL
open PySem PySem.Spec PyProof.Rows L2
/-- where a parameter's value comes from -/
inductive Sel where
  | pos (i : Nat) | key (i : Nat) | dfl (i : Nat)
def Sel.get {α : Type} (vs ds zs : List α) : Sel → Option α
  | .pos i => vs[i]?
  | .key i => zs[i]?
  | .dfl i => ds[i]?
def pickS {α : Type} (sel : List Sel) (vs ds zs : List α) : List α := sel.filterMap (Sel.get vs ds zs)
theorem vals_nth : ∀ {vs : List V} {us : List Value}, Vals vs us → ∀ i : Nat, (vs[i]? = none ∧ us[i]? = none) ∨ ∃ v u, vs[i]? = some v ∧ us[i]? = some u ∧ RelV v u
  | _, _, .nil, i => .inl ⟨rfl, rfl⟩
  | _, _, .cons h t, 0 => .inr ⟨_, _, rfl, rfl, h⟩
  | _, _, .cons h t, i + 1 => by simpa using vals_nth t i
theorem rep_nth {K : PySem.W.Frag} {mg : Str → Option Value} {F : Hp} {ρ : List Addr} : ∀ {vs : List V} {ds : List D}, RepL K mg F ρ vs ds → ∀ i : Nat, (vs[i]? = none ∧ ds[i]? = none) ∨ ∃ v d, vs[i]? = some v ∧ ds[i]? = some d ∧ Rep K mg F ρ v d
  | _, _, .nil, i => .inl ⟨rfl, rfl⟩
  | _, _, .cons h t, 0 => .inr ⟨_, _, rfl, rfl, h⟩
  | _, _, .cons h t, i + 1 => by simpa using rep_nth t i
theorem pickS_vals {vs dv zs : List V} {us dw ws : List Value} (h1 : Vals vs us) (h2 : Vals dv dw) (h3 : Vals zs ws) : ∀ sel : List Sel, Vals (pickS sel vs dv zs) (pickS sel us dw ws)
  | [] => .nil
  | a :: sel => by
    have ih := pickS_vals h1 h2 h3 sel
    have q : (a.get vs dv zs = none ∧ a.get us dw ws = none) ∨ ∃ v u, a.get vs dv zs = some v ∧ a.get us dw ws = some u ∧ RelV v u := by
      cases a with
      | pos i => exact vals_nth h1 i
      | key i => exact vals_nth h3 i
      | dfl i => exact vals_nth h2 i
    unfold pickS at ih ⊢
    rcases q with ⟨e1, e2⟩ | ⟨v, u, e1, e2, r⟩
    · rw [List.filterMap_cons_none e1, List.filterMap_cons_none e2]; exact ih
    · rw [List.filterMap_cons_some e1, List.filterMap_cons_some e2]; exact .cons r ih
theorem pickS_rep {K : PySem.W.Frag} {mg : Str → Option Value} {F : Hp} {ρ : List Addr} {vs dv zs : List V} {us dw ws : List D} (h1 : RepL K mg F ρ vs us) (h2 : RepL K mg F ρ dv dw) (h3 : RepL K mg F ρ zs ws) : ∀ sel : List Sel, RepL K mg F ρ (pickS sel vs dv zs) (pickS sel us dw ws)
  | [] => .nil
  | a :: sel => by
    have ih := pickS_rep h1 h2 h3 sel
    have q : (a.get vs dv zs = none ∧ a.get us dw ws = none) ∨ ∃ v u, a.get vs dv zs = some v ∧ a.get us dw ws = some u ∧ Rep K mg F ρ v u := by
      cases a with
      | pos i => exact rep_nth h1 i
      | key i => exact rep_nth h3 i
      | dfl i => exact rep_nth h2 i
    unfold pickS at ih ⊢
    rcases q with ⟨e1, e2⟩ | ⟨v, u, e1, e2, r⟩
    · rw [List.filterMap_cons_none e1, List.filterMap_cons_none e2]; exact ih
    · rw [List.filterMap_cons_some e1, List.filterMap_cons_some e2]; exact .cons r ih
/-- how n positional values and the keywords ks are bound -/
def BindW (K : PySem.W.Frag) (fd : FuncData) (ps : List Str) (n : Nat) (ks : List Str) (sel : List Sel) (dw : List Value) : Prop :=
  ∀ (s : Shared) (us ws : List Value), K.In s.heap → us.length = n → ws.length = ks.length → BindsTo s fd ⟨us, ks.zip ws⟩ (ps.zip (pickS sel us dw ws))
/-- .. behind self -/
def BindW1 (K : PySem.W.Frag) (fd : FuncData) (ps : List Str) (n : Nat) (ks : List Str) (sel : List Sel) (dw : List Value) : Prop :=
  ∀ (s : Shared) (x : Value) (us ws : List Value), K.In s.heap → us.length = n → ws.length = ks.length → BindsTo s fd ⟨x :: us, ks.zip ws⟩ (ps.zip (x :: pickS sel us dw ws))
/-- the object at a may be called with n values and the keywords ks -/
structure CallW (X : Cx) (k : Nat) (a : Addr) (n : Nat) (ks : List Str) (sel : List Sel) (m : MF) (N : Nat) (dds : List D) : Prop where
  kp : PySem.W.keepIn X.K (.ref a) = true
  len : ∀ {α : Type} (vs ds zs : List α), vs.length = n → ds.length = dds.length → zs.length = ks.length → (pickS sel vs ds zs).length = N
  ex : ∃ dvs : List V, (∀ F ρ, RepL X.K X.mg F ρ dvs dds) ∧ (RmG k X.A → ∀ (pins : List (Addr × Obj)) (σ : L2.St) (H : Hp) (s : Shared) (us ws : List Value) (vs zs : List V) (Q : VK) (E : XK), PassesAt (L2.CX X.prog X.w) X σ E → Inv X pins σ H s → Vals vs us → Vals zs ws → vs.length = n → zs.length = ks.length →
    spM X.K X.mg m N (pickS sel vs dvs zs) H Q E → wpAny (model X.prog X.w) X.A (call (.ref a) us (ks.zip ws)) (EP X pins σ Q) X.xe s)
section
variable {X : Cx} {W : WX} {k j n N : Nat} {e : Expr} {es : List Expr} {kws : List Keyword} {pos p : Pos} {f C a : Addr} {fd : FuncData} {ps ks : List Str} {ds : List Value} {dvs : List V} {dds : List D} {m mi : MF} {x : Str} {c : String} {sel : List Sel}
theorem Vals.len' {vs : List V} {us : List Value} (h : Vals vs us) : us.length = vs.length := h.length.symm
theorem run_callW {pins : List (Addr × Obj)} {σ : L2.St} {H : Hp} {s : Shared} {Q : VK} {E : XK} {us ws : List Value} {vs zs : List V} {sp : Sp} (F : FnG X.prog X.w X.K X.mg X.base (L2.CX X.prog X.w) j f fd ps sp) (hr : RmG j X.A) (hb : BindW X.K fd ps n ks sel ds) (hd : Vals dvs ds)
    (hx : PassesAt (L2.CX X.prog X.w) X σ E) (I : Inv X pins σ H s) (r : Vals vs us) (rz : Vals zs ws) (l1 : vs.length = n) (l2 : zs.length = ks.length) (h : sp (pickS sel vs dvs zs) H Q E) :
    wpAny (model X.prog X.w) X.A (call (.ref f) us (ks.zip ws)) (EP X pins σ Q) X.xe s := by
  refine wpAny_call (codeAny_mono (F.run X.A X.stack s H ⟨us, ks.zip ws⟩ _ _ Q E hr I.env0 (hb s us ws I.kIn (by rw [← r.length, l1]) (by rw [← rz.length, l2])) (pickS_vals r hd rz sel) h) fun res t ht => ?_)
  match res, ht with
  | .error er, ht => exact hx pins H s er t I ht
  | .ok (.ret u), ht => exact I.after ht
theorem CallW.fn (F : FnG X.prog X.w X.K X.mg X.base (L2.CX X.prog X.w) j f fd ps (spM X.K X.mg m N)) (hk : PySem.W.keepIn X.K (.ref f) = true) (hb : BindW X.K fd ps n ks sel ds) (hd : Vals dvs ds) (hdd : ∀ F ρ, RepL X.K X.mg F ρ dvs dds)
    (len : ∀ {α : Type} (vs ds zs : List α), vs.length = n → ds.length = dds.length → zs.length = ks.length → (pickS sel vs ds zs).length = N) : CallW X j f n ks sel m N dds :=
  ⟨hk, len, dvs, hdd, fun hr pins σ H s us ws vs zs Q E hx I r rz l1 l2 h => run_callW F hr hb hd hx I r rz l1 l2 h⟩
/-- a class is called -/
theorem run_makeW {pins : List (Addr × Obj)} {σ : L2.St} {H : Hp} {s : Shared} {Q : VK} {E : XK} {us ws : List Value} {vs zs : List V} (M : Mk X.K C f) (F : FnG X.prog X.w X.K X.mg X.base (L2.CX X.prog X.w) j f fd ps (spM X.K X.mg mi (N + 1))) (hr : RmG (j + 1) X.A)
    (hb : BindW1 X.K fd ps n ks sel ds) (hd : Vals dvs ds) (hx : PassesAt (L2.CX X.prog X.w) X σ E) (I : Inv X pins σ H s) (r : Vals vs us) (rz : Vals zs ws) (l1 : vs.length = n) (l2 : zs.length = ks.length)
    (h : ∀ xa dx, H xa = none → H dx = none → dx ≠ xa → spM X.K X.mg mi (N + 1) (.ref xa :: pickS sel vs dvs zs) (upd (upd H dx (.own xa)) xa (.ins C dx [])) (fun v H2 => v = .non ∧ Q (.ref xa) H2) E) :
    wpAny (model X.prog X.w) X.A (call (.ref C) us (ks.zip ws)) (EP X pins σ Q) X.xe s := by
  have new := h (s.heap.objs.size + 1) s.heap.objs.size (I.hok.fresh (Nat.le_succ _)) (I.hok.fresh (Nat.le_refl _)) (Nat.ne_of_lt (Nat.lt_succ_self _))
  have J := Inv.made (C := C) I
  have rv : Vals (V.ref (s.heap.objs.size + 1) :: pickS sel vs dvs zs) (Value.ref (s.heap.objs.size + 1) :: pickS sel us ds ws) := .cons rfl (pickS_vals r hd rz sel)
  have b := hb _ (Value.ref (s.heap.objs.size + 1)) us ws J.kIn (by rw [← r.length, l1]) (by rw [← rz.length, l2])
  refine wpAny_call (make_map (f := f) I.kIn M.makes M.init (beq_iff_eq.mp M.fn) (codeAny_mono (F.run _ X.stack _ _ ⟨Value.ref (s.heap.objs.size + 1) :: us, ks.zip ws⟩ _ _ _ E (hr.make C us (ks.zip ws)) (J.env0.make C us (ks.zip ws)) b rv new) fun res t ht => ?_))
  match res, ht with
  | .error er, ht => exact hx pins _ _ er t J ht
  | .ok (.ret u), ht =>
    obtain ⟨v, H', I3, rvu, ev, q3⟩ := J.after ht
    cases ev
    exact ⟨rvu, V.ref (s.heap.objs.size + 1), H', I3, rfl, q3⟩
theorem CallW.mkF (hc : X.mg (Str.ofString c) = some (.ref C)) (M : Mk X.K C f) (F : FnG X.prog X.w X.K X.mg X.base (L2.CX X.prog X.w) j f fd ps (spM X.K X.mg mi (N + 1))) (hb : BindW1 X.K fd ps n ks sel ds) (hd : Vals dvs ds) (hdd : ∀ F ρ, RepL X.K X.mg F ρ dvs dds)
    (len : ∀ {α : Type} (vs ds zs : List α), vs.length = n → ds.length = dds.length → zs.length = ks.length → (pickS sel vs ds zs).length = N) : CallW X (j + 1) C n ks sel (FL.mkF c mi) N dds :=
  ⟨M.kp, len, dvs, hdd, fun hr pins σ H s us ws vs zs Q E hx I r rz l1 l2 h => run_makeW M F hr hb hd hx I r rz l1 l2 fun xa dx h1 h2 h3 => new_spF hc h1 h2 h3 h⟩
theorem CallW.mkS (hc : X.mg (Str.ofString c) = some (.ref C)) (M : Mk X.K C f) (F : FnG X.prog X.w X.K X.mg X.base (L2.CX X.prog X.w) j f fd ps (spM X.K X.mg mi (N + 1))) (hb : BindW1 X.K fd ps n ks sel ds) (hd : Vals dvs ds) (hdd : ∀ F ρ, RepL X.K X.mg F ρ dvs dds)
    (len : ∀ {α : Type} (vs ds zs : List α), vs.length = n → ds.length = dds.length → zs.length = ks.length → (pickS sel vs ds zs).length = N) : CallW X (j + 1) C n ks sel (FL.mkS c mi) N dds :=
  ⟨M.kp, len, dvs, hdd, fun hr pins σ H s us ws vs zs Q E hx I r rz l1 l2 h => run_makeW M F hr hb hd hx I r rz l1 l2 fun xa dx h1 h2 h3 => new_spS hc h1 h2 h3 h⟩
/-! ### the calls -/
def tCallW (sp : Sp) (n l : Nat) (sel : List Sel) (dvs : List V) (E : L2.St → XK) (t tk : TA) : TE := fun σ H Q => t σ H fun vs H1 => tk σ H1 fun zs H2 => vs.length = n ∧ zs.length = l ∧ sp (pickS sel vs dvs zs) H2 Q (E σ)
theorem pe_callW {E : L2.St → XK} {t tk : TA} {sp : Sp} (hk : PySem.W.keepIn X.K (.ref a) = true) (hr : ∀ (pins : List (Addr × Obj)) (σ : L2.St) (H : Hp) (s : Shared) (us ws : List Value) (vs zs : List V) (Q : VK) (E : XK), PassesAt (L2.CX X.prog X.w) X σ E → Inv X pins σ H s → Vals vs us → Vals zs ws → vs.length = n → zs.length = ks.length →
      sp (pickS sel vs dvs zs) H Q E → wpAny (model X.prog X.w) X.A (call (.ref a) us (ks.zip ws)) (EP X pins σ Q) X.xe s)
    (hg : Gl X x) (hm : X.mg x = some (.ref a)) (hx : ∀ σ, PassesAt (L2.CX X.prog X.w) X σ (E σ)) (ha : PA X (e :: es) t) (hkw : PK X kws tk) (hdb : (x == ("__debug__" : Str)) = false)
    (hall : (backToKw pos (keywordEach kws X.env)).all (·.1.isSome) = true) (hks : (backToKw pos (keywordEach kws X.env)).filterMap (·.1) = ks)
    (he : starEach (e :: es) X.env = (false, eval e X.env) :: starEach es X.env) (hpl : ((backTo pos (starEach (e :: es) X.env)).any (·.1) || (backToKw pos (keywordEach kws X.env)).any (·.1.isNone)) = false) :
    PE X (.Call (.Name x p) (e :: es) kws pos) (tCallW sp n ks.length sel dvs E t tk) := by
  refine ⟨fun pins s σ H Q I h => wpAny_Call_Name_kw (ld_glob I hg hm (PySem.W.callWith_KW (h₀ := X.base) I.ok.mod.kin hk hall (thn (ha.run pos pins s σ H _ I h) fun us s1 ⟨vs, H1, I1, r, q⟩ => thn (hkw.run pos pins s1 σ H1 _ I1 q) fun ws s2 ⟨zs, H2, I2, rz, l1, l2, q2⟩ => ⟨I2.kIn, ?_⟩) hpl he) hdb)⟩
  rw [hks]
  exact hr pins σ H2 s2 us ws vs zs Q _ (hx σ) I2 r rz l1 l2 q2
theorem pe_callW0 {E : L2.St → XK} {tk : TA} {sp : Sp} (hk : PySem.W.keepIn X.K (.ref a) = true) (hr : ∀ (pins : List (Addr × Obj)) (σ : L2.St) (H : Hp) (s : Shared) (us ws : List Value) (vs zs : List V) (Q : VK) (E : XK), PassesAt (L2.CX X.prog X.w) X σ E → Inv X pins σ H s → Vals vs us → Vals zs ws → vs.length = 0 → zs.length = ks.length →
      sp (pickS sel vs dvs zs) H Q E → wpAny (model X.prog X.w) X.A (call (.ref a) us (ks.zip ws)) (EP X pins σ Q) X.xe s)
    (hg : Gl X x) (hm : X.mg x = some (.ref a)) (hx : ∀ σ, PassesAt (L2.CX X.prog X.w) X σ (E σ)) (hkw : PK X kws tk) (hdb : (x == ("__debug__" : Str)) = false)
    (hall : (backToKw pos (keywordEach kws X.env)).all (·.1.isSome) = true) (hks : (backToKw pos (keywordEach kws X.env)).filterMap (·.1) = ks)
    (hpl : ((backTo pos (starEach [] X.env)).any (·.1) || (backToKw pos (keywordEach kws X.env)).any (·.1.isNone)) = false) :
    PE X (.Call (.Name x p) [] kws pos) (tCallW sp 0 ks.length sel dvs E tNil tk) := by
  refine ⟨fun pins s σ H Q I h => wpAny_Call_Name_kw (ld_glob I hg hm (PySem.W.callWith_KW0 (h₀ := X.base) I.ok.mod.kin hk hall (thn (hkw.run pos pins s σ H _ I h) fun ws s2 ⟨zs, H2, I2, rz, _, l2, q2⟩ => ⟨I2.kIn, ?_⟩) hpl) hdb)⟩
  rw [hks]
  exact hr pins σ H2 s2 [] ws [] zs Q _ (hx σ) I2 .nil rz rfl l2 q2
/-! ### keywords -/
abbrev JK (X : Cx) (W : WX) (kws : List Keyword) (ms : List ME) : Prop := PK X kws (rdA X W ms)
theorem pk_imp {t t' : TA} (h : PK X kws t) (i : ∀ σ H Q, t' σ H Q → t σ H Q) : PK X kws t' := ⟨fun pos pins s σ H Q I q => h.run pos pins s σ H Q I (i σ H Q q)⟩
theorem jk_nil : JK X W [] [] := pk_imp pk_nil fun σ H Q ⟨Z, F, ρ, μ, δ, S, q⟩ => q H F ρ .refl .refl S [] .nil
theorem jk_cons {nm : Option Str} {kpos : Pos} {m : ME} {ms : List ME} (h : JE X W e m) (t : JK X W kws ms) : JK X W (⟨nm, e, kpos⟩ :: kws) (m :: ms) := by
  refine pk_imp (pk_cons h.locked t) fun σ H Q ⟨Z, F, ρ, μ, δ, S, q⟩ => ?_
  have q' : FinE X W Z F ρ σ (fun ds _ _ F' ρ' H' => ∀ vs, RepL X.K X.mg F' ρ' vs ds → Q vs H') ((m δ μ).bind fun s δ1 μ1 => (evA ms δ1 μ1).bind fun ds δ2 μ2 => .ok (s.d :: ds) δ2 μ2) := q
  refine ⟨Z, F, ρ, μ, δ, S, q'.bind.imp fun s δ1 μ1 H1 F1 ρ1 l lr S1 ⟨_, _, _, z⟩ v hv => ?_⟩
  refine ⟨Z, F1, ρ1, μ1, δ1, S1, z.bind.imp fun ds δ2 μ2 H2 F2 ρ2 l2 lr2 S2 ⟨_, _, _, z2⟩ vs hvs => ?_⟩
  exact z2 H2 F2 ρ2 .refl .refl S2 (v :: vs) (.cons (hv.up l2.to lr2.to) hvs)
/-- a call: positional values, keywords' values, both in the parameters' order -/
def mCallK (m : MF) (sel : List Sel) (ms mks : List ME) (dds : List D) : ME := fun δ μ => (evA ms δ μ).bind fun ds δ1 μ1 => (evA mks δ1 μ1).bind fun zs δ2 μ2 => match m (pickS sel ds dds zs) μ2 with
  | .ok s μ3 => .ok s δ2 μ3
  | .exc x μ3 => .exc x δ2 μ3
  | .bad => .bad
theorem callW_read {ms mks : List ME} (hdd : ∀ F ρ, RepL X.K X.mg F ρ dvs dds) (len : ∀ {α : Type} (vs ds zs : List α), vs.length = n → ds.length = dds.length → zs.length = ks.length → (pickS sel vs ds zs).length = N) (h1 : ms.length = n) (h2 : mks.length = ks.length) :
    ∀ σ H Q, rdE X W (mCallK m sel ms mks dds) σ H Q → tCallW (spM X.K X.mg m N) n ks.length sel dvs (WE W) (rdA X W ms) (rdA X W mks) σ H Q := by
  intro σ H Q ⟨Z, F, ρ, μ, δ, S, q⟩
  refine ⟨Z, F, ρ, μ, δ, S, ?_⟩
  unfold mCallK at q
  cases ea : evA ms δ μ with
  | bad => rw [ea] at q; exact q
  | exc x δ1 μ1 => rw [ea] at q; exact q
  | ok ds δ1 μ1 =>
    rw [ea, Out.bind_ok] at q
    intro H1 F1 ρ1 l1 lr1 S1 vs hv
    refine ⟨Z, F1, ρ1, μ1, δ1, S1, ?_⟩
    cases eb : evA mks δ1 μ1 with
    | bad => rw [eb] at q; exact q
    | exc x δ2 μ2 => rw [eb] at q; exact q.mono l1 lr1
    | ok zs δ2 μ2 =>
      rw [eb, Out.bind_ok] at q
      intro H2 F2 ρ2 l2 lr2 S2 ws hw
      have q2 := (q.mono l1 lr1).mono l2 lr2
      have hv2 := hv.up l2.to lr2.to
      have l3 : vs.length = n := by rw [hv2.len, ← evA_len ea, h1]
      have l4 : ws.length = ks.length := by rw [hw.len, ← evA_len eb, h2]
      have hp := pickS_rep hv2 (hdd F2 ρ2) hw sel
      refine ⟨l3, l4, len vs dvs ws l3 (hdd F2 ρ2).len l4, zone Z H2 δ2 σ, F2, ρ2, μ2, pickS sel ds dds zs, S2.enter, hp, ?_⟩
      generalize m (pickS sel ds dds zs) μ2 = o at q2
      cases o with
      | ok s μ3 => exact fun v H' F' ρ' l lr S' rv => q2 H' F' ρ' (S2.leLeave l) (S2.leRLeave lr) (S2.leave S' l lr) v (S2.came rv)
      | exc x μ3 => exact fun c d H' F' ρ' l lr S' er => q2 c d H' F' ρ' (S2.leLeave l) (S2.leRLeave lr) (S2.leave S' l lr) er
      | bad => exact q2
/-- x(e, .., k = v, ..), what x is being said by CallW -/
theorem je_callW {sc : Scope} {nm : List Str} {ms mks : List ME} (Cc : Cs X W k nm sc) (F : CallW X j a n ks sel m N dds) (hm : X.mg x = some (.ref a)) (hjk : j ≤ k) (hg : glC sc x = true) (ha : JA X W (e :: es) ms) (hkw : JK X W kws mks) (h1 : ms.length = n) (h2 : mks.length = ks.length)
    (hall : (backToKw pos (keywordEach kws X.env)).all (·.1.isSome) = true := by rfl) (hks : (backToKw pos (keywordEach kws X.env)).filterMap (·.1) = ks := by rfl)
    (he : starEach (e :: es) X.env = (false, eval e X.env) :: starEach es X.env := by rfl) (hpl : ((backTo pos (starEach (e :: es) X.env)).any (·.1) || (backToKw pos (keywordEach kws X.env)).any (·.1.isNone)) = false := by rfl) :
    JE X W (.Call (.Name x p) (e :: es) kws pos) (mCallK m sel ms mks dds) := by
  obtain ⟨dvs, hdd, run⟩ := F.ex
  obtain ⟨g1, g2, g3⟩ := Cc.gl hg
  exact (pe_callW F.kp (run (Cc.rm.mono hjk)) g1 hm (passAt Cc.tk) ha hkw g2 hall hks he hpl).imp (callW_read hdd F.len h1 h2)
theorem je_callW0 {sc : Scope} {nm : List Str} {mks : List ME} (Cc : Cs X W k nm sc) (F : CallW X j a 0 ks sel m N dds) (hm : X.mg x = some (.ref a)) (hjk : j ≤ k) (hg : glC sc x = true) (hkw : JK X W kws mks) (h2 : mks.length = ks.length)
    (hall : (backToKw pos (keywordEach kws X.env)).all (·.1.isSome) = true := by rfl) (hks : (backToKw pos (keywordEach kws X.env)).filterMap (·.1) = ks := by rfl)
    (hpl : ((backTo pos (starEach [] X.env)).any (·.1) || (backToKw pos (keywordEach kws X.env)).any (·.1.isNone)) = false := by rfl) :
    JE X W (.Call (.Name x p) [] kws pos) (mCallK m sel [] mks dds) := by
  obtain ⟨dvs, hdd, run⟩ := F.ex
  obtain ⟨g1, g2, g3⟩ := Cc.gl hg
  refine (pe_callW0 F.kp (run (Cc.rm.mono hjk)) g1 hm (passAt Cc.tk) hkw g2 hall hks hpl).imp fun σ H Q h => ?_
  obtain ⟨Z, F', ρ, μ, δ, S, q⟩ := callW_read (W := W) (ms := []) hdd F.len rfl h2 σ H Q h
  exact q H F' ρ .refl .refl S [] .nil
end
end FL

/-! Part Cn: properties and methods of own classes; which class an instance has. -/
namespace FL
open PySem PySem.Spec PyProof.Rows L2
theorem RmG.in1 {A : Around} {k : Nat} (r : RmG (k + 1) A) : RmG k A.in1 := ⟨r.r.in1, r.g⟩
def noX : XK := fun _ _ _ => False
section
variable {X : Cx} {W : WX} {k j n N : Nat} {e o : Expr} {es : List Expr} {kws : List Keyword} {pos p apos : Pos} {C g a dx q : Addr} {fd : FuncData} {ps : List Str} {fs : List (Str × V)} {f : Str} {sp : Sp} {nm : Str}
theorem getprop_G {pins : List (Addr × Obj)} {σ : L2.St} {H : Hp} {s : Shared} {Q : VK} {b : Bool} {E' : Value → Shared → Prop} (I : Inv X pins σ H s) (ea : H a = some (.ins C dx fs)) (c : Cls X.K C) (hp : PropOf X.K C f q g)
    (F : FnG X.prog X.w X.K X.mg X.base (L2.CX X.prog X.w) k g fd [nm] sp) (hr : RmG (k + 1) X.A) (hb : Binds X.K fd [nm] []) (h : sp [.ref a] H Q noX) : wpAny (model X.prog X.w) X.A (getAttr (.ref a) f b) (EP X pins σ Q) E' s := by
  obtain ⟨mA, O, _, _, _, _⟩ := ins_get I.hok ea
  obtain ⟨od, J, _⟩ := O.look
  obtain ⟨rest, rc⟩ := hp.rec_
  have I1 := I.tok (s.toks + 1)
  have hc : (PySem.W.clsIn X.K C).isSome = true := by
    obtain ⟨cd, e, _⟩ := PySem.W.any_some c.hd
    rw [e] <;> rfl
  refine PySem.W.get_bind I.kIn J (PySem.W.plainGet_of (c.get f)).1 (PySem.W.findObj_data hc hp.at_ hp.get hp.tak) (PySem.W.plainGet_of (c.get f)).2 (wpAny_call (PySem.W.prop_get (s := { s with toks := s.toks + 1 }) (K := X.K) I.kIn rc ?_))
  refine codeAny_mono (F.run X.A.in1 X.stack { s with toks := s.toks + 1 } H ⟨[.ref a], []⟩ [.ref a] [.ref a] Q noX hr.in1 I1.env0.in1 (hb _ [.ref a] I1.kIn rfl) (.cons rfl .nil) h) fun res t ht => ?_
  match res, ht with
  | .error er, ⟨_, _, _, _, _, _, _, _, _, _, _, _, z⟩ => exact z.elim
  | .ok (.ret u), ht =>
    obtain ⟨v, H', I3, rv, q3⟩ := I1.after ht
    show wpAny _ _ (handedOut u) _ _ _
    rw [PySem.W.handedOut_of (handed_of rv)]
    exact wpAny_pure ⟨v, H', I3, rv, q3⟩
/-- the instances of the class c have the property f -/
def PropG (X : Cx) (j : Nat) (c f : String) (m : MF) : Prop :=
  ∀ C, X.mg (Str.ofString c) = some (.ref C) → Cls X.K C ∧ ∃ (p g : Addr) (fd : FuncData) (nm : Str), PropOf X.K C (Str.ofString f) p g ∧ FnG X.prog X.w X.K X.mg X.base (L2.CX X.prog X.w) j g fd [nm] (spM X.K X.mg m 1) ∧ Binds X.K fd [nm] []
def PropsOk (X : Cx) (j : Nat) (pt : String → String → Option MF) : Prop := ∀ c f m, pt c f = some m → PropG X j c f m
/-- o.f, a property -/
def mProp (pt : String → String → Option MF) (f : String) (o : Opn) : ME := fun δ μ => (o.ev δ μ).bind fun r δ1 μ1 => match r.self δ1 with
  | some d => (match insOf μ1 d with
    | some (c, _, _) => (match pt c f with
      | some m => (match m [d] μ1 with
        | .ok s μ2 => .ok s δ1 μ2
        | _ => .bad)
      | none => .bad)
    | none => .bad)
  | none => .bad
def tPropG (X : Cx) (ta : TE) (f : Str) (k : Nat) : TE := fun σ H Q => ta σ H fun x H1 => ∃ a C dx fs p g fd nm sp, x = .ref a ∧ H1 a = some (.ins C dx fs) ∧ Cls X.K C ∧ PropOf X.K C f p g ∧ FnG X.prog X.w X.K X.mg X.base (L2.CX X.prog X.w) k g fd [nm] sp ∧ Binds X.K fd [nm] [] ∧ sp [.ref a] H1 Q noX
theorem pe_propG {ta : TE} (he : PE X e ta) (hr : RmG (k + 1) X.A) (hb : attributeBase e f X.env (eval e X.env) = eval e X.env) : PE X (.Attribute e f pos) (tPropG X ta f k) :=
  ⟨fun pins s σ H Q I h => attr_of hb (thn (he.run pins s σ H _ I h) fun u s1 ⟨x, H1, I1, rx, a, C, dx, fs, p, g, fd, nm, sp, ex, ea, c, hp, F, b, q⟩ => by
    subst ex
    obtain rfl : u = Value.ref a := rx
    exact getprop_G I1 ea c hp F hr b q)⟩
theorem prop_read {pt : String → String → Option MF} {f : String} {oo : Opn} (P : PropsOk X j pt) : ∀ σ H Q, rdE X W (mProp pt f oo) σ H Q → tPropG X (rdO X W oo) (Str.ofString f) j σ H Q := by
  intro σ H Q ⟨Z, F, ρ, μ, δ, S, q⟩
  refine ⟨Z, F, ρ, μ, δ, S, (FinE.bind q).imp fun r δ1 μ1 H1 F1 ρ1 l lr S1 ⟨_, _, _, z⟩ x hx => ?_⟩
  cases e1 : r.self δ1 with
  | none => simp only [e1] at z; exact z.elim
  | some d =>
    simp only [e1] at z
    cases e2 : insOf μ1 d with
    | none => simp only [e2] at z; exact z.elim
    | some t =>
      obtain ⟨c, ks, ds⟩ := t
      simp only [e2] at z
      cases e3 : pt c f with
      | none => simp only [e3] at z; exact z.elim
      | some m =>
        simp only [e3] at z
        have hr := OR.self_rep S1 hx e1
        obtain ⟨a, C, dx, vs, rfl, hc, hH, n, rl⟩ := ins_at S1 hr e2
        obtain ⟨cl, p, g, fd, nm, hp, G, b⟩ := P c f m e3 C hc
        refine ⟨a, C, dx, _, p, g, fd, nm, spM X.K X.mg m 1, rfl, hH, cl, hp, G, b, rfl, zone Z H1 δ1 σ, F1, ρ1, μ1, [d], S1.enter, .cons hr .nil, ?_⟩
        generalize m [d] μ1 = o at z
        cases o with
        | ok s μ2 => exact fun v H' F' ρ' l lr S' rv => z H' F' ρ' (S1.leLeave l) (S1.leRLeave lr) (S1.leave S' l lr) v (S1.came rv)
        | exc x μ2 => exact z.elim
        | bad => exact z.elim
theorem Cs.prop {sc : Scope} {nl : List Str} {pt : String → String → Option MF} {f : String} {oo : Opn} (Cc : Cs X W k nl sc) (P : PropsOk X j pt) (hjk : j + 1 ≤ k) (ho : JO X W o oo) (hb : attributeBase o (Str.ofString f) X.env (eval o X.env) = eval o X.env := by rfl) : JE X W (.Attribute o (Str.ofString f) pos) (mProp pt f oo) :=
  (pe_propG ho (Cc.rm.mono hjk) hb).imp (prop_read P)
/-! ### methods -/
/-- the instances of the class c have the method f, called with n values -/
def MethG (X : Cx) (j : Nat) (c f : String) (n : Nat) (m : MF) : Prop :=
  ∀ C, X.mg (Str.ofString c) = some (.ref C) → Cls X.K C ∧ ∃ (g : Addr) (fd : FuncData) (ps : List Str) (ds : List Value) (dvs : List V) (dds : List D) (m' : MF) (N : Nat), Meth X.K C (Str.ofString f) g ∧ FnG X.prog X.w X.K X.mg X.base (L2.CX X.prog X.w) j g fd ps (spM X.K X.mg m' N) ∧ Binds X.K fd ps ds ∧ Vals dvs ds ∧
    (∀ F ρ, RepL X.K X.mg F ρ dvs dds) ∧ n + 1 + dds.length = N ∧ ∀ ds' μ, m ds' μ = m' (ds' ++ dds) μ
def MethsOk (X : Cx) (j : Nat) (mt : String → String → Nat → Option MF) : Prop := ∀ c f n m, mt c f n = some m → MethG X j c f n m
/-- o.f(e, ..): no field of that name -/
def mMeth (mt : String → String → Nat → Option MF) (f : String) (o : Opn) (ms : List ME) : ME := fun δ μ => (o.ev δ μ).bind fun r δ1 μ1 => match r.self δ1 with
  | some d => (match insOf μ1 d with
    | some (c, ks, vs) => if getF ks vs f = none then (match mt c f ms.length with
      | some m => (evA ms δ1 μ1).bind fun ds δ2 μ2 => (match m (d :: ds) μ2 with
        | .ok s μ3 => .ok s δ2 μ3
        | .exc x μ3 => .exc x δ2 μ3
        | .bad => .bad)
      | none => .bad) else .bad
    | none => .bad)
  | none => .bad
def tMethG (X : Cx) (ta : TE) (m : Str) (k n : Nat) (E : L2.St → XK) (t : TA) : TE := fun σ H Q => ta σ H fun x H1 => ∃ a C dx fs g fd ps ds dvs sp, x = .ref a ∧ H1 a = some (.ins C dx fs) ∧ Cls X.K C ∧ Meth X.K C m g ∧ fs.lookup m = none ∧ FnG X.prog X.w X.K X.mg X.base (L2.CX X.prog X.w) k g fd ps sp ∧ Binds X.K fd ps ds ∧ Vals dvs ds ∧
  t σ H1 fun vs H2 => sp ((.ref a :: vs) ++ dvs) H2 Q (E σ)
theorem pe_methG {ta : TE} {t : TA} {m : Str} {E : L2.St → XK} {pl : Sem Bool} (he : PE X o ta) (hr : RmG k X.A) (hx : ∀ σ, PassesAt (L2.CX X.prog X.w) X σ (E σ)) (ha : PA X (e :: es) t)
    (hst : starEach (e :: es) X.env = (false, eval e X.env) :: starEach es X.env) (hpl : (backTo pos (starEach es X.env)).any (·.1) = false)
    (ht : eval (.Call (.Attribute o m apos) (e :: es) [] pos) X.env = (do
      let ov ← eval o X.env
      standAt apos.atName
      let (f, first) ← holding [ov] (getMethod ov m pl)
      callWith pos f first (backTo pos (starEach (e :: es) X.env)) (backToKw pos (keywordEach [] X.env)))) :
    PE X (.Call (.Attribute o m apos) (e :: es) [] pos) (tMethG X ta m k n E t) := by
  refine ⟨fun pins s σ H Q I h => PySem.W.methodCall_KW (pl := pl) (thn (he.run pins s σ H _ I h) fun u s1 ⟨x, H1, I1, rx, a, C, dx, fs, g, fd, ps, ds, dvs, sp, ex, ea, c, hm, l, F, b, hd, q⟩ => ?_) ht⟩
  subst ex
  obtain rfl : u = Value.ref a := rx
  refine getmeth_ok I1 ea c hm l ?_
  refine PySem.W.callWith_K (first := [.ref a]) (h₀ := X.base) I.ok.mod.kin hm.kp (thn (ha.run pos pins s1 σ H1 _ I1 q) fun us s2 ⟨vs, H2, I2, r, q2⟩ => ⟨I2.kIn, ?_⟩) hst hpl
  exact run_callG (us := .ref a :: us) (vs := .ref a :: vs) F hr b hd (hx σ) I2 (.cons rfl r) q2
theorem pe_methG0 {ta : TE} {m : Str} {E : L2.St → XK} {pl : Sem Bool} (he : PE X o ta) (hr : RmG k X.A) (hx : ∀ σ, PassesAt (L2.CX X.prog X.w) X σ (E σ))
    (ht : eval (.Call (.Attribute o m apos) [] [] pos) X.env = (do
      let ov ← eval o X.env
      standAt apos.atName
      let (f, first) ← holding [ov] (getMethod ov m pl)
      callWith pos f first (backTo pos (starEach [] X.env)) (backToKw pos (keywordEach [] X.env)))) :
    PE X (.Call (.Attribute o m apos) [] [] pos) (tMethG X ta m k n E tNil) := by
  refine ⟨fun pins s σ H Q I h => PySem.W.methodCall_KW (pl := pl) (thn (he.run pins s σ H _ I h) fun u s1 ⟨x, H1, I1, rx, a, C, dx, fs, g, fd, ps, ds, dvs, sp, ex, ea, c, hm, l, F, b, hd, q⟩ => ?_) ht⟩
  subst ex
  obtain rfl : u = Value.ref a := rx
  refine getmeth_ok I1 ea c hm l ?_
  exact PySem.W.callWith_K0 (first := [.ref a]) I1.kIn hm.kp (run_callG (us := [.ref a]) (vs := [.ref a]) F hr b hd (hx σ) I1 (.cons rfl .nil) q)
theorem meth_read {mt : String → String → Nat → Option MF} {f : String} {oo : Opn} {ms : List ME} (P : MethsOk X j mt) : ∀ σ H Q, rdE X W (mMeth mt f oo ms) σ H Q → tMethG X (rdO X W oo) (Str.ofString f) j n (WE W) (rdA X W ms) σ H Q := by
  intro σ H Q ⟨Z, F, ρ, μ, δ, S, q⟩
  refine ⟨Z, F, ρ, μ, δ, S, (FinE.bind q).imp fun r δ1 μ1 H1 F1 ρ1 l lr S1 ⟨_, _, _, z⟩ x hx => ?_⟩
  cases e1 : r.self δ1 with
  | none => simp only [e1] at z; exact z.elim
  | some d =>
    simp only [e1] at z
    cases e2 : insOf μ1 d with
    | none => simp only [e2] at z; exact z.elim
    | some t =>
      obtain ⟨c, ks, vs0⟩ := t
      simp only [e2] at z
      by_cases e0 : getF ks vs0 f = none
      · rw [if_pos e0] at z
        cases e3 : mt c f ms.length with
        | none => simp only [e3] at z; exact z.elim
        | some m =>
          simp only [e3] at z
          have hr := OR.self_rep S1 hx e1
          obtain ⟨a, C, dx, vs, rfl, hc, hH, n', rl⟩ := ins_at S1 hr e2
          obtain ⟨cl, g, fd, ps, ds, dvs, dds, m', N, hm, G, b, hd, hdd, hN, hmm⟩ := P c f _ m e3 C hc
          refine ⟨a, C, dx, _, g, fd, ps, ds, dvs, spM X.K X.mg m' N, rfl, hH, cl, hm, getF_none rl n' e0, G, b, hd, Z, F1, ρ1, μ1, δ1, S1, ?_⟩
          cases ea : evA ms δ1 μ1 with
          | bad => rw [ea] at z; exact z
          | exc x δ2 μ2 => rw [ea] at z; exact z
          | ok us δ2 μ2 =>
            rw [ea, Out.bind_ok] at z
            intro H2 F2 ρ2 l2 lr2 S2 ws hw
            have z2 := z.mono l2 lr2
            have hr2 := hr.up l2.to lr2.to
            have hp := (RepL.cons hr2 hw).app (hdd F2 ρ2)
            have lw : us.length = ms.length := (evA_len ea).symm
            refine ⟨by rw [hp.len, List.length_append, List.length_cons, lw]; exact (by omega : ms.length + 1 + dds.length = N), zone Z H2 δ2 σ, F2, ρ2, μ2, (d :: us) ++ dds, S2.enter, hp, ?_⟩
            rw [← hmm]
            generalize m (d :: us) μ2 = o at z2
            cases o with
            | ok s μ3 => exact fun v H' F' ρ' l lr S' rv => z2 H' F' ρ' (S2.leLeave l) (S2.leRLeave lr) (S2.leave S' l lr) v (S2.came rv)
            | exc x μ3 => exact fun c d H' F' ρ' l lr S' er => z2 c d H' F' ρ' (S2.leLeave l) (S2.leRLeave lr) (S2.leave S' l lr) er
            | bad => exact z2
      · rw [if_neg e0] at z; exact z.elim
theorem Cs.meth {sc : Scope} {nl : List Str} {mt : String → String → Nat → Option MF} {f : String} {oo : Opn} {ms : List ME} {pl : Sem Bool} (Cc : Cs X W k nl sc) (P : MethsOk X j mt) (hjk : j ≤ k) (ho : JO X W o oo) (ha : JA X W (e :: es) ms)
    (hst : starEach (e :: es) X.env = (false, eval e X.env) :: starEach es X.env := by rfl) (hpl : (backTo pos (starEach es X.env)).any (·.1) = false := by rfl)
    (ht : eval (.Call (.Attribute o (Str.ofString f) apos) (e :: es) [] pos) X.env = (do
      let ov ← eval o X.env
      standAt apos.atName
      let (f, first) ← holding [ov] (getMethod ov (Str.ofString f) pl)
      callWith pos f first (backTo pos (starEach (e :: es) X.env)) (backToKw pos (keywordEach [] X.env))) := by rfl) :
    JE X W (.Call (.Attribute o (Str.ofString f) apos) (e :: es) [] pos) (mMeth mt f oo ms) :=
  (pe_methG (n := 0) (pl := pl) ho (Cc.rm.mono hjk) (passAt Cc.tk) ha hst hpl ht).imp (meth_read P)
theorem Cs.meth0 {sc : Scope} {nl : List Str} {mt : String → String → Nat → Option MF} {f : String} {oo : Opn} {pl : Sem Bool} (Cc : Cs X W k nl sc) (P : MethsOk X j mt) (hjk : j ≤ k) (ho : JO X W o oo)
    (ht : eval (.Call (.Attribute o (Str.ofString f) apos) [] [] pos) X.env = (do
      let ov ← eval o X.env
      standAt apos.atName
      let (f, first) ← holding [ov] (getMethod ov (Str.ofString f) pl)
      callWith pos f first (backTo pos (starEach [] X.env)) (backToKw pos (keywordEach [] X.env))) := by rfl) :
    JE X W (.Call (.Attribute o (Str.ofString f) apos) [] [] pos) (mMeth mt f oo []) := by
  refine (pe_methG0 (n := 0) (pl := pl) ho (Cc.rm.mono hjk) (passAt Cc.tk) ht).imp fun σ H Q h => ?_
  obtain ⟨Z, F, ρ, μ, δ, S, q⟩ := meth_read (W := W) (n := 0) P σ H Q h
  refine ⟨Z, F, ρ, μ, δ, S, q.imp fun r δ1 μ1 H1 F1 ρ1 l lr S1 z x hx => ?_⟩
  obtain ⟨a, C, dx, fs, g, fd, ps, ds, dvs, sp, e1, e2, e3, e4, e5, e6, e7, e8, Z', F', ρ', μ', δ', S', q'⟩ := z x hx
  exact ⟨a, C, dx, fs, g, fd, ps, ds, dvs, sp, e1, e2, e3, e4, e5, e6, e7, e8, q' H1 F' ρ' .refl .refl S' [] .nil⟩
end
end FL

/-! Part Co: isinstance with own classes. -/
namespace FL
open PySem PySem.Spec PyProof.Rows L2
/-- what isinstance asks of an own class of instances -/
structure InsK (K : PySem.W.Frag) (C : Addr) : Prop where
  cl : Cls K C
  ca : PySem.W.findIn K (.ref C) "__class__" = some (some (.builtin "object.__class__"))
  sp : PySem.W.specialIn K (.builtin "object.__class__") "__get__" = some (some (.builtin "getset_descriptor.__get__"))
  tk : PySem.W.takesIn K (.builtin "object.__class__") = some true
  ob : PySem.W.mroIn K C (.type "object") = some true
def IsaC (K : PySem.W.Frag) (mg : Str → Option Value) (isa : String → String → Option Bool) : Prop := ∀ c d b C D, isa c d = some b → mg (Str.ofString c) = some (.ref C) → mg (Str.ofString d) = some (.ref D) → InsK K C ∧ PySem.W.kitOne K (.ref C) (.ref D) = some b
def IsbC (K : PySem.W.Frag) (mg : Str → Option Value) (isb : String → String → Option Bool) : Prop := ∀ t d b D, isb t d = some b → mg (Str.ofString d) = some (.ref D) → PySem.W.kitOne K (.type t) (.ref D) = some b
def isD (isa isb : String → String → Option Bool) (d : String) (δ : FL.Loc) (μ : Mem) (r : OR) : Option Bool := match (r.self δ).bind (insOf μ) with
  | some (c, _, _) => isa c d
  | none => (match (r.at δ μ).bind tyN with
    | some t => isb t d
    | none => none)
def mIsC (isa isb : String → String → Option Bool) (d : String) (o : Opn) : ME := fun δ μ => (o.ev δ μ).bind fun r δ1 μ1 => match isD isa isb d δ1 μ1 r with
  | some b => .ok (.fr (.bl b)) δ1 μ1
  | none => .bad
section
variable {X : Cx} {W : WX} {k : Nat} {N : List Str} {sc : Scope} {e e' : Expr} {es : List Expr} {pos p : Pos} {o : Opn} {isa isb : String → String → Option Bool} {d : String} {D : Addr}
theorem glo_ref {F : Hp} {ρ : List Addr} {y : V} (hD : X.mg (Str.ofString d) = some (.ref D)) (h : Rep X.K X.mg F ρ y (.glo d)) : y = .ref D := by
  cases h with
  | glo g1 g2 =>
    rw [hD] at g1
    cases g1
    cases y with
    | ref p => cases g2; rfl
    | int _ => obtain ⟨_, z⟩ := g2; cases z
    | str _ => obtain ⟨_, z⟩ := g2; cases z
    | byt _ => obtain ⟨_, z⟩ := g2; cases z
    | flt _ => obtain ⟨_, z⟩ := g2; cases z
    | _ => cases g2
theorem isC_read (hD : X.mg (Str.ofString d) = some (.ref D)) (ha : IsaC X.K X.mg isa) (hb : IsbC X.K X.mg isb) : ∀ σ H Q, rdE X W (mIsC isa isb d o) σ H Q → tCB (rIsi X.K) (rdOs X W [o, .e (mD (.glo d))]) σ H Q := by
  intro σ H Q ⟨Z, F, ρ, μ, δ, S, q⟩
  refine ⟨Z, F, ρ, μ, δ, S, ?_⟩
  show FinE X W Z F ρ σ _ ((o.ev δ μ).bind fun r δ1 μ1 => .ok [r, .d (.glo d)] δ1 μ1)
  unfold mIsC at q
  cases eo : o.ev δ μ with
  | bad => rw [eo] at q; exact q
  | exc x δ1 μ1 => rw [eo] at q; exact q
  | ok r δ1 μ1 =>
    rw [eo, Out.bind_ok] at q
    intro H1 F1 ρ1 l lr S1 xs hx
    have z := q.mono l lr
    cases hx with
    | cons h1 t =>
      cases t with
      | cons h2 t =>
        cases t
        cases glo_ref hD h2
        cases ei : isD isa isb d δ1 μ1 r with
        | none => rw [ei] at z; exact z.elim
        | some b =>
          rw [ei] at z
          have fin := z H1 F1 ρ1 .refl .refl S1 (.bl b) (VR.fr' .bl)
          unfold isD at ei
          cases es : (r.self δ1).bind (insOf μ1) with
          | some w =>
            obtain ⟨c, ks, ds⟩ := w
            rw [es] at ei
            obtain ⟨y, e1, e2⟩ := Option.bind_eq_some_iff.mp es
            obtain ⟨a, C, dx, vs, rfl, hc, hH, n, rl⟩ := ins_at S1 (OR.self_rep S1 h1 e1) e2
            obtain ⟨K1, ko⟩ := ha c d b C D ei hc hD
            exact ⟨_, _, .ref C, _, b, rfl, .own D, .base (.ins hH K1.cl K1.ca K1.sp K1.tk K1.ob), ko, fin⟩
          | none =>
            rw [es] at ei
            cases et : (r.at δ1 μ1).bind tyN with
            | none => simp only [et] at ei; cases ei
            | some t =>
              simp only [et] at ei
              obtain ⟨y, e1, e2⟩ := Option.bind_eq_some_iff.mp et
              exact ⟨_, _, .type t, _, b, rfl, .own D, tyX_of S1 (h1.bor S1 e1) e2, hb t d b D ei hD, fin⟩
/-- isinstance(x, D), D an own class -/
theorem Cs.isC (Cc : Cs X W k N sc) (h1 : glC sc "isinstance" = true) (m1 : X.mg "isinstance" = none) (h2 : glC sc (Str.ofString d) = true) (hD : ∃ D : Addr, X.mg (Str.ofString d) = some (.ref D)) (ha : IsaC X.K X.mg isa) (hb : IsbC X.K X.mg isb) (ho : JO X W e o)
    (he : starEach [e, .Name (Str.ofString d) p] X.env = (false, eval e X.env) :: starEach [.Name (Str.ofString d) p] X.env := by rfl) (he2 : starEach [.Name (Str.ofString d) p] X.env = (false, eval (.Name (Str.ofString d) p) X.env) :: starEach [] X.env := by rfl)
    (hpl : (backTo pos (starEach [.Name (Str.ofString d) p] X.env)).any (·.1) = false := by rfl) {p' : Pos} : JE X W (.Call (.Name "isinstance" p') [e, .Name (Str.ofString d) p] [] pos) (mIsC isa isb d o) :=
  let ⟨D, hD'⟩ := hD
  (pe_callB call_isi (Cc.gl h1).1 m1 rfl (jos_cons ho (jos_cons (jo_e (Cc.cls h2 ⟨D, hD'⟩)) jos_nil he2) he) (by decide) (by decide) he hpl).imp (isC_read hD' ha hb)
end
end FL

/-! Part Cs: functions of classes that say super(). -/
namespace FL
open PySem PySem.Spec PyProof.Rows L2
/-- the scope of such a function -/
structure ClsScope (N ps : List Str) (sc : Scope) : Prop where
  kind : sc.kind = .function
  co : sc.isCoroutine = false
  gen : sc.isGenerator = false
  nd : N.Nodup
  pre : N.take ps.length = ps
  par : ∀ x ∈ ps, sc.names.lookup x = some .local
  nocell : ∀ y ∈ sc.names, y.2 ≠ .cell
  free : ∀ y ∈ sc.names, y.2 = .free → y.1 = "__class__"
  ls : sc.names.lookup ("super" : Str) = some .globalImplicit
  lc : sc.names.lookup ("__class__" : Str) = some .free
abbrev clsE (qual : Str) (scope : Scope) (L f : Addr) (cd : Value) (cc : Addr) : Env := PySem.W.ksEnv qual scope L f cd cc
/-- the context of its body -/
def clsX (P : Program) (w : World) (K : PySem.W.Frag) (mg : Str → Option Value) (base : Heap) (N : List Str) (qual : Str) (scope : Scope) (f : Addr) (cd : Value) (cc : Addr) (A : Around) (outer : List Env) (s : Shared) (H : Hp) (E : XK) : Cx where
  prog := P
  w := w
  K := K
  mg := mg
  base := base
  A := A.deeper (clsE qual scope s.heap.objs.size f cd cc)
  N := N
  s_0 := s
  H_0 := H
  env := clsE qual scope s.heap.objs.size f cd cc
  outer := outer
  stack := clsE qual scope s.heap.objs.size f cd cc :: outer
  ex := []
  calm := true
  fn := fun y => decide (y ≠ "__class__")
  pn := []
  xe := fun e s' => wpAny (model P w) (A.deeper (clsE qual scope s.heap.objs.size f cd cc)) (leaving (clsE qual scope s.heap.objs.size f cd cc) e) (fun _ s'' => L2.CX P w outer H s E e s'') (fun e' s'' => L2.CX P w outer H s E e' s'') s'
theorem clo_one {cc : Addr} {y : Str} {c : Addr} (e : ([(("__class__" : Str), cc)] : List (Str × Addr)).lookup y = some c) : y = "__class__" ∧ c = cc := by
  rw [List.lookup_cons] at e
  by_cases z : y = "__class__"
  · subst z
    simp at e
    exact ⟨rfl, e.symm⟩
  · rw [show (y == ("__class__" : Str)) = false by simpa using z] at e
    cases e
theorem cls_start {P : Program} {w : World} {K : PySem.W.Frag} {mg : Str → Option Value} {base : Heap} {N ps : List Str} {qual : Str} {scope : Scope} {f cc D : Addr} {cd : Value} {A : Around} {outer : List Env} {s : Shared} {H : Hp} {E : XK} {us : List Value} {vs : List V} {h₁ : Heap} {tk : Nat} {cl : Value} {cld : Option Addr} {csl : Array (Option Value)}
    (S : ClsScope N ps scope) (hd : A.handled = none) (e0 : Env0 P w K mg base A outer s H) (hcell : K.lookup cc = some ⟨cl, cld, .cell (some (.ref D)), csl⟩) (hl : vs.length = ps.length) (r : Vals vs us)
    (hns : h₁.Ns s.heap.objs.size fun y => (ps.zip us).reverse.lookup y) (kp : ∀ b o, s.heap.get? b = some o → h₁.get? b = some o) :
    Inv (clsX P w K mg base N qual scope f cd cc A outer s H E) [] (L2.start N vs) H { s with heap := h₁, toks := tk } := by
  have noA : ∀ b : Addr, b ∉ (clsX P w K mg base N qual scope f cd cc A outer s H E).ex := fun b z => absurd (show b ∈ ([] : List Addr) from z) (by simp)
  have hbase := e0.mod.kin _ _ hcell
  have hpl : ps.length ≤ N.length := by
    have q := congrArg List.length S.pre
    rw [List.length_take] at q
    omega
  refine ⟨⟨e0.mod, S.kind, rfl, rfl, Nat.le_refl _, fun y z c e1 e2 => ?_, fun y hy => ?_, fun y c z e => ?_, fun _ => hd, Around.frames_deeper e0.frames, .inr ⟨rfl, rfl⟩, fun b z => absurd z (noA b), e0.bs, e0.bsz, fun b _ _ => noA b, fun b z => absurd z (noA b), e0.funs, e0.frf⟩,
    rfl, e0.bare, Un.kept kp, ⟨_, hns, fun i y v e1 e2 e3 => ?_⟩, fun y c e => ?_, e0.hok.fresh (Nat.le_refl _), fun y c e => ?_, fun q hq => absurd (show q ∈ ([] : List (Addr × Obj)) from hq) (by simp), e0.hok.kept kp, ?_⟩
  · rw [(clo_one e1).1, (clo_one e2).1]
  · have hy : scope.names.lookup y = some .cell ∨ scope.names.lookup y = some .free := hy
    rcases hy with hy | hy
    · exact absurd rfl (S.nocell _ (PySem.mem_of_lookup hy))
    · have e : y = "__class__" := S.free _ (PySem.mem_of_lookup hy) rfl
      exact ⟨cc, by rw [e]; show ([(("__class__" : Str), cc)] : List (Str × Addr)).lookup ("__class__" : Str) = some cc; simp⟩
  · exact absurd (clo_one e).1 (of_decide_eq_true z)
  · have e1 : N[i]? = some y := e1
    unfold L2.start at e2
    by_cases h1 : i < vs.length
    · have hq : ps[i]? = some y := by
        rw [← S.pre, List.getElem?_take_of_lt (by omega)]
        exact e1
      rw [List.getElem?_append_left (by rw [List.length_map]; exact h1), List.getElem?_map] at e2
      have ha : vs[i]? = some v := by
        cases e : vs[i]? with
        | none => rw [e] at e2; cases e2
        | some a => rw [e] at e2; cases e2; rfl
      obtain ⟨u, hu, rv⟩ := r.get ha
      have ndP : ps.Nodup := by
        rw [← S.pre]
        exact S.nd.sublist (List.take_sublist _ _)
      exact ⟨u, rv, .inl ⟨S.par y (List.mem_of_getElem? hq), NdefX.zip_look ndP hq hu⟩⟩
    · rw [List.getElem?_append_right (by rw [List.length_map]; omega), List.getElem?_replicate] at e2
      split at e2 <;> cases e2
  · have e : ([(("__class__" : Str), cc)] : List (Str × Addr)).lookup y = some c := e
    rw [(clo_one e).2]
    exact ⟨_, _, kp _ _ (e0.bs _ _ hbase).1, rfl⟩
  · have e : ([(("__class__" : Str), cc)] : List (Str × Addr)).lookup y = some c := e
    rw [(clo_one e).2]
    exact (e0.bs _ _ hbase).2
  · unfold L2.start
    show _ = N.length
    rw [List.length_append, List.length_map, List.length_replicate]
    omega
/-- such a def, as the top has left it; the class is D -/
structure FdC (K : PySem.W.Frag) (x qual : Str) (st : Stmt) (f : Addr) (fd : FuncData) (dV : Value) (cda cc D : Addr) : Prop where
  ex : ∃ (oc : Value) (od : Option Addr) (kV doc pm : Value) (an : Option Addr) (ct : Value) (osl : Array (Option Value)),
    fd = PySem.W.ksFn x qual (defArgs st) (defBody st) (defScope st) dV kV doc pm an (.ref cda) ct cc ∧ K.lookup f = some { cls := oc, dict := od, data := .func fd, slots := osl }
  cd : PySem.W.codeIn K (.ref cda) qual = true
  cell : ∃ cl cld csl, K.lookup cc = some { cls := cl, dict := cld, data := .cell (some (.ref D)), slots := csl }
/-- the rest of the body, seen from the def's own code -/
structure PWb (X : Cx) (body rest : List Stmt) (t : TS) : Prop where
  run : ∀ (pins : List (Addr × Obj)) (s : Shared) (σ : L2.St) (H : Hp) (D : Ends), Inv X pins σ H s → t D σ H → _root_.PySem.wpAt (model X.prog X.w) X.A (.func body X.env) (execs rest X.env) (SP X pins D) X.xe s
structure PWs (X : Cx) (body : List Stmt) (st : Stmt) (t : TS) : Prop where
  run : ∀ (pins : List (Addr × Obj)) (s : Shared) (σ : L2.St) (H : Hp) (D : Ends), Inv X pins σ H s → t D σ H → _root_.PySem.wpAt (model X.prog X.w) X.A (.func body X.env) (exec st X.env) (SP X pins D) X.xe s
section
variable {X : Cx} {body rest : List Stmt} {st : Stmt} {t u : TS}
theorem pwb_of (h : PSs X rest t) : PWb X body rest t := ⟨fun pins s σ H D I q => wpAt_of_wpAny (h.run pins s σ H D I q)⟩
theorem pws_of (h : PS X st t) : PWs X body st t := ⟨fun pins s σ H D I q => wpAt_of_wpAny (h.run pins s σ H D I q)⟩
theorem pwb_cons (h1 : PWs X body st t) (h2 : PWb X body rest u) : PWb X body (st :: rest) (tSeq t u) := by
  refine ⟨fun pins s σ H D I h => ks_wpAt_execs_cons (ks_wpAt_mono (h1.run pins s σ H { D with nx := u D } I h) (fun f s1 q => ?_) fun _ _ z => z)⟩
  cases f with
  | next =>
    obtain ⟨σ', H', I', q⟩ := q
    exact h2.run pins s1 σ' H' D I' q
  | ret v => exact q
  | brk => exact q
  | cont => exact q
theorem PWb.imp (h : PWb X body rest t) (i : ∀ D σ H, u D σ H → t D σ H) : PWb X body rest u := ⟨fun pins s σ H D I q => h.run pins s σ H D I (i D σ H q)⟩
theorem PWs.imp (h : PWs X body st t) (i : ∀ D σ H, u D σ H → t D σ H) : PWs X body st u := ⟨fun pins s σ H D I q => h.run pins s σ H D I (i D σ H q)⟩
end
abbrev JWb (X : Cx) (W : WX) (body rest : List Stmt) (m : MS) : Prop := PWb X body rest (rdS X W m)
abbrev JWs (X : Cx) (W : WX) (body : List Stmt) (st : Stmt) (m : MS) : Prop := PWs X body st (rdS X W m)
section
variable {X : Cx} {W : WX} {body rest : List Stmt} {st : Stmt} {m n : MS}
theorem jwb_of (h : JSs X W rest m) : JWb X W body rest m := pwb_of h
theorem jws_of (h : JS X W st m) : JWs X W body st m := pws_of h
theorem jwb_cons (h : JWs X W body st m) (t : JWb X W body rest n) : JWb X W body (st :: rest) (mSeq m n) :=
  (pwb_cons h t).imp fun D σ H ⟨Z, F, ρ, μ, δ, S, q⟩ => ⟨Z, F, ρ, μ, δ, S, FinS.seq q⟩
end
/-- what a class function's body is proved over -/
structure CsK (X : Cx) (f cda cc D : Addr) (st : Stmt) : Prop where
  fd : ∃ fd x qual dV, FdC X.K x qual st f fd dV cda cc D ∧ X.env = clsE qual (defScope st) X.env.locals f (.ref cda) cc
theorem fnG_c {P : Program} {w : World} {K : PySem.W.Frag} {mg : Str → Option Value} {base : Heap} {k n : Nat} {f cda cc D : Addr} {x qual : Str} {st : Stmt} {fd : FuncData} {N ps : List Str} {m : MS} {dV : Value} (F : FdC K x qual st f fd dV cda cc D) (S : ClsScope N ps (defScope st)) (hn : ps.length = n)
    (hbody : ∀ (X : Cx) (W : WX), X.prog = P → X.w = w → X.K = K → X.mg = mg → X.base = base → Cd X W k N (defScope st) → CsK X f cda cc D st → JWb X W (defBody st) (defBody st) m) : FnG P w K mg base (L2.CX P w) (k + 1) f fd ps (spM K mg (mFn N.length m) n) := by
  subst hn
  obtain ⟨oc, od, kV, doc, pm, an, ct, osl, rfl, lk⟩ := F.ex
  obtain ⟨cl, cld, csl, hcell⟩ := F.cell
  refine ⟨fun vs H Q E h => h.1, fun A outer s H args us vs Q E hr e0 hb r hsp => ?_⟩
  obtain ⟨hl, Z, F0, ρ, μ, ds, S0, rd, q⟩ := hsp
  have inK : K.In s.heap := e0.mod.kin.keeps fun b o e => (e0.bs b o e).1
  have lim : s.heap.NoLimit := e0.mod.nolimit.keeps fun b o e => (e0.bs b o e).1
  refine PySem.ks_codeAny_call_defAt hr.r.depth (inK _ _ lk) rfl lim (PySem.W.codeRec_of inK F.cd) rfl hb S.nocell (fun y hy => S.par y.1 (List.of_mem_zip hy).1) (fun h₁ hns kp => ?_) S.co S.gen S.kind
  have I : Inv (clsX P w K mg base N qual (defScope st) f (.ref cda) cc A outer s H E) [] (L2.start N vs) H { s with heap := h₁, toks := s.toks + (ps.zip us).length } := cls_start S hr.r.hd e0 hcell hl r hns kp
  have C : Cd (clsX P w K mg base N qual (defScope st) f (.ref cda) cc A outer s H E) (fun c d _ H => E c d H) k N (defScope st) := by
    refine ⟨⟨rfl, hr.deeper _, takes_of rfl rfl rfl rfl, rfl, rfl, S.nd⟩, passes_of rfl, fun y hy => decide_eq_true fun z => ?_⟩
    subst z
    have hy : (defScope st).names.lookup ("__class__" : Str) = some .local ∨ (defScope st).names.lookup ("__class__" : Str) = some .cell := hy
    rw [S.lc] at hy
    rcases hy with hy | hy <;> cases hy
  have J := hbody _ _ rfl rfl rfl rfl rfl C ⟨_, x, qual, dV, F, rfl⟩
  rw [mFn_eq] at q
  refine ks_wpAt_mono (J.run [] _ (L2.start N vs) H { nx := fun _ H' => Q .non H', rt := Q } I ?_) (fun fl s' hs => ?_) fun e s' hs => hs
  · refine ⟨Z, F0, ρ, μ, _, S0.begin rd, ?_⟩
    generalize m (startD N.length ds) μ = o at q
    cases o with
    | nx δ μ' => exact fun σ' H' F' ρ' l lr S' => q .non H' F' ρ' l lr S'.drop .non
    | rt s μ' => exact fun v H' F' ρ' l lr S' rv => q v H' F' ρ' l lr S' rv
    | bk δ μ' => exact q.elim
    | ct δ μ' => exact q.elim
    | exc x δ μ' => exact fun c d σ' H' F' ρ' l lr S' er => q c d H' F' ρ' l lr S'.drop er
    | bad => exact q
  · cases fl with
    | ret u =>
      obtain ⟨v, σ', H', J, rv, q⟩ := hs
      exact ⟨v, H', J.os, J.bare, J.base, J.hok, rv, q⟩
    | next =>
      obtain ⟨σ', H', J, q⟩ := hs
      exact ⟨.non, H', J.os, J.bare, J.base, J.hok, rfl, q⟩
    | brk =>
      obtain ⟨_, _, _, z⟩ := hs
      exact z.elim
    | cont =>
      obtain ⟨_, _, _, z⟩ := hs
      exact z.elim
end FL

/-! Part Ct: super().__init__(..) in a function of a class. -/
namespace FL
open PySem PySem.Spec PyProof.Rows L2
/-- what super() asks of the text of a class function -/
structure SupT (X : Cx) (f cda cc D : Addr) (p0 : Str) : Prop where
  lk : ∃ o fd ar, X.K.lookup f = some o ∧ o.data = .func fd ∧ (fd.params.posonlyargs ++ fd.params.args).head? = some ar ∧ ar.arg = p0
  code : ∃ ccl cdd vs ccs file tf, X.K.lookup cda = some { cls := ccl, dict := cdd, data := .fields vs, slots := ccs } ∧ vs[2]? = some (.str file tf) ∧ ((X.prog.main.file : Str) == file) = true
  cell : ∃ cl cld csl, X.K.lookup cc = some { cls := cl, dict := cld, data := .cell (some (.ref D)), slots := csl }
  clsD : ∃ cdD, PySem.W.clsIn X.K D = some cdD
  any : PySem.W.nsIn X.K cStatics "thirdparty.any" = some none
  top : (X.prog.main.scope.names.lookup ("super" : Str)).isSome = false
  sup : X.mg "super" = none
  ls : X.env.scope.names.lookup ("super" : Str) = some .globalImplicit
  lc : X.env.scope.names.lookup ("__class__" : Str) = some .free
  l0 : X.env.scope.names.lookup p0 = some .local
  n0 : X.N[0]? = some p0
  func : X.env.func = some f
  ecode : X.env.code = .ref cda
  cells : X.env.cells.lookup ("__class__" : Str) = some cc
/-- the name's function that super(D, an instance of the class c) finds -/
def SupG (X : Cx) (j : Nat) (c f : String) (D : Addr) (mi : MF) (N : Nat) : Prop :=
  ∀ C, X.mg (Str.ofString c) = some (.ref C) → ∃ (g : Addr) (og : Obj) (fd : FuncData) (ps : List Str) (ds : List Value) (dvs : List V) (cdC : ClassData), PySem.W.clsIn X.K C = some cdC ∧ PySem.W.alongIn X.K (Str.ofString f) ((cdC.mro.dropWhile (· != .ref D)).drop 1) = some (some (.ref g)) ∧
    X.K.lookup g = some og ∧ og.cls = .type "function" ∧ PySem.W.fnIn X.K g = true ∧ PySem.W.mroIn X.K C (.ref D) = some true ∧ FnG X.prog X.w X.K X.mg X.base (L2.CX X.prog X.w) j g fd ps (spM X.K X.mg mi N) ∧ Binds X.K fd ps []
/-- super().f(e, ..) as a statement, self the first parameter -/
def mSuper (c : String) (mi : MF) (ms : List ME) : MS := fun (δ : FL.Loc) (μ : Mem) => match δ[0]? with
  | some (some (FL.Slot.fr d)) => (match insOf μ d with
    | some (c', _, _) => if c' = c then (evA ms δ μ).thn fun ds δ1 μ1 => (match mi (d :: ds) μ1 with
      | .ok _ μ2 => .nx δ1 μ2
      | .exc x μ2 => .exc x δ1 μ2
      | .bad => .bad) else .bad
    | none => .bad)
  | _ => .bad
section
variable {X : Cx} {W : WX} {k j N : Nat} {nl : List Str} {sc : Scope} {e : Expr} {es : List Expr} {q0 q1 q2 q4 q5 : Pos} {f cda cc D : Addr} {p0 : Str} {c m : String} {mi : MF} {ms : List ME} {body : List Stmt} {pl : Sem Bool}
theorem jws_super (C : Cd X W k nl sc) (T : SupT X f cda cc D p0) (G : SupG X j c m D mi N) (hjk : j ≤ k) (ha : JA X W (e :: es) ms) (hN : ms.length + 1 = N) (hm : (Str.ofString m == ("__class__" : Str)) = false)
    (ev : eval (.Call (.Attribute (.Call (.Name "super" q0) [] [] q1) (Str.ofString m) q2) (e :: es) [] q4) X.env = (do
      let ov ← attributeBase (.Call (.Name "super" q0) [] [] q1) (Str.ofString m) X.env (eval (.Call (.Name "super" q0) [] [] q1) X.env)
      standAt q2.atName
      let (f, first) ← holding [ov] (getMethod ov (Str.ofString m) pl)
      callWith q4 f first (backTo q4 (starEach (e :: es) X.env)) []))
    (sw : swapsWith (.Call (.Attribute (.Call (.Name "super" q0) [] [] q1) (Str.ofString m) q2) (e :: es) [] q4) none q5.line X.env = pure false)
    (he : starEach (e :: es) X.env = (false, eval e X.env) :: starEach es X.env) (hpl : (backTo q4 (starEach es X.env)).any (·.1) = false) :
    JWs X W body (.Expr (.Call (.Attribute (.Call (.Name "super" q0) [] [] q1) (Str.ofString m) q2) (e :: es) [] q4) q5) (mSuper c mi ms) := by
  obtain ⟨of, fd0, ar, lf, lfd, har, har2⟩ := T.lk
  obtain ⟨ccl, cdd, cvs, ccs, file, tf, hcode, hvs, hfile⟩ := T.code
  obtain ⟨cl, cld, csl, hcell⟩ := T.cell
  obtain ⟨cdD, hD⟩ := T.clsD
  refine ⟨fun pins s σ H E I ⟨Z, F, ρ, μ, δ, S, q0⟩ => ?_⟩
  unfold mSuper at q0
  obtain ⟨d, e0, q⟩ : ∃ d, δ[0]? = some (some (FL.Slot.fr d)) ∧ FinS X W Z F ρ E (match insOf μ d with
    | some (c', _, _) => if c' = c then (evA ms δ μ).thn fun ds δ1 μ1 => (match mi (d :: ds) μ1 with
      | .ok _ μ2 => .nx δ1 μ2
      | .exc x μ2 => .exc x δ1 μ2
      | .bad => .bad) else .bad
    | none => .bad) := by
    cases e0 : δ[0]? with
    | none => rw [e0] at q0; exact q0.elim
    | some o =>
      cases o with
      | none => rw [e0] at q0; exact q0.elim
      | some z =>
        cases z with
        | own _ => rw [e0] at q0; exact q0.elim
        | fr d => rw [e0] at q0; exact ⟨d, rfl, q0⟩
  cases ei : insOf μ d with
  | none => simp only [ei] at q; exact q.elim
  | some t =>
  obtain ⟨c', ks, ds0⟩ := t
  simp only [ei] at q
  by_cases hc' : c' = c
  case neg => rw [if_neg hc'] at q; exact q.elim
  rw [if_pos hc'] at q
  subst hc'
  obtain ⟨v0, es0, rep0⟩ := S.slot 0 _ e0
  have rep0 : Rep X.K X.mg F ρ v0 d := rep0
  obtain ⟨a, Ca, dx, vs, rfl, hmC, hHa, hks, rl⟩ := ins_at S rep0 ei
  obtain ⟨g, og, fdg, ps, ds, dvs, cdC, hcC, hal, lg, ogc, fing, hsub, Fg, hb⟩ := G Ca hmC
  obtain ⟨mA, O, _⟩ := ins_get I.hok hHa
  obtain ⟨od, J, _⟩ := O.look
  obtain ⟨mloc, hns, hlook⟩ := I.loc
  obtain ⟨u0, ru0, look0⟩ := hlook 0 p0 _ T.n0 es0 (.inl T.l0)
  cases ru0
  have gself : mloc p0 = some (.ref a) := by
    rcases look0 with ⟨_, z⟩ | ⟨z, _⟩
    · exact z
    · have z : X.env.scope.names.lookup p0 = some .cell ∨ X.env.scope.names.lookup p0 = some .free := z
      rw [T.l0] at z
      rcases z with z | z <;> cases z
  have kX := I.kIn
  have oD : ∃ o : Obj, X.K.lookup D = some o ∧ o.data = .cls cdD := by
    unfold PySem.W.clsIn at hD
    split at hD
    · rename_i ho
      cases hD
      exact ⟨_, ho, rfl⟩
    · cases hD
  have oC : ∃ o : Obj, X.K.lookup Ca = some o ∧ o.data = .cls cdC := by
    unfold PySem.W.clsIn at hcC
    split at hcC
    · rename_i ho
      cases hcC
      exact ⟨_, ho, rfl⟩
    · cases hcC
  obtain ⟨oD, hoD, hdD⟩ := oD
  obtain ⟨oC, hoC, hdC⟩ := oC
  have lcell : s.heap.IsCell cc (some (.ref D)) := ⟨_, kX _ _ hcell, rfl⟩
  obtain ⟨mb, hmb, hbb⟩ := I.mod.blt
  have kd := I.ok.kind
  refine ks_wpAt_Expr_any (ks_wpAt_MethodCall (pl := pl) ?_ ev) (by unfold interactive; simp [kd]) sw
  refine ks_wpAt_super_base T.ls T.lc hm T.func (kX _ _ lf) lfd har T.ecode (kX _ _ hcode) rfl hvs hfile T.top ?_
  refine PySem.W.ks_loadName_global kd T.ls (PySem.Calls.loadGlobal_builtin (mg := X.mg) (by rw [I.ok.glob]; exact I.mod.glob.keeps I.bk) T.sup (by rw [I.ok.blt]; exact hmb.keeps I.bk) ((hbb "super" (by decide)).trans PyProof.Rows.Boot.«super») ⟨rfl, ?_⟩)
  refine wpAny_loadName_free kd T.lc T.cells lcell ?_
  refine wpAny_loadName_local (m := mloc) kd (by rw [har2]; exact T.l0) hns (by rw [har2]; exact gself) ?_
  obtain ⟨hp, gg, dd, tt, os⟩ := s
  refine PySem.ks_wpAny_isType_cls (kX _ _ hoD) hdD ⟨rfl, ?_⟩
  refine PySem.ks_wpAny_call_super (kX _ _ hoD) hdD J.at_ J.cls (fun c z => by cases z) (PySem.W.looks_mroIn kX hsub) fun h2 hso k2 => ?_
  have KX2 : X.K.In h2 := kX.keeps k2
  have I2 : Inv X pins σ H ⟨h2, gg, dd, tt, os⟩ := I.kept (t' := tt) k2
  have hne : a ≠ Ca := fun z => by
    have y := kX _ _ hoC
    have y2 := J.at_
    rw [z] at y2
    have y3 := y2.symm.trans y
    have y4 := congrArg Obj.data (Option.some.inj y3)
    rw [hdC] at y4
    cases y4
  refine PySem.ks_wpAny_getMethod_super (x := a) (C := Ca) (D := D) (f := g) (of := og) hso (PySem.W.looks_opaque KX2 T.any) (l₀ := cdC.mro) (fun A Q E s k q => wpAny_bind ((PySem.W.looks_clsIn KX2 hcC) A _ E s k (wpAny_pure q))) rfl KX2 hal (KX2 _ _ lg) ogc hne hm ?_
  have I3 : Inv X ((h2.objs.size, PySem.W.methodObj (.ref g) (.ref a)) :: pins) σ H ⟨h2.push (PySem.W.methodObj (.ref g) (.ref a)), gg, dd, tt + 1, os⟩ :=
    ClX.pin_new (t' := tt + 1) I2 (fun _ _ z => Heap.get?_push_of_some _ z) (Nat.le_refl _) (Heap.get?_push_size h2 rfl) (fun v z => nomatch z)
  have hbase : X.base.get? h2.objs.size = none := ClX.base_none I2 (Nat.le_refl _)
  refine ClX.callwith_cm (X := X) (C := a) (g := g) I3 hbase fing (thn (ha.run q4 _ _ σ H (fun ws H2 => spM X.K X.mg mi N (.ref a :: ws) H2 (fun _ H3 => E.nx σ H3) (WE W σ)) I3 ?_) fun us s3 ⟨ws, H2, I4, rv, q2⟩ => ⟨⟨ClX.pin_at I4, I4.kIn⟩, ?_⟩) he hpl
  · refine ⟨Z, F, ρ, μ, δ, S, ?_⟩
    cases ea : evA ms δ μ with
    | bad => rw [ea] at q; exact q
    | exc x δ1 μ1 =>
      rw [ea] at q
      exact fun c d H' F' ρ' l lr S' er => q c d σ H' F' ρ' l lr S' er
    | ok us δ1 μ1 =>
      rw [ea] at q
      intro H1 F1 ρ1 l1 lr1 S1 ws hw
      have rep1 := rep0.up l1.to lr1.to
      have hl := hw.len
      have hl2 := evA_len ea
      refine ⟨by rw [List.length_cons, hl, ← hl2]; exact hN, zone Z H1 δ1 σ, F1, ρ1, μ1, d :: us, S1.enter, .cons rep1 hw, ?_⟩
      have q1 : FinS X W Z F ρ E (match mi (d :: us) μ1 with | .ok _ μ2 => .nx δ1 μ2 | .exc x μ2 => .exc x δ1 μ2 | .bad => .bad) := q
      have q2 := q1.mono l1 lr1
      generalize mi (d :: us) μ1 = o at q2
      cases o with
      | ok s μ3 => exact fun v H' F' ρ' l lr S' rv => q2 σ H' F' ρ' (S1.leLeave l) (S1.leRLeave lr) (S1.leave S' l lr)
      | exc x μ3 => exact fun c d H' F' ρ' l lr S' er => q2 c d σ H' F' ρ' (S1.leLeave l) (S1.leRLeave lr) (S1.leave S' l lr) er
      | bad => exact q2
  · have rv2 : Vals (V.ref a :: ws) (Value.ref a :: us) := .cons rfl rv
    have hr : RmG j X.A := C.rm.mono hjk
    have len2 : (Value.ref a :: us).length = ps.length := by rw [← rv2.length]; exact Fg.len _ _ _ _ q2
    have bb := hb s3 (Value.ref a :: us) I4.kIn (by rw [List.append_nil]; exact len2)
    rw [List.append_nil] at bb
    refine wpAny_call (PySem.W.method_call (ClX.pin_at I4) (codeAny_mono (Fg.run X.A X.stack s3 H2 ⟨.ref a :: us, []⟩ _ _ (fun _ H3 => E.nx σ H3) (WE W σ) hr I4.env0 bb rv2 q2) fun res t ht => ?_))
    match res, ht with
    | .error er, ht => exact passAt C.tk σ _ H2 s3 er t I4 ht
    | .ok (.ret u), ht =>
      obtain ⟨v, H', I5, rv5, q5⟩ := I4.after ht
      exact ⟨σ, H', ClX.unpin I5, q5⟩
end
end FL

/-! Part J: from the law's mirror to the row. -/
namespace FL
open PySem PySem.Spec PyProof.Rows L2

/-- the law is called on the script, behind the top -/
theorem lawG {P : Program} {w : World} {K : PySem.W.Frag} {mg mb : Str → Option Value} {k : Nat} {f a : Addr} {fd : FuncData} {x : Str} {m : MF} {t : Shared} {us : List Value} {ns : List Int}
    (hK : K.In t.heap) (hg : t.heap.Ns mainGlobals mg) (hbn : t.heap.Ns builtinsNs mb) (hbb : ∀ x : Str, x ≠ "__name__" → mb x = bootBuiltins x) (hlim : t.heap.NoLimit) (hgen : t.gens = #[])
    (ha : t.heap.get? a = some { cls := .type "list", data := .seq us.toArray }) (hi : IntsAre us ns) (hl : ns.length ≤ sizeLine) (hr : RmG k callerA)
    (F : ∀ base : Heap, K.In base → base.Ns mainGlobals mg → FnG P w K mg base (L2.CX P w) k f fd [x] (spM K mg m 1)) (hbind : ∀ (s : Shared) (u : Value), BindsTo s fd ⟨[u], []⟩ [(x, u)])
    (hm : ∃ μ', m [.ro (ns.map .int)] [] = .ok (.fr (.bl true)) μ') :
    codeAny (model P w) callerA (.call (.ref f) ⟨[.ref a], []⟩) (fun r s' => r = .ok (.ret (.bool true)) ∧ OldK t.heap s'.heap ∧ s'.os = t.os ∧ AllBare s'.gens) t := by
  have vv := vals_ints hi
  have lv := hi.length
  obtain ⟨μ', hm⟩ := hm
  have main : ∀ H : Hp, Only H → SqL K H a (ns.map V.int) → HOk P w H t.heap → (∀ p, H p ≠ none → p = a) → (H a ≠ none → K.lookup a = none) →
      codeAny (model P w) callerA (.call (.ref f) ⟨[.ref a], []⟩) (fun r s' => r = .ok (.ret (.bool true)) ∧ OldK t.heap s'.heap ∧ s'.os = t.os ∧ AllBare s'.gens) t := by
    intro H only sq ok one free
    have noDict : ∀ {p : Addr} {o : Obj} {es : Array DictEntry} {ep : Nat}, t.heap.get? p = some o → o.data = .dict es ep → H p = none := fun {p o es ep} e d => by
      cases q : H p with
      | none => rfl
      | some u =>
        have ep' : p = a := one p (by rw [q]; simp)
        rw [ep', ha] at e
        cases e
        have d' : Data.seq us.toArray _ = Data.dict es ep := d
        cases d'
    have nsB : ∀ {p : Addr} {mm : Str → Option Value}, t.heap.Ns p mm → (hidT t.heap H).Ns p mm := fun {p mm} ⟨o, es, ep, e, d, r⟩ => ⟨o, es, ep, hidT_get e (noDict e d), d, r⟩
    have kB : K.In (hidT t.heap H) := fun p o e => hidT_get (hK p o e) (by
      cases q : H p with
      | none => rfl
      | some u =>
        have ep' : p = a := one p (by rw [q]; simp)
        rw [ep', free (by rw [← ep', q]; simp)] at e
        cases e)
    have mB : Mod K mg (hidT t.heap H) := ⟨kB, nsB hg, ⟨mb, nsB hbn, hbb⟩, let ⟨mc, q1, q2⟩ := hlim; ⟨mc, nsB q1, q2⟩⟩
    have env : Env0 P w K mg (hidT t.heap H) callerA [] t H := ⟨rfl, mB, fun p o e => of_hidT e, Nat.le_of_eq (hidT_size _ _), trivial, fun p hp => absurd (show p ∈ ([] : List Addr) from hp) (by simp), ok, .of_eq hgen⟩
    have S0 : Sim K mg (fun _ => none) H [] [] [] [] H := ⟨fun p o h => .inl h, fun p o h => (nomatch h), rfl, fun i s e => (by simp at e), fun i j p s t e => (by simp at e), fun k c e => (by simp at e), rfl, List.nodup_nil⟩
    have hsp : spM K mg m 1 [.ref a] H (fun v _ => v = .bl true) (fun _ _ _ => False) := by
      refine ⟨rfl, _, H, [], [], [.ro (ns.map .int)], S0, .cons (.ro sq (RepL.ofInts ns)) .nil, ?_⟩
      rw [hm]
      intro v H' F' ρ' _ _ _ rv
      cases rv
      rfl
    refine codeAny_mono ((F _ kB (nsB hg)).run callerA [] t H ⟨[.ref a], []⟩ [.ref a] [.ref a] _ _ hr env (hbind t (.ref a)) (.cons rfl .nil) hsp) fun res s' h => ?_
    cases res with
    | error e =>
      obtain ⟨_, _, _, _, _, _, _, _, _, _, _, _, z⟩ := h
      exact z.elim
    | ok fl =>
      cases fl with
      | next => exact False.elim h
      | brk => exact False.elim h
      | cont => exact False.elim h
      | ret u =>
        obtain ⟨v, H', os, bare, un, ok', rv, q⟩ := h
        have q' : v = .bl true := q
        subst q'
        cases rv
        refine ⟨rfl, OldK.of_keep fun p o e => ?_, os, bare⟩
        cases q : H p with
        | none => exact un.keep p o e q (by intro z; exact absurd (show p ∈ ([] : List Addr) from z) (by simp)) (by simp)
        | some u =>
          rcases only p with z | ⟨ob, xs, z⟩
          · rw [q] at z; cases z
          · obtain ⟨e1, _⟩ := ok p _ z
            obtain ⟨e2, _⟩ := ok' p _ (un.frzs p ob _ z)
            rw [e] at e1; cases e1
            exact e2
  cases hk : K.lookup a with
  | some o =>
    have e := hK a o hk
    rw [ha] at e
    cases e
    exact main (fun _ => none) (fun _ => .inl rfl) (.inr ⟨_, us.toArray, _, hk, rfl, rfl, rfl, by rw [List.size_toArray, lv]; exact hl, by simpa using vv⟩) (fun p u z => nomatch z) (fun p z => absurd rfl z) fun z => absurd rfl z
  | none =>
    let H : Hp := fun p => if p = a then some (.frz { cls := .type "list", data := .seq us.toArray } (.lst (ns.map V.int))) else none
    have Ha : H a = some (.frz { cls := .type "list", data := .seq us.toArray } (.lst (ns.map V.int))) := if_pos rfl
    have Hn : ∀ {p}, p ≠ a → H p = none := fun h => if_neg h
    refine main H (fun p => ?_) (.inl (.inr ⟨_, Ha⟩)) (fun p u z => ?_) (fun p z => Classical.byContradiction fun n => z (Hn n)) fun _ => hk
    · by_cases n : p = a
      · subst n; exact .inr ⟨_, _, Ha⟩
      · exact .inl (Hn n)
    · by_cases n : p = a
      · subst n
        rw [Ha] at z
        cases z
        exact ⟨ha, by rw [List.length_map]; exact hl, us, _, vv, ha⟩
      · rw [Hn n] at z; cases z
theorem walkG {l : PySem.W.OpenLaw} {k : Nat} {q : Program} {loose : List Str} {XP : (Str → Option Value) → Heap → Prop} {YP : World → Heap → Prop} {d : DefRec} {K : Params → PySem.W.Frag} {x : Str} {m : MF}
    (hn : l.most = some 63) (hdf : d.params.defaults = []) (hr : RmG k callerA)
    (hY : ∀ (w : World) (h : Heap), YP w h → (K w.params).In h)
    (F : ∀ (w : World) (mg : Str → Option Value) (fa : Addr) (h : Heap), (K w.params).In h → h.Ns mainGlobals mg → mg d.name = some (.ref fa) →
      ∃ fd : FuncData, (∀ (s : Shared) (u : Value), BindsTo s fd ⟨[u], []⟩ [(x, u)]) ∧
        ∀ base : Heap, (K w.params).In base → base.Ns mainGlobals mg → FnG l.prog w (K w.params) mg base (L2.CX l.prog w) k fa fd [x] (spM (K w.params) mg m 1))
    (hm : ∀ ns : List Int, ns.length ≤ 63 → ∃ μ', m [.ro (ns.map .int)] [] = .ok (.fr (.bl true)) μ') :
    PySem.W.WalkO q loose XP YP l.row.toRowW d [] (fun f vs => PySem.call f vs) := by
  refine Att.attach_call hn hdf fun w s0 s1 mg mb fa o pm cd doc a vs ns G Y ho hd hcd hmg hobj hints hlen hg => ?_
  have hK := hY w _ Y
  obtain ⟨fd, hb, hF⟩ := F w mg fa _ hK G.T.g hmg
  exact lawG hK G.T.g G.T.b G.T.builtins G.T.nolimit hg hobj hints (Nat.le_trans hlen (by rw [line_eq]; decide)) hr hF hb (hm ns hlen)
theorem room_caller : RmG 200 callerA := ⟨⟨rfl, by decide, by decide⟩, rfl⟩
end FL

/-! Part P: from the law's mirror to the row, with tables of code objects. -/
namespace FL
open PySem PySem.Spec PyProof.Rows L2 LamX

abbrev oTab : Obj := { cls := .none, data := .fields #[] }
/-- what is hidden: lists, and empty tables -/
def Hid (h : Heap) (H : Hp) : Prop := ∀ p, H p ≠ none → (∃ o its n, h.get? p = some o ∧ o.data = .seq its n) ∨ h.get? p = some oTab
theorem hid_has {h : Heap} {H : Hp} (x : Hid h H) {p : Addr} {o : Obj} (e : h.get? p = some o) (n1 : ∀ its n, o.data ≠ .seq its n) (n2 : o.data ≠ .fields #[]) : (hidT h H).get? p = some o ∧ H p = none := by
  have n : H p = none := Classical.byContradiction fun z => by
    rcases x p z with ⟨o', its, n, e', d⟩ | e'
    · rw [e] at e'
      cases e'
      exact n1 _ _ d
    · rw [e] at e'
      cases e'
      exact n2 rfl
  exact ⟨hidT_get e n, n⟩
theorem hid_ns {h : Heap} {H : Hp} (x : Hid h H) {p : Addr} {f : Str → Option Value} : h.Ns p f → (hidT h H).Ns p f := fun ⟨o, es, ep, e, d, r⟩ =>
  ⟨o, es, ep, (hid_has x e (fun its n z => by rw [d] at z; cases z) (fun z => by rw [d] at z; cases z)).1, d, r⟩
theorem ns_not {h : Heap} {p : Addr} {f : Str → Option Value} {o : Obj} (x : h.Ns p f) (e : h.get? p = some o) (n : ∀ es ep, o.data ≠ .dict es ep) : False := by
  obtain ⟨o', es, ep, e', d, _⟩ := x
  rw [e] at e'
  cases e'
  exact n _ _ d
/-- the module of the built-ins, as the main globals have it -/
abbrev Blt (h : Heap) (mg : Str → Option Value) : Prop := ∃ (bm : Addr) (ob : Obj), mg "__builtins__" = some (.ref bm) ∧ bm ≠ builtinsNs ∧ h.get? bm = some ob ∧ ob.cls = .type "module" ∧ ob.dict = some builtinsNs ∧ ob.data = .plain
theorem hid_tab {h : Heap} {H : Hp} (x : Hid h H) {mg : Str → Option Value} {c P : Addr} (G : h.Ns mainGlobals mg) (B : Blt h mg) (e : h.get? P = some oTab) (C : PySem.W.CodeHd h c P) : TabB (hidT h H) mg c P := by
  constructor
  · obtain ⟨o, its, f1, f2, f3, f4, f5, f6, f7, g1, g2, g3, gs⟩ := C
    refine ⟨o, its, f1, f2, f3, f4, f5, f6, f7, (hid_has x g1 (fun _ _ z => ?_) fun z => ?_).1, g2, g3, gs⟩
    · rw [g3] at z
      cases z
    · rw [g3] at z
      cases z
      have w := gs.1
      simp at w
  · obtain ⟨bm, ob, a1, a2, a3, a4, a5, a6⟩ := B
    refine ⟨bm, ob, a1, a2, fun z => ?_, fun z => ?_, (hid_has x a3 (fun _ _ z => ?_) fun z => ?_).1, a4, a5, a6⟩
    · subst z
      exact ns_not G a3 fun _ _ z => by rw [a6] at z; cases z
    · subst z
      rw [e] at a3
      cases a3
      cases a6
    · rw [a6] at z
      cases z
    · rw [a6] at z
      cases z
  · intro z
    rw [← z] at e
    exact ns_not G e fun _ _ z => by cases z
/-- the script and the tables, as the abstract heap has them -/
def hpT (a : Addr) (u : Option HO) (T : List Addr) : Hp := fun p => if p ∈ T then some (.tbl #[]) else if p = a then u else none
/-- the memory's first objects: the tables -/
def memT (cs : List (Addr × Addr × Str)) : Mem := cs.map fun p => .tab p.2.1 p.2.2
theorem memT_get {cs : List (Addr × Addr × Str)} {j : Nat} {o : Own} (e : (memT cs)[j]? = some o) : ∃ p, cs[j]? = some p ∧ o = .tab p.2.1 p.2.2 := by
  unfold memT at e
  rw [List.getElem?_map] at e
  obtain ⟨p, e1, e2⟩ := Option.map_eq_some_iff.mp e
  exact ⟨p, e1, e2.symm⟩
/-- the law is called on the script, behind the top; cs: the code objects that make lambdas, their tables, the lambdas' names -/
theorem lawGT {P : Program} {w : World} {K : PySem.W.Frag} {mg mb : Str → Option Value} {k : Nat} {f a : Addr} {fd : FuncData} {x : Str} {m : MF} {t : Shared} {us : List Value} {ns : List Int} {cs : List (Addr × Addr × Str)}
    (hK : K.In t.heap) (hg : t.heap.Ns mainGlobals mg) (hbn : t.heap.Ns builtinsNs mb) (hbb : ∀ x : Str, x ≠ "__name__" → mb x = bootBuiltins x) (hlim : t.heap.NoLimit) (hgen : t.gens = #[]) (hB : Blt t.heap mg)
    (hT : ∀ p ∈ cs, t.heap.get? p.2.1 = some oTab) (nT : ∀ p ∈ cs, K.lookup p.2.1 = none) (hC : ∀ p ∈ cs, PySem.W.CodeHd t.heap p.1 p.2.1) (dT : (cs.map fun p => p.2.1).Nodup)
    (ha : t.heap.get? a = some { cls := .type "list", data := .seq us.toArray }) (hi : IntsAre us ns) (hl : ns.length ≤ sizeLine) (hr : RmG k callerA)
    (F : ∀ base : Heap, K.In base → base.Ns mainGlobals mg → (∀ p ∈ cs, TabB base mg p.1 p.2.1) → FnG P w K mg base (L2.CX P w) k f fd [x] (spM K mg m 1)) (hbind : ∀ (s : Shared) (u : Value), BindsTo s fd ⟨[u], []⟩ [(x, u)])
    (hm : ∃ μ', m [.ro (ns.map .int)] (memT cs) = .ok (.fr (.bl true)) μ') :
    codeAny (model P w) callerA (.call (.ref f) ⟨[.ref a], []⟩) (fun r s' => r = .ok (.ret (.bool true)) ∧ OldK t.heap s'.heap ∧ s'.os = t.os ∧ AllBare s'.gens) t := by
  have vv := vals_ints hi
  have lv := hi.length
  obtain ⟨μ', hm⟩ := hm
  have hTm : ∀ p ∈ cs.map (fun p => p.2.1), t.heap.get? p = some oTab ∧ K.lookup p = none := fun p hp => by
    obtain ⟨y, hy, rfl⟩ := List.mem_map.mp hp
    exact ⟨hT y hy, nT y hy⟩
  have naT : a ∉ cs.map fun p => p.2.1 := fun z => by
    have w := (hTm a z).1
    rw [ha] at w
    have w' := congrArg Obj.data (Option.some.inj w)
    cases w'
  have main : ∀ u : Option HO, (u = none ∨ ∃ o, u = some (.frz o (.lst (ns.map V.int)))) → (u ≠ none → K.lookup a = none) → SqL K (hpT a u []) a (ns.map V.int) → (∀ o, u = some o → ∀ H, ObjOk P w H t.heap a o) →
      codeAny (model P w) callerA (.call (.ref f) ⟨[.ref a], []⟩) (fun r s' => r = .ok (.ret (.bool true)) ∧ OldK t.heap s'.heap ∧ s'.os = t.os ∧ AllBare s'.gens) t := by
    intro u hu free sq oka
    have h0 : ∀ p, hpT a u (cs.map fun p => p.2.1) p = none ∨ (p ∈ (cs.map fun p => p.2.1) ∧ hpT a u (cs.map fun p => p.2.1) p = some (.tbl #[])) ∨ (p = a ∧ p ∉ (cs.map fun p => p.2.1) ∧ hpT a u (cs.map fun p => p.2.1) p = u) := fun p => by
      unfold hpT
      by_cases z1 : p ∈ cs.map fun p => p.2.1
      · exact .inr (.inl ⟨z1, if_pos z1⟩)
      · by_cases z2 : p = a
        · exact .inr (.inr ⟨z2, z1, by rw [if_neg z1, if_pos z2]⟩)
        · exact .inl (by rw [if_neg z1, if_neg z2])
    generalize eH : hpT a u (cs.map fun p => p.2.1) = H at h0
    have hid : Hid t.heap H := fun p z => by
      rcases h0 p with n | ⟨n, _⟩ | ⟨rfl, _⟩
      · exact absurd n z
      · exact .inr (hTm p n).1
      · exact .inl ⟨_, _, _, ha, rfl⟩
    have kB : K.In (hidT t.heap H) := fun p o e => hidT_get (hK p o e) (by
      rcases h0 p with n | ⟨n, _⟩ | ⟨rfl, _, n⟩
      · exact n
      · rw [(hTm p n).2] at e
        cases e
      · rw [n]
        exact Classical.byContradiction fun z => by
          rw [free z] at e
          cases e)
    have HaT : ∀ p ∈ cs.map (fun p => p.2.1), H p = some (.tbl #[]) := fun p hp => by
      rw [← eH]
      exact if_pos hp
    have Ha : H a = u := by
      rw [← eH]
      unfold hpT
      rw [if_neg naT, if_pos rfl]
    have mB : Mod K mg (hidT t.heap H) := ⟨kB, hid_ns hid hg, ⟨mb, hid_ns hid hbn, hbb⟩, let ⟨mc, q1, q2⟩ := hlim; ⟨mc, hid_ns hid q1, q2⟩⟩
    have ok : HOk P w H t.heap := fun p o e => by
      rcases h0 p with n | ⟨n, e2⟩ | ⟨rfl, _, n⟩
      · rw [n] at e
        cases e
      · rw [e] at e2
        cases e2
        exact (hTm p n).1
      · rw [n] at e
        exact oka o e H
    have env : Env0 P w K mg (hidT t.heap H) callerA [] t H := ⟨rfl, mB, fun p o e => of_hidT e, Nat.le_of_eq (hidT_size _ _), trivial, fun p hp => absurd (show p ∈ ([] : List Addr) from hp) (by simp), ok, .of_eq hgen⟩
    have fa : hpT a u [] a = u := by
      unfold hpT
      rw [if_neg (by simp), if_pos rfl]
    have fn : ∀ p, p ≠ a → hpT a u [] p = none := fun p z => by
      unfold hpT
      rw [if_neg (by simp), if_neg z]
    have S0 : Sim K mg (fun _ => none) (hpT a u []) (cs.map fun p => p.2.1) (memT cs) [] [] H := by
      refine ⟨fun p o h => ?_, fun p o h => (nomatch h), rfl, fun i s e => (by simp at e), fun i j p s t e => (by simp at e), fun k c e => ?_, by unfold memT; simp, dT⟩
      · by_cases z : p = a
        · subst z
          rw [fa] at h
          exact .inl (Ha.trans h)
        · rw [fn p z] at h
          cases h
      · obtain ⟨p, e1, rfl⟩ := memT_get e
        have hp : p.2.1 ∈ cs.map fun p => p.2.1 := List.mem_map.mpr ⟨p, List.mem_of_getElem? e1, rfl⟩
        refine ⟨p.2.1, by rw [List.getElem?_map, e1]; rfl, fn _ fun z => naT (by rw [← z]; exact hp), rfl, rfl, #[], HaT _ hp, True.intro, fun pos cv hc => ?_⟩
        have z : codeAmong pos [] = some cv := hc
        simp [codeAmong] at z
    have hsp : spM K mg m 1 [.ref a] H (fun v _ => v = .bl true) (fun _ _ _ => False) := by
      refine ⟨rfl, _, hpT a u [], _, memT cs, [.ro (ns.map .int)], S0, .cons (.ro sq (RepL.ofInts ns)) .nil, ?_⟩
      rw [hm]
      intro v H' F' ρ' _ _ _ rv
      cases rv
      rfl
    refine codeAny_mono ((F _ kB (hid_ns hid hg) (fun p hp => hid_tab hid hg hB (hT p hp) (hC p hp))).run callerA [] t H ⟨[.ref a], []⟩ [.ref a] [.ref a] _ _ hr env (hbind t (.ref a)) (.cons rfl .nil) hsp) fun res s' h => ?_
    cases res with
    | error e =>
      obtain ⟨_, _, _, _, _, _, _, _, _, _, _, _, z⟩ := h
      exact z.elim
    | ok fl =>
      cases fl with
      | next => exact False.elim h
      | brk => exact False.elim h
      | cont => exact False.elim h
      | ret u' =>
        obtain ⟨v, H', os, bare, un, ok', rv, q⟩ := h
        have q' : v = .bl true := q
        subst q'
        cases rv
        have each : ∀ p o, t.heap.get? p = some o → (p ∉ (cs.map fun p => p.2.1) ∧ s'.heap.get? p = some o) ∨ (p ∈ (cs.map fun p => p.2.1) ∧ o = oTab ∧ ∃ more : Array Value, s'.heap.get? p = some { cls := .none, data := .fields more }) := fun p o e => by
          by_cases hp : p ∈ cs.map fun p => p.2.1
          · obtain ⟨more, z⟩ := un.tbls p #[] (HaT p hp)
            rw [(hTm p hp).1] at e
            cases e
            exact .inr ⟨hp, rfl, _, ok' p _ z⟩
          · refine .inl ⟨hp, ?_⟩
            cases q : H p with
            | none => exact un.keep p o e q (by intro z; exact absurd (show p ∈ ([] : List Addr) from z) (by simp)) (by simp)
            | some y =>
              rcases h0 p with n | ⟨n, _⟩ | ⟨rfl, _, n⟩
              · rw [n] at q
                cases q
              · exact absurd n hp
              · rcases hu with z | ⟨ob, z⟩
                · rw [n, z] at q
                  cases q
                · obtain ⟨e1, _⟩ := ok p _ (n.trans z)
                  obtain ⟨e2, _⟩ := ok' p _ (un.frzs p ob _ (n.trans z))
                  rw [e] at e1; cases e1
                  exact e2
        refine ⟨rfl, ⟨fun p o e => ?_, fun p o e => ?_⟩, os, bare⟩
        · rcases each p o e with ⟨_, z⟩ | ⟨hp, rfl, more, z⟩
          · exact .inl z
          · obtain ⟨y, hy, rfl⟩ := List.mem_map.mp hp
            exact .inr (.inl ⟨((hC y hy).tab (hT y hy)).isCodeTable, rfl, #[], more, rfl, by rw [Array.empty_append]; exact z⟩)
        · rcases each p o e with ⟨_, z⟩ | ⟨_, _, more, z⟩
          · exact ⟨o, z⟩
          · exact ⟨_, z⟩
  cases hk : K.lookup a with
  | some o =>
    have e := hK a o hk
    rw [ha] at e
    cases e
    exact main none (.inl rfl) (fun z => absurd rfl z) (.inr ⟨_, us.toArray, _, hk, rfl, rfl, rfl, by rw [List.size_toArray, lv]; exact hl, by simpa using vv⟩) (fun o z => nomatch z)
  | none =>
    refine main (some (.frz { cls := .type "list", data := .seq us.toArray } (.lst (ns.map V.int)))) (.inr ⟨_, rfl⟩) (fun _ => hk) (.inl (.inr ⟨{ cls := .type "list", data := .seq us.toArray }, ?_⟩)) (fun o z H => ?_)
    · unfold hpT
      rw [if_neg (by simp), if_pos rfl]
    · cases z
      exact ⟨ha, by rw [List.length_map]; exact hl, us, _, vv, ha⟩
theorem walkGT {l : PySem.W.OpenLaw} {k : Nat} {q : Program} {loose : List Str} {XP : (Str → Option Value) → Heap → Prop} {YP : World → Heap → Prop} {d : DefRec} {K : Params → PySem.W.Frag} {x : Str} {cs : List (Addr × Addr × Str)} {m : MF}
    (hn : l.most = some 63) (hdf : d.params.defaults = []) (hr : RmG k callerA)
    (hY : ∀ (w : World) (h : Heap), YP w h → (K w.params).In h)
    (hT : ∀ (w : World) (h : Heap), YP w h → ∀ p ∈ cs, h.get? p.2.1 = some oTab) (nT : ∀ (w : World), ∀ p ∈ cs, (K w.params).lookup p.2.1 = none) (hC : ∀ (w : World) (h : Heap), YP w h → ∀ p ∈ cs, PySem.W.CodeHd h p.1 p.2.1) (dT : (cs.map fun p => p.2.1).Nodup)
    (F : ∀ (w : World) (mg : Str → Option Value) (fa : Addr) (h : Heap), (K w.params).In h → h.Ns mainGlobals mg → mg d.name = some (.ref fa) →
      ∃ fd : FuncData, (∀ (s : Shared) (u : Value), BindsTo s fd ⟨[u], []⟩ [(x, u)]) ∧
        ∀ base : Heap, (K w.params).In base → base.Ns mainGlobals mg → (∀ p ∈ cs, TabB base mg p.1 p.2.1) → FnG l.prog w (K w.params) mg base (L2.CX l.prog w) k fa fd [x] (spM (K w.params) mg m 1))
    (hm : ∀ ns : List Int, ns.length ≤ 63 → ∃ μ', m [.ro (ns.map .int)] (memT cs) = .ok (.fr (.bl true)) μ') :
    PySem.W.WalkO q loose XP YP l.row.toRowW d [] (fun f vs => PySem.call f vs) := by
  refine Att.attach_call hn hdf fun w s0 s1 mg mb fa o pm cd doc a vs ns G Y ho hd hcd hmg hobj hints hlen hg => ?_
  have hK := hY w _ Y
  obtain ⟨fd, hb, hF⟩ := F w mg fa _ hK G.T.g hmg
  exact lawGT hK G.T.g G.T.b G.T.builtins G.T.nolimit hg G.T.bmain (hT w _ Y) (nT w) (hC w _ Y) dT hobj hints (Nat.le_trans hlen (by rw [line_eq]; decide)) hr hF hb (hm ns hlen)
end FL

/-! Part Hk: the top's facts by a hook of one's own: tests of the written part, and its functions. -/
namespace FL
open PySem PySem.Spec PyProof.Rows L2 LamX
/-- a def: where it stands (a global, or a class and its name there), its names, the statement, the names that it closes over -/
structure Dsc where
  p : Str × Option Str
  x : Str
  qual : Str
  st : Stmt
  clo : List Str
/-- a def's address: a global's, a class's; of a property, its getter's -/
def fAdF (K : PySem.W.Frag) (p : Str × Option Str) : Addr := match PySem.W.recIn K (He.fAd K p) "property" with
  | some (.ref g :: _) => g
  | _ => He.fAd K p
abbrev FnS : Type := Option (Str × Str × Arguments × FuncBody × Scope × Addr × List Str × Addr)
def fnS (K : PySem.W.Frag) (p : Str × Option Str) : FnS := match K.lookup (fAdF K p) with
  | some ⟨_, _, .func fd, _⟩ => some (fd.name, fd.qualname, fd.params, fd.body, fd.scope, fd.globals, fd.closure.map (·.1), fd.builtins)
  | _ => none
def Dsc.val (d : Dsc) : FnS := some (d.x, d.qual, defArgs d.st, .stmts (defBody d.st), defScope d.st, mainGlobals, d.clo, builtinsNs)
/-- its code is its own, it has no defaults -/
def Dsc.ok (K : PySem.W.Frag) (d : Dsc) : Bool := match K.lookup (fAdF K d.p) with
  | some ⟨_, _, .func fd, _⟩ => PySem.W.codeIn K fd.code d.qual && decide (fd.defaults = .none)
  | _ => false
/-- the objects that an object names, closures and cells too -/
def refsF (o : Obj) : List Addr := He.refsO o ++ match o.data with
  | .func fd => fd.closure.map (·.2) ++ He.refV fd.kwdefaults
  | .cell (some v) => He.refV v
  | _ => []
def growF (g : Addr → Option Obj) (as : List Addr) : List Addr := (as ++ as.flatMap fun a => match g a with
  | some o => refsF o
  | none => []).eraseDups
def asF (g : Addr → Option Obj) : Nat → List Addr
  | 0 => [mainGlobals, cStatics]
  | n + 1 => growF g (asF g n)
/-- a table of code objects is no part of the written part -/
def keepO (o : Obj) : Bool := match o.cls, o.data with
  | .none, .fields _ => false
  | _, _ => true
def frF (g : Addr → Option Obj) (n : Nat) : PySem.W.Frag := He.frG g ((asF g n).filter fun a => match g a with
  | some o => keepO o
  | none => false)
abbrev FnP : Type := Str × Option Str
/-- a def's code object, its table -/
def codeAd (K : PySem.W.Frag) (p : FnP) : Addr := match K.lookup (fAdF K p) with
  | some ⟨_, _, .func fd, _⟩ => (match fd.code with
    | .ref c => c
    | _ => 0)
  | _ => 0
def tabAd (K : PySem.W.Frag) (p : FnP) : Addr := match K.lookup (codeAd K p) with
  | some ⟨_, _, .fields vs, _⟩ => (match (vs[11]? : Option Value) with
    | some (Value.ref P) => P
    | _ => 0)
  | _ => 0
/-- the makers of lambdas: where they stand, the name of what they make -/
abbrev Mks : Type := List (FnP × Str)
def csOf (K : PySem.W.Frag) (ts : Mks) : List (Addr × Addr × Str) := ts.map fun t => (codeAd K t.1, tabAd K t.1, t.2)
def tabOk (K : PySem.W.Frag) (ts : Mks) : Bool := (ts.all fun t => PySem.W.codeHdIn K (codeAd K t.1) (tabAd K t.1) && (K.lookup (tabAd K t.1)).isNone) && decide (ts.map fun t => tabAd K t.1).Nodup
abbrev HkA : Type := Bool × List FnS × List (Option Obj)
def hkObs (fs : List (PySem.W.Frag → Bool)) (ds : List Dsc) (ts : Mks) (g : Addr → Option Obj) (K : PySem.W.Frag) : HkA := (((fs.all fun f => f K) && ds.all fun d => d.ok K) && tabOk K ts, ds.map (fun d => fnS K d.p), ts.map fun t => g (tabAd K t.1))
def hkVal (ds : List Dsc) (ts : Mks) : HkA := (true, ds.map Dsc.val, ts.map fun _ => some oTab)
structure HkSays (fs : List (PySem.W.Frag → Bool)) (ds : List Dsc) (ts : Mks) (K : PySem.W.Frag) : Prop where
  t : (((fs.all fun f => f K) && ds.all fun d => d.ok K) && tabOk K ts) = true
  d : (ds.map fun d => fnS K d.p) = ds.map Dsc.val
def hkG (n : Nat) (fs : List (PySem.W.Frag → Bool)) (ds : List Dsc) (ts : Mks) (g : Addr → Option Obj) : HkA := hkObs fs ds ts g (frF g n)
theorem frF_in {n : Nat} {h : Heap} : (frF h.get? n).In h := fun _ _ e => He.frG_at _ e
def hookF (n : Nat) (fs : List (PySem.W.Frag → Bool)) (ds : List Dsc) (ts : Mks) : PySem.W.Hook where
  α := HkA
  obs := fun s => hkG n fs ds ts s.heap.get?
  val := fun _ => hkVal ds ts
  says := fun _ h => ∃ K : PySem.W.Frag, K.In h ∧ HkSays fs ds ts K ∧ ∀ t ∈ ts, h.get? (tabAd K t.1) = some oTab
  of := fun _ s e => ⟨_, frF_in, ⟨congrArg (fun z : HkA => z.1) e, congrArg (fun z : HkA => z.2.1) e⟩, fun t ht => by
    have z : (ts.map fun t => s.heap.get? (tabAd (frF s.heap.get? n) t.1)) = ts.map fun _ => some oTab := congrArg (fun z : HkA => z.2.2) e
    exact List.map_inj_left.mp z t ht⟩
  keeps := fun _ _ _ ⟨K, hK, c, x⟩ k => ⟨K, PySem.W.Frag.In.keeps hK k, c, fun t ht => k _ _ (x t ht)⟩
theorem hkG_eq {n : Nat} {fs : List (PySem.W.Frag → Bool)} {ds : List Dsc} {ts : Mks} {g : Addr → Option Obj} {s : Shared} (h : ∀ a, g a = s.heap.get? a) : hkG n fs ds ts g = (hookF n fs ds ts).obs s := by
  have e : g = s.heap.get? := funext h
  rw [e]
  rfl
section
variable {fs : List (PySem.W.Frag → Bool)} {ds : List Dsc} {ts : Mks} {K : PySem.W.Frag}
theorem HkSays.both (c : HkSays fs ds ts K) : (fs.all fun f => f K) = true ∧ (ds.all fun d => d.ok K) = true := Bool.and_eq_true_iff.mp (Bool.and_eq_true_iff.mp c.t).1
theorem HkSays.tabs (c : HkSays fs ds ts K) : (∀ t ∈ ts, PySem.W.codeHdIn K (codeAd K t.1) (tabAd K t.1) = true ∧ K.lookup (tabAd K t.1) = none) ∧ (ts.map fun t => tabAd K t.1).Nodup := by
  obtain ⟨a, b⟩ := Bool.and_eq_true_iff.mp (show ((ts.all fun t => PySem.W.codeHdIn K (codeAd K t.1) (tabAd K t.1) && (K.lookup (tabAd K t.1)).isNone) && decide (ts.map fun t => tabAd K t.1).Nodup) = true from (Bool.and_eq_true_iff.mp c.t).2)
  refine ⟨fun t ht => ?_, of_decide_eq_true b⟩
  obtain ⟨x, y⟩ := Bool.and_eq_true_iff.mp (List.all_eq_true.mp a t ht)
  exact ⟨x, Option.isNone_iff_eq_none.mp y⟩
theorem HkSays.fact (c : HkSays fs ds ts K) (i : Nat) {f : PySem.W.Frag → Bool} (h : fs[i]? = some f) : f K = true := List.all_eq_true.mp c.both.1 f (List.mem_of_getElem? h)
theorem HkSays.fn (c : HkSays fs ds ts K) (i : Nat) {d : Dsc} (h : ds[i]? = some d) : ∃ oc od osl kV doc pm an cdv ct clo, clo.map (·.1) = d.clo ∧ K.lookup (fAdF K d.p) = some ⟨oc, od, .func (PySem.W.fnX d.x d.qual (defArgs d.st) (defBody d.st) (defScope d.st) clo .none kV doc pm an cdv ct), osl⟩ ∧ PySem.W.codeIn K cdv d.qual = true := by
  have e : (ds.map fun d => fnS K d.p)[i]? = (ds.map Dsc.val)[i]? := by rw [c.d]
  rw [List.getElem?_map, List.getElem?_map, h] at e
  have e : fnS K d.p = d.val := Option.some.inj e
  have k : d.ok K = true := List.all_eq_true.mp c.both.2 d (List.mem_of_getElem? h)
  unfold fnS at e
  unfold Dsc.ok at k
  cases q : K.lookup (fAdF K d.p) with
  | none => rw [q] at k; cases k
  | some o =>
    obtain ⟨oc, od, dt, osl⟩ := o
    rw [q] at k e
    cases dt with
    | func fd =>
      obtain ⟨n1, n2, n3, n4, n5, n6, n7, n8, n9, n10, n11, n12, n13, n14, n15⟩ := fd
      have e2 : (some (n1, n2, n3, n4, n5, n6, n7.map (·.1), n15) : FnS) = some (d.x, d.qual, defArgs d.st, .stmts (defBody d.st), defScope d.st, mainGlobals, d.clo, builtinsNs) := e
      simp only [Option.some.injEq, Prod.mk.injEq] at e2
      obtain ⟨h1, h2, h3, h4, h5, h6, h7, h8⟩ := e2
      obtain ⟨k1, k2⟩ := Bool.and_eq_true_iff.mp (show (PySem.W.codeIn K n13 d.qual && decide (n8 = Value.none)) = true from k)
      have k2 := of_decide_eq_true k2
      subst h1 h2 h3 h4 h5 h6 h8 k2
      exact ⟨oc, od, osl, n9, n10, n11, n12, n13, n14, n7, h7, rfl, k1⟩
    | _ => cases k
/-- a plain def -/
theorem HkSays.fd (c : HkSays fs ds ts K) (i : Nat) {d : Dsc} (h : ds[i]? = some d) (hc : d.clo = []) : ∃ fd, Fd K d.x d.qual d.st (fAdF K d.p) fd .none := by
  obtain ⟨oc, od, osl, kV, doc, pm, an, cdv, ct, clo, e1, e2, e3⟩ := c.fn i h
  rw [hc] at e1
  have e1 : clo = [] := List.map_eq_nil_iff.mp e1
  subst e1
  exact ⟨_, oc, od, kV, doc, pm, an, cdv, ct, osl, rfl, e2, e3⟩
end
/-! ### a law's end -/
def tbOf (K : PySem.W.Frag) (ts : Mks) : Nat → Addr := fun j => (ts.map fun t => tabAd K t.1).getD j 0
theorem walkH {l : PySem.W.OpenLaw} {k n : Nat} {q : Program} {loose : List Str} {XP : (Str → Option Value) → Heap → Prop} {d : DefRec} {x : Str} {m : (Nat → Addr) → MF} {fs : List (PySem.W.Frag → Bool)} {ds : List Dsc} {ts : Mks}
    (hn : l.most = some 63) (hdf : d.params.defaults = []) (hr : RmG k callerA)
    (F : ∀ (w : World) (mg : Str → Option Value) (fa : Addr) (h : Heap) (K : PySem.W.Frag), K.In h → HkSays fs ds ts K → h.Ns mainGlobals mg → mg d.name = some (.ref fa) →
      ∃ fd : FuncData, (∀ (s : Shared) (u : Value), BindsTo s fd ⟨[u], []⟩ [(x, u)]) ∧
        ∀ base : Heap, K.In base → base.Ns mainGlobals mg → (∀ p ∈ csOf K ts, TabB base mg p.1 p.2.1) → FnG l.prog w K mg base (L2.CX l.prog w) k fa fd [x] (spM K mg (m (tbOf K ts)) 1))
    (hm : ∀ (K : PySem.W.Frag) (ns : List Int), ns.length ≤ 63 → ∃ μ', m (tbOf K ts) [.ro (ns.map .int)] (memT (csOf K ts)) = .ok (.fr (.bl true)) μ') :
    PySem.W.WalkO q loose XP (hookF n fs ds ts).says l.row.toRowW d [] (fun f vs => PySem.call f vs) := by
  refine Att.attach_call hn hdf fun w s0 s1 mg mb fa o pm cd doc a vs ns G Y ho hd hcd hmg hobj hints hlen hg => ?_
  obtain ⟨K, hK, c, hT⟩ := Y
  obtain ⟨fd, hb, hF⟩ := F w mg fa _ K hK c G.T.g hmg
  obtain ⟨t1, t2⟩ := c.tabs
  have mem : ∀ p ∈ csOf K ts, ∃ t ∈ ts, p = (codeAd K t.1, tabAd K t.1, t.2) := fun p hp => by
    obtain ⟨t, ht, rfl⟩ := List.mem_map.mp hp
    exact ⟨t, ht, rfl⟩
  refine lawGT hK G.T.g G.T.b G.T.builtins G.T.nolimit hg G.T.bmain (fun p hp => ?_) (fun p hp => ?_) (fun p hp => ?_) ?_ hobj hints (Nat.le_trans hlen (by rw [line_eq]; decide)) hr hF hb (hm K ns hlen)
  · obtain ⟨t, ht, rfl⟩ := mem p hp
    exact hT t ht
  · obtain ⟨t, ht, rfl⟩ := mem p hp
    exact (t1 t ht).2
  · obtain ⟨t, ht, rfl⟩ := mem p hp
    exact PySem.W.codeHd_of_K hK (t1 t ht).1
  · have e : ((csOf K ts).map fun p => p.2.1) = ts.map fun t => tabAd K t.1 := by
      unfold csOf
      rw [List.map_map]
      rfl
    rw [e]
    exact t2
end FL

/-! Part Cu: what of the text a derivation holds of classes and of what may be called, over the top alone. -/
namespace FL
open PySem PySem.Spec PyProof.Rows L2
/-- a function that may be called with n values and the keywords ks -/
structure FuW (P : Program) (w : World) (K : PySem.W.Frag) (mg : Str → Option Value) (base : Heap) (j : Nat) (x : Str) (n : Nat) (ks : List Str) (sel : List Sel) (m : MF) (N : Nat) (dds : List D) : Prop where
  len : ∀ {α : Type} (vs ds zs : List α), vs.length = n → ds.length = dds.length → zs.length = ks.length → (pickS sel vs ds zs).length = N
  ex : ∃ (f : Addr) (fd : FuncData) (ps : List Str) (ds : List Value) (dvs : List V), mg x = some (.ref f) ∧ PySem.W.keepIn K (.ref f) = true ∧ FnG P w K mg base (L2.CX P w) j f fd ps (spM K mg m N) ∧ BindW K fd ps n ks sel ds ∧ Vals dvs ds ∧ ∀ F ρ, RepL K mg F ρ dvs dds
/-- a class that may be called so -/
structure ClW (P : Program) (w : World) (K : PySem.W.Frag) (mg : Str → Option Value) (base : Heap) (j : Nat) (c : String) (n : Nat) (ks : List Str) (sel : List Sel) (mi : MF) (N : Nat) (dds : List D) : Prop where
  len : ∀ {α : Type} (vs ds zs : List α), vs.length = n → ds.length = dds.length → zs.length = ks.length → (pickS sel vs ds zs).length = N
  ex : ∃ (C f : Addr) (fd : FuncData) (ps : List Str) (ds : List Value) (dvs : List V), mg (Str.ofString c) = some (.ref C) ∧ Mk K C f ∧ FnG P w K mg base (L2.CX P w) j f fd ps (spM K mg mi (N + 1)) ∧ BindW1 K fd ps n ks sel ds ∧ Vals dvs ds ∧ ∀ F ρ, RepL K mg F ρ dvs dds
section
variable {X : Cx} {j n N : Nat} {x : Str} {c : String} {ks : List Str} {sel : List Sel} {m mi : MF} {dds : List D}
theorem FuW.call (V : FuW X.prog X.w X.K X.mg X.base j x n ks sel m N dds) : ∃ a, X.mg x = some (.ref a) ∧ CallW X j a n ks sel m N dds := by
  obtain ⟨f, fd, ps, ds, dvs, e1, e2, e3, e4, e5, e6⟩ := V.ex
  exact ⟨f, e1, .fn e3 e2 e4 e5 e6 V.len⟩
theorem ClW.callF (V : ClW X.prog X.w X.K X.mg X.base j c n ks sel mi N dds) : ∃ a, X.mg (Str.ofString c) = some (.ref a) ∧ CallW X (j + 1) a n ks sel (mkF c mi) N dds := by
  obtain ⟨C, f, fd, ps, ds, dvs, e1, e2, e3, e4, e5, e6⟩ := V.ex
  exact ⟨C, e1, .mkF e1 e2 e3 e4 e5 e6 V.len⟩
theorem ClW.callS (V : ClW X.prog X.w X.K X.mg X.base j c n ks sel mi N dds) : ∃ a, X.mg (Str.ofString c) = some (.ref a) ∧ CallW X (j + 1) a n ks sel (mkS c mi) N dds := by
  obtain ⟨C, f, fd, ps, ds, dvs, e1, e2, e3, e4, e5, e6⟩ := V.ex
  exact ⟨C, e1, .mkS e1 e2 e3 e4 e5 e6 V.len⟩
end
/-- properties and methods of classes, over the top alone -/
def PropR (P : Program) (w : World) (K : PySem.W.Frag) (mg : Str → Option Value) (base : Heap) (j : Nat) (pt : String → String → Option MF) : Prop :=
  ∀ c f m, pt c f = some m → ∀ C, mg (Str.ofString c) = some (.ref C) → Cls K C ∧ ∃ (p g : Addr) (fd : FuncData) (nm : Str), PropOf K C (Str.ofString f) p g ∧ FnG P w K mg base (L2.CX P w) j g fd [nm] (spM K mg m 1) ∧ Binds K fd [nm] []
theorem PropR.ok {X : Cx} {j : Nat} {pt : String → String → Option MF} (h : PropR X.prog X.w X.K X.mg X.base j pt) : PropsOk X j pt := h
def MethR (P : Program) (w : World) (K : PySem.W.Frag) (mg : Str → Option Value) (base : Heap) (j : Nat) (mt : String → String → Nat → Option MF) : Prop :=
  ∀ c f n m, mt c f n = some m → ∀ C, mg (Str.ofString c) = some (.ref C) → Cls K C ∧ ∃ (g : Addr) (fd : FuncData) (ps : List Str) (ds : List Value) (dvs : List V) (dds : List D) (m' : MF) (N : Nat), Meth K C (Str.ofString f) g ∧ FnG P w K mg base (L2.CX P w) j g fd ps (spM K mg m' N) ∧ Binds K fd ps ds ∧ Vals dvs ds ∧
    (∀ F ρ, RepL K mg F ρ dvs dds) ∧ n + 1 + dds.length = N ∧ ∀ ds' μ, m ds' μ = m' (ds' ++ dds) μ
theorem MethR.ok {X : Cx} {j : Nat} {mt : String → String → Nat → Option MF} (h : MethR X.prog X.w X.K X.mg X.base j mt) : MethsOk X j mt := h
def SupR (P : Program) (w : World) (K : PySem.W.Frag) (mg : Str → Option Value) (base : Heap) (j : Nat) (c f : String) (D : Addr) (mi : MF) (N : Nat) : Prop :=
  ∀ C, mg (Str.ofString c) = some (.ref C) → ∃ (g : Addr) (og : Obj) (fd : FuncData) (ps : List Str) (ds : List Value) (dvs : List V) (cdC : ClassData), PySem.W.clsIn K C = some cdC ∧ PySem.W.alongIn K (Str.ofString f) ((cdC.mro.dropWhile (· != .ref D)).drop 1) = some (some (.ref g)) ∧
    K.lookup g = some og ∧ og.cls = .type "function" ∧ PySem.W.fnIn K g = true ∧ PySem.W.mroIn K C (.ref D) = some true ∧ FnG P w K mg base (L2.CX P w) j g fd ps (spM K mg mi N) ∧ Binds K fd ps []
theorem SupR.ok {X : Cx} {j : Nat} {c f : String} {D : Addr} {mi : MF} {N : Nat} (h : SupR X.prog X.w X.K X.mg X.base j c f D mi N) : SupG X j c f D mi N := h
/-- what super() asks of a class function, over the top alone -/
structure SupP (P : Program) (K : PySem.W.Frag) (mg : Str → Option Value) (f cda cc D : Addr) (p0 : Str) (sc : Scope) (N : List Str) : Prop where
  lk : ∃ o fd ar, K.lookup f = some o ∧ o.data = .func fd ∧ (fd.params.posonlyargs ++ fd.params.args).head? = some ar ∧ ar.arg = p0
  code : ∃ ccl cdd vs ccs file tf, K.lookup cda = some { cls := ccl, dict := cdd, data := .fields vs, slots := ccs } ∧ vs[2]? = some (.str file tf) ∧ ((P.main.file : Str) == file) = true
  cell : ∃ cl cld csl, K.lookup cc = some { cls := cl, dict := cld, data := .cell (some (.ref D)), slots := csl }
  clsD : ∃ cdD, PySem.W.clsIn K D = some cdD
  any : PySem.W.nsIn K cStatics "thirdparty.any" = some none
  top : (P.main.scope.names.lookup ("super" : Str)).isSome = false
  sup : mg "super" = none
  ls : sc.names.lookup ("super" : Str) = some .globalImplicit
  lc : sc.names.lookup ("__class__" : Str) = some .free
  l0 : sc.names.lookup p0 = some .local
  n0 : N[0]? = some p0
theorem SupP.t {X : Cx} {W : WX} {k : Nat} {f cda cc D : Addr} {p0 : Str} {st : Stmt} {N : List Str} (h : SupP X.prog X.K X.mg f cda cc D p0 (defScope st) N) (C : Cd X W k N (defScope st)) (S : CsK X f cda cc D st) : SupT X f cda cc D p0 := by
  obtain ⟨fd, x, qual, dV, F, e⟩ := S.fd
  refine ⟨h.lk, h.code, h.cell, h.clsD, h.any, h.top, h.sup, by rw [C.hsc]; exact h.ls, by rw [C.hsc]; exact h.lc, by rw [C.hsc]; exact h.l0, by rw [C.hN]; exact h.n0, by rw [e], by rw [e], ?_⟩
  rw [e]
  show ([(("__class__" : Str), cc)] : List (Str × Addr)).lookup ("__class__" : Str) = some cc
  simp
end FL

/-! Part K: pop at a place, insert, sum, repr of data. -/
namespace FL
open PySem PySem.Spec PyProof.Rows L2
section
variable {X : Cx} {W : WX} {k : Nat} {N : List Str} {sc : Scope} {a b e o : Expr} {es : List Expr} {pos p apos : Pos} {x : Str}
def gPopAt : Own → List D → Option (D × Own)
  | .lst xs, [.int i] => if -(2 ^ 63) ≤ i ∧ i < 2 ^ 63 then (match ixN xs.length i with
      | some j => match xs[j]? with
        | some d => some (d, .lst (xs.eraseIdx j))
        | none => none
      | none => none) else none
  | _, _ => none
theorem j_popAt : MutJ X rPopAt gPopAt := by
  intro Z F ρ μ δ σ H p c xs ds d c' Q S ow rx e q
  unfold gPopAt at e
  split at e
  · rename_i ys i
    by_cases hb : -(2 ^ 63) ≤ i ∧ i < 2 ^ 63
    · rw [if_pos hb] at e
      cases ej : ixN ys.length i with
      | none => simp only [ej] at e; cases e
      | some j =>
        cases ex : ys[j]? with
        | none => simp only [ej, ex] at e; cases e
        | some d0 =>
          simp only [ej, ex] at e
          cases e
          obtain ⟨v, rfl, hv⟩ := rx.single
          cases hv
          obtain ⟨vs, hH, r⟩ := ow
          obtain ⟨u, eu, ru⟩ := r.get ex
          exact ⟨p, vs, i, j, u, rfl, rfl, hH, hb.1, hb.2, by rw [r.len]; exact (ixN_seq ej).1, eu, q _ _ ru ⟨_, upd_same, r.erase j⟩⟩
    · rw [if_neg hb] at e; cases e
  · cases e
def gInsert : Own → List D → Option (D × Own)
  | .lst xs, [.int i, d] => if xs.length < 16777216 ∧ 0 ≤ i ∧ i < 2 ^ 63 then some (.non, .lst (xs.take i.toNat ++ [d] ++ xs.drop i.toNat)) else none
  | _, _ => none
abbrev rInsertAt : V → List V → Hp → VK → Prop := fun x vs H Q => ∃ (l : Addr) (xs : List V) (i : Int) (y : V), x = .ref l ∧ vs = [.int i, y] ∧ H l = some (.lst xs) ∧ xs.length < sizeLine ∧ 0 ≤ i ∧ i < 2 ^ 63 ∧ Q .non (upd H l (.lst (xs.take i.toNat ++ [y] ++ xs.drop i.toNat)))
theorem RepL.pair {F : Hp} {ρ : List Addr} {vs : List V} {d d' : D} (h : RepL X.K X.mg F ρ vs [d, d']) : ∃ v w, vs = [v, w] ∧ Rep X.K X.mg F ρ v d ∧ Rep X.K X.mg F ρ w d' := by
  cases h with
  | cons h t => obtain ⟨w, rfl, h'⟩ := t.single; exact ⟨_, w, rfl, h, h'⟩
theorem j_insert : MutJ X rInsertAt gInsert := by
  intro Z F ρ μ δ σ H p c xs ds d c' Q S ow rx e q
  unfold gInsert at e
  split at e
  · rename_i ys i d0
    by_cases hb : ys.length < 16777216 ∧ 0 ≤ i ∧ i < 2 ^ 63
    · rw [if_pos hb] at e
      cases e
      obtain ⟨v, w, rfl, hv, hw⟩ := rx.pair
      cases hv
      obtain ⟨vs, hH, r⟩ := ow
      exact ⟨p, vs, i, w, rfl, rfl, hH, by rw [r.len, line_eq]; exact hb.1, hb.2.1, hb.2.2, q _ _ .non ⟨_, upd_same, ((r.take _).app (.cons hw .nil)).app (r.drop _)⟩⟩
    · rw [if_neg hb] at e; cases e
  · cases e
theorem popAt_ {ms : List ME} {oo : Opn} (ho : JO X W o oo) (ha : JA X W [e] ms) (hbase : attributeBase o "pop" X.env (eval o X.env) = eval o X.env := by rfl)
    (hline : (apos.endLine == pos.line) = true := by rfl) (hs : starEach [e] X.env = (false, eval e X.env) :: starEach [] X.env := by rfl)
    (hfew : ((backTo pos (starEach [e] X.env)).all (fun x => !x.1) && (backToKw pos (keywordEach [] X.env)).all (fun x => x.1.isSome)
      && decide ([e].length + ([] : List Keyword).length + (if ([] : List Keyword).isEmpty then 0 else 1) < 30)) = true := by rfl) : JE X W (.Call (.Attribute o "pop" apos) [e] [] pos) (mMut "list" gPopAt oo ms) :=
  je_mut PySem.F.plainAttrs_list PySem.F.slot_list_pop PySem.F.type_list_pop mt_popAt j_popAt ho ha hbase hfew hline hs
theorem pop0_ {oo : Opn} (ho : JO X W o oo) (hbase : attributeBase o "pop" X.env (eval o X.env) = eval o X.env := by rfl) (hline : (apos.endLine == pos.line) = true := by rfl) : JE X W (.Call (.Attribute o "pop" apos) [] [] pos) (mMut "list" gPop0 oo []) :=
  je_mut0 PySem.F.plainAttrs_list PySem.F.slot_list_pop PySem.F.type_list_pop mt_pop j_pop0 ho hbase hline
theorem insert_ {ms : List ME} {oo : Opn} (ho : JO X W o oo) (ha : JA X W [a, b] ms) (hbase : attributeBase o "insert" X.env (eval o X.env) = eval o X.env := by rfl)
    (hline : (apos.endLine == pos.line) = true := by rfl) (hs : starEach [a, b] X.env = (false, eval a X.env) :: starEach [b] X.env := by rfl) (hpl : (backTo pos (starEach [b] X.env)).any (·.1) = false := by rfl)
    (hfew : ((backTo pos (starEach [a, b] X.env)).all (fun x => !x.1) && (backToKw pos (keywordEach [] X.env)).all (fun x => x.1.isSome)
      && decide ([a, b].length + ([] : List Keyword).length + (if ([] : List Keyword).isEmpty then 0 else 1) < 30)) = true := by rfl) : JE X W (.Call (.Attribute o "insert" apos) [a, b] [] pos) (mMut "list" gInsert oo ms) :=
  je_mut PySem.F.plainAttrs_list PySem.F.slot_list_insert PySem.F.type_list_insert mt_insert j_insert ho ha hbase hfew hline hs hpl
/-- repr of data -/
abbrev rReprD (K : PySem.W.Frag) : List V → Hp → VK → Prop := fun xs H Q => ∃ x d, xs = [x] ∧ Dp K H x d ∧ PyData.showable d = true ∧ PyData.hasDict d = false ∧ d.depth ≤ 64 ∧ (PyData.shown d).length ≤ sizeLine ∧ Q (.str (PyData.shown d)) H
theorem o_repr (hg : X.A.guards = some []) (hu : X.A.units + 70 < cLine) : CallR X (.builtin "repr") (rReprD X.K) := by
  intro pins s σ H xs us Q I rv h
  obtain ⟨x, d, rfl, hd, hs, hn, hdp, hz, q⟩ := h
  obtain ⟨u, rfl, ru⟩ : ∃ u, us = [u] ∧ RelV x u := by
    cases rv with
    | cons r t => cases t; exact ⟨_, rfl, r⟩
  obtain ⟨as, rd⟩ := Dp.reads I d x u hd ru
  have fin : ∀ a, u = .ref a → wpAny (model X.prog X.w) X.A (call (.builtin "repr") [u]) (EP X pins σ Q) X.xe s := by
    intro a ea
    subst ea
    exact repr_of_reads' rd hs (PyData.noDict_hsm hn) hg (by omega) (fun _ _ e => e) (fun h' t tk kk => ⟨.str (PyData.shown d), H, I.kept (t' := tk) kk, ⟨t, rfl⟩, q⟩) hz
  cases hd with
  | non => cases ru; exact PySem.P.repr_of_none ⟨.str _, H, I.tok _, ⟨_, rfl⟩, q⟩
  | bl b => cases ru; exact PySem.P.repr_of_bool ⟨.str _, H, I.tok _, ⟨_, by cases b <;> rfl⟩, q⟩
  | int i =>
    obtain ⟨t, rfl⟩ := ru
    exact PySem.P.repr_of_int (of_decide_eq_true hs) ⟨.str _, H, I.tok _, ⟨_, rfl⟩, q⟩
  | str z =>
    obtain ⟨t, rfl⟩ := ru
    exact PySem.P.repr_of_str ⟨.str _, H, I.tok _, ⟨_, rfl⟩, q⟩ hz
  | lst hq ha => cases ru; exact fin _ rfl
  | tup hq ha => cases ru; exact fin _ rfl
def gRepr : List D → Option Slot := fun ds => match ds with
  | [d] => match D.py d with
    | some q => if (PyData.showable q && (!PyData.hasDict q && (decide (q.depth ≤ 64) && decide ((PyData.shown q).length ≤ 16777216)))) = true then some (.fr (.str (PyData.shown q).cps.toList)) else none
    | none => none
  | _ => none
theorem j_repr : RLJ X (rReprD X.K) gRepr :=
  rl1_flat (g := fun d => match D.py d with
    | some q => if (PyData.showable q && (!PyData.hasDict q && (decide (q.depth ≤ 64) && decide ((PyData.shown q).length ≤ 16777216)))) = true then some (.fr (.str (PyData.shown q).cps.toList)) else none
    | none => none) fun Z F ρ μ δ σ H x dx s Q S b e => by
    cases ep : D.py dx with
    | none => simp only [ep] at e; cases e
    | some q =>
      simp only [ep] at e
      split at e
      · rename_i hc
        simp only [Bool.and_eq_true, Bool.not_eq_true', decide_eq_true_eq] at hc
        cases e
        exact ⟨.str (PyData.shown q), fun qq => ⟨x, q, rfl, b.dp S ep, hc.1, hc.2.1, hc.2.2.1, by rw [line_eq]; exact hc.2.2.2, qq⟩, _, rfl, by
          have := @Rep.str X.K X.mg F ρ (PyData.shown q).cps.toList
          rwa [toS_of] at this⟩
      · cases e
theorem Cs.hg (C : Cs X W k N sc) : X.A.guards = some [] := C.rm.g
theorem Cs.hu70 (C : Cs X W k N sc) : X.A.units + 70 < cLine := by have := C.rm.r.un; omega
end
end FL

/-! Part R: sorted of rows that begin with different numbers. -/
namespace FL
open PySem PySem.Spec PyProof.Rows L2

section
variable {prog : Program} {w : World} {A : Around} {E : Value → Shared → Prop} {s : Shared}
/-- a tuple that begins with the number i -/
def RowAt (h : Heap) (v : Value) (i : Int) : Prop := ∃ (p : Addr) (ob : Obj) (xs : List Value) (n : Nat) (t : Tok), v = .ref p ∧ h.get? p = some ob ∧ ob.cls = .type "tuple" ∧ ob.data = .seq (Value.int i t :: xs).toArray n
theorem RowAt.stay {h h' : Heap} {v : Value} {i : Int} (r : RowAt h v i) (k : ∀ p ob, h.get? p = some ob → ob.cls = .type "tuple" → h'.get? p = some ob) : RowAt h' v i :=
  let ⟨p, ob, xs, n, t, e, ho, hc, hd⟩ := r
  ⟨p, ob, xs, n, t, e, k p ob ho hc, hc, hd⟩
theorem lex_self {b fin : Bool} {Q : Bool → Shared → Prop} (hq : Q fin s) : ∀ (l : List Value) (i : Nat), PySem.W.KatLex prog w A b fin Q (l.zip l) i s
  | [], _ => PySem.W.kat_nil hq
  | v :: l, i => PySem.W.kat_cons (SeqAt.EqAt.same v prog w (fun _ _ => False) _ (PySem.W.kat_yes (lex_self hq l (i + 1))))
theorem row_less {key : Value → Int} {vs : List Value} (hr : ∀ v ∈ vs, RowAt s.heap v (key v)) (hi : ∀ v ∈ vs, ∀ u ∈ vs, key v = key u → v = u) :
    SrtO.Cmp prog w A s (tuples' true) (fun p => p.1 ∈ vs) (SrtO.lt2 fun v u => decide (key v < key u)) := by
  intro p q hp hq
  show wpAny (model prog w) A (keyLt' (tuples' true) p.1 q.1) (fun r s' => s' = s ∧ r = decide (key p.1 < key q.1)) (fun _ _ => False) s
  by_cases hk : key p.1 = key q.1
  · have same := hi _ hp _ hq hk
    rw [← same]
    obtain ⟨a, ob, xs, n, t, e, ho, hc, hd⟩ := hr _ hp
    rw [e]
    refine PySem.W.kat_lt ho hd ho hd (lex_self ⟨rfl, ?_⟩ _ _)
    rw [decide_eq_false (Nat.lt_irrefl _), decide_eq_false (Int.lt_irrefl _)]
  · have r1 := hr _ hp
    have r2 := hr _ hq
    generalize key p.1 = i at hk r1 ⊢
    generalize key q.1 = j at hk r2 ⊢
    obtain ⟨a, ob, xs, n, t, e, ho, hc, hd⟩ := r1
    obtain ⟨a2, ob2, xs2, n2, t2, e2, ho2, hc2, hd2⟩ := r2
    rw [e, e2]
    refine PySem.W.kat_lt ho hd ho2 hd2 ?_
    show PySem.W.KatLex prog w A true _ _ ((Value.int i t, Value.int j t2) :: xs.zip xs2) 0 s
    refine PySem.W.kat_cons (SeqAt.EqAt.int_int i t j t2 prog w (fun _ _ => False) _ ?_)
    rw [show (i == j) = false by simpa using hk]
    exact PySem.W.kat_no (oneLt_int ⟨rfl, rfl⟩)
theorem heads_of {h : Heap} {key : Value → Int} : ∀ {vs : List Value}, (∀ v ∈ vs, RowAt h v (key v)) → ∃ fs : List Value, PySem.W.KatTups h vs fs ∧ fs.length = vs.length ∧ ∀ f ∈ fs, ∃ i t, f = Value.int i t
  | [], _ => ⟨[], PySem.W.KatTups.nil, rfl, fun f hf => nomatch hf⟩
  | v :: vs, hr => by
    obtain ⟨fs, h1, h2, h3⟩ := heads_of (vs := vs) fun u hu => hr u (List.mem_cons_of_mem _ hu)
    obtain ⟨p, ob, xs, n, t, rfl, ho, hc, hd⟩ := hr v (List.mem_cons_self ..)
    refine ⟨Value.int (key (.ref p)) t :: fs, PySem.W.KatTups.cons ho hc hd (by simp) h1, by simp [h2], fun f hf => ?_⟩
    rcases List.mem_cons.mp hf with e | hf
    · exact ⟨_, _, e⟩
    · exact h3 f hf
theorem rows_sort {a : Addr} {vs : List Value} {key : Value → Int} (hz : 0 < vs.length) (hr : ∀ v ∈ vs, RowAt s.heap v (key v)) (hi : ∀ v ∈ vs, ∀ u ∈ vs, key v = key u → v = u) (ha : ∀ ob, s.heap.get? a = some ob → ob.cls ≠ .type "tuple") :
    SrtO.SortableO prog w A s a vs fun v u => decide (key v < key u) := by
  intro h' kp
  have hr' : ∀ v ∈ vs, RowAt h' v (key v) := fun v hv => (hr v hv).stay fun p ob e c => kp p ob (fun z => ha ob (by rw [← z]; exact e) c) e
  obtain ⟨fs, t1, t2, t3⟩ := heads_of hr'
  refine ⟨tuples' true, fun Q E hq => ?_, row_less hr' hi⟩
  refine PySem.W.kat_kind (T := .type "int") t1 (by omega) (fun f hf => ?_) (by rfl) ?_
  · obtain ⟨i, t, e⟩ := t3 f hf
    rw [e]
    exact PySem.W.Looks.now
  · rw [show (Value.type "int" != Value.type "tuple") = true from by first | decide +kernel | rfl]
    exact hq
theorem key_swo (key : Value → Int) : SrtO.Swo fun v u => decide (key v < key u) := by
  refine ⟨fun x y h => ?_, fun x y z h1 h2 => ?_⟩
  · have := of_decide_eq_true h
    exact decide_eq_false (by omega)
  · have h3 := of_decide_eq_false h1
    have h4 := of_decide_eq_false h2
    exact decide_eq_false (by omega)
theorem sorted_rows {l : Addr} {vs : List Value} {key : Value → Int} {Q : Value → Shared → Prop} (hl : s.heap.IsList l vs.toArray) (hz : vs.length ≤ sizeLine) (hr : ∀ v ∈ vs, RowAt s.heap v (key v)) (hi : ∀ v ∈ vs, ∀ u ∈ vs, key v = key u → v = u)
    (h : ∀ (h' : Heap) (d : Addr) (out : List Value), out.Pairwise (fun v u => key v ≤ key u) → out.Perm vs → (∀ p ob, s.heap.get? p = some ob → h'.get? p = some ob) → s.heap.objs.size ≤ d → (∃ n, h'.get? d = some (seqObj "list" out.toArray n)) → Q (.ref d) { s with heap := h' }) :
    wpAny (model prog w) A (call (.builtin "sorted") [.ref l]) Q E s := by
  refine SrtO.sorted_ord (key_swo key) hl hz (fun _ h₁ a ha kk => ?_) fun out hs hb => ?_
  · rename_i h2
    refine rows_sort (by omega) (fun v hv => (hr v hv).stay fun p ob e _ => (kk p ob e).2) hi fun ob e => ?_
    rw [ha] at e
    cases e
    exact fun c => absurd (Value.type.inj c) (by decide)
  · refine h _ _ out (List.Pairwise.imp (fun {v u} hvu => ?_) hs) hb.perm (fun p ob e => sortedAll_old e) (Nat.le_succ _) (sortedAll_at s.heap vs out.toArray)
    have := of_decide_eq_false hvu
    omega
end
section
variable {X : Cx}
/-- sorted(xs): tuples that begin with different numbers -/
def rSortRows (K : PySem.W.Frag) : List V → Hp → VK → Prop := fun vs H Q => ∃ (a : Addr) (xs : List V) (key : V → Int), vs = [V.ref a] ∧ SqL K H a xs ∧ (∀ x ∈ xs, ∃ t r, x = V.ref t ∧ SqT K H t (.int (key x) :: r)) ∧ (∀ x ∈ xs, ∀ y ∈ xs, key x = key y → x = y) ∧
  ∀ ys p, ys.Pairwise (fun x y => key x ≤ key y) → ys.Perm xs → H p = none → Q (.ref p) (upd H p (.lst ys))
theorem back_pair {key : V → Int} : ∀ {us : List Value}, us.Pairwise (fun v u => key (backV v) ≤ key (backV u)) → (us.map backV).Pairwise (fun x y => key x ≤ key y) := fun h => List.pairwise_map.mpr h
theorem back_inj {u v : Value} (hu : ∃ a, u = Value.ref a) (hv : ∃ a, v = Value.ref a) (h : backV u = backV v) : u = v := by
  obtain ⟨a, rfl⟩ := hu
  obtain ⟨b, rfl⟩ := hv
  have h' : V.ref a = V.ref b := h
  cases h'
  rfl
theorem cr_sortRows : CallR X (.builtin "sorted") (rSortRows X.K) := by
  intro pins s σ H vs us Q I r h
  obtain ⟨a, xs, key, rfl, hs, hx, hi, q⟩ := h
  obtain ⟨its, rv, hl, hz⟩ := I.list hs
  obtain ⟨u, rfl, ru⟩ := vals1 r
  cases ru
  obtain ⟨e1, e2⟩ := refs_back rv fun x m => let ⟨t, _, e, _⟩ := hx x m; ⟨t, e⟩
  have mem : ∀ v ∈ its, backV v ∈ xs := fun v hv => by rw [e1]; exact List.mem_map_of_mem hv
  refine sorted_rows (key := fun u => key (backV u)) hl.isList (by rw [← rv.length]; exact hz) (fun v hv => ?_) (fun v hv u hu e => back_inj (e2 v hv) (e2 u hu) (hi _ (mem v hv) _ (mem u hu) e)) fun h' d out h1 h2 kp hd hn => ?_
  · obtain ⟨t, r, et, ht⟩ := hx _ (mem v hv)
    obtain ⟨p, rfl⟩ := e2 v hv
    have ep : p = t := by
      have et' : V.ref p = V.ref t := et
      cases et'
      rfl
    subst ep
    obtain ⟨its2, r2, ⟨ob, ho, hc, n, hd⟩, _⟩ := I.tuple ht
    cases r2 with
    | @cons _ u0 _ ur r0 rr =>
      obtain ⟨t0, e0⟩ := r0
      subst e0
      exact ⟨p, ob, ur, n, t0, rfl, ho, hc, hd⟩
  · have h3 : ∀ u ∈ out, ∃ a, u = Value.ref a := fun u hu => e2 u (h2.mem_iff.mp hu)
    obtain ⟨n, hn⟩ := hn
    have pm : (out.map backV).Perm xs := by
      rw [e1]
      exact h2.map backV
    refine ⟨.ref d, upd H d (.lst (out.map backV)), I.laid (t' := s.toks) kp hd ⟨?_, out, n, vals_back h3, hn⟩, rfl, q _ d (back_pair h1) pm (I.hok.fresh hd)⟩
    rw [pm.length_eq]
    exact hz
end
end FL

/-! Part T: enumerate of lists and tuples; dicts that are owned. -/
namespace FL
open PySem PySem.Spec PyProof.Rows L2

/-! ### enumerate -/
theorem newcall_en1 {v : Value} {o : Obj} {G : Heap → Prop} (B : Begins v o G) :
    Meets (Builtin.«enumerate.__new__» ⟨[.type "enumerate", v], []⟩) (fun _ R s => G s.heap ∧
      R (.ok (.ret (.ref (s.heap.push o).objs.size))) { s with heap := (s.heap.push o).push { cls := .type "enumerate", data := .fields #[.none, .bool false, .ref s.heap.objs.size, rawInt 0, .none, .none] } }) :=
  .of_wp fun prog w A R s hR => by
    obtain ⟨hp, gs, dr, tk, os⟩ := s
    obtain ⟨g1, hR⟩ := hR
    have sb := sub_enumerate
    have it1 : ∀ {A' : Around} {E : Value → Shared → Prop} {Q : Value → Shared → Prop}, Q (.ref hp.objs.size) ⟨hp.push o, gs, dr, tk, os⟩ → wpAny (model prog w) A' (pyIter v) Q E ⟨hp, gs, dr, tk, os⟩ :=
      fun z => B.iter prog w _ _ ⟨hp, gs, dr, tk, os⟩ _ g1 z
    wp_walk using it1
    refine wpAny_stack_any fun stk => wpAny_pure ?_
    split
    · rename_i cl _ _ _ _ _
      cases (cl == Value.type "enumerate") <;>
      · wp_walk using it1
        exact ⟨_, rfl, hR⟩
    · wp_walk using it1
      exact ⟨_, rfl, hR⟩
section
variable {prog : Program} {w : World} {A : Around} {E : Value → Shared → Prop} {s : Shared}
theorem call_en1 {v : Value} {o : Obj} {G : Heap → Prop} {Q : Value → Shared → Prop} (B : Begins v o G) (g1 : G s.heap)
    (h : ∀ h', IsEnum h' (s.heap.objs.size + 1) s.heap.objs.size 0 .none → h'.get? s.heap.objs.size = some o → (∀ p ob, s.heap.get? p = some ob → h'.get? p = some ob) → Q (.ref (s.heap.objs.size + 1)) { s with heap := h' }) :
    wpAny (model prog w) A (call (.type "enumerate") [v]) Q E s := by
  refine callType_new F.called_enumerate (by decide) (F.typeCall_enumerate_1 _) (F.newCall_enumerate_1 _) (fun ob => F.args_object_init_2 ob _) F.entry_enumerate_new (newcall_en1 B) ⟨g1, ?_⟩
  have sz : (s.heap.push o).objs.size = s.heap.objs.size + 1 := Heap.size_push ..
  have en : IsEnum ((s.heap.push o).push { cls := .type "enumerate", data := .fields #[.none, .bool false, .ref s.heap.objs.size, rawInt 0, .none, .none] }) (s.heap.objs.size + 1) s.heap.objs.size 0 .none := by
    have z := Heap.get?_push_size (s.heap.push o) (o := { cls := .type "enumerate", data := .fields #[.none, .bool false, .ref s.heap.objs.size, rawInt 0, .none, .none] }) rfl
    rw [sz] at z
    exact z
  show _ ∧ _
  rw [sz]
  exact ⟨⟨_, en, rfl⟩, h _ en (Heap.get?_push_of_some _ (Heap.get?_push_size _ B.free)) fun p ob e => Heap.get?_push_of_some _ (Heap.get?_push_of_some _ e)⟩
end
theorem en_end {prog : Program} {w : World} {A : Around} {E : Value → Shared → Prop} {s : Shared} {e it a : Addr} {i : Nat} {items : Array Value} {old : Value} {Q : Option Value → Shared → Prop} (hh : A.handled = none)
    (en : IsEnum s.heap e it i old) (ti : s.heap.IsTupleIter it a i) (pt : s.heap.IsTuple a items) (no : items[i]? = none) (hQ : ∀ h', Heap.ExtBut it s.heap h' → Q none { s with heap := h' }) : wpAny (model prog w) A (pyNext (.ref e)) Q E s := by
  have ty : s.TypeIs (.ref e) "enumerate" := ⟨_, en, rfl⟩
  unfold pyNext
  refine wpAny_bind (wpAny_attempt ?_)
  refine wpAny_callSpecial?_slot (name := Str.ofString "__next__") ty F.slot_enumerate_next ?_
  refine wpAny_call_entry F.slot_enumerate_next ty F.entry_enumerate_next ?_ (F.args_enumerate_next_1 _)
  show wpAny _ _ (field (.ref e) 2 >>= _) _ _ s
  refine wpAny_bind (wpAny_field en rfl (x := .ref it) rfl (wpAny_bind ?_))
  refine wpAny_nextOf_tuple_end hh ti pt no fun h' x keep ⟨o, ho, hc⟩ => ?_
  exact wpAny_bind (wpAny_isInstance (T := "StopIteration") (b := true) ⟨o, ho, hc⟩ isSubtype_stop (wpAny_pure (hQ _ keep)))
/-- the tuple at a, each item with its number in a new pair -/
def ItEn (K : PySem.W.Frag) (a : Addr) : It :=
  ⟨fun i H => ∃ (xs : List V) (x : V), SqT K H a xs ∧ xs[i]? = some x, fun i H v H' => ∃ p x, v = .ref p ∧ H p = none ∧ H' = upd H p (.tup [.int (i : Nat), x]) ∧ ∀ xs, SqT K H a xs → xs[i]? = some x, fun i H => ∃ xs : List V, SqT K H a xs ∧ xs.length ≤ i⟩
theorem same_tup {X : Cx} {pins : List (Addr × Obj)} {σ : L2.St} {H : Hp} {s : Shared} {a : Addr} {xs ys : List V} (I : Inv X pins σ H s) (h1 : SqT X.K H a xs) (h2 : SqT X.K H a ys) : xs = ys := I.tuple_inj h1 h2
theorem turn_en {P : Program} {w : World} {K : PySem.W.Frag} {elts : List Expr} {kk : Nat} {tpos : Pos} {a e it : Addr} (nai : a ≠ it) (nea : e ≠ a) :
    Turn P w K (.Tuple elts kk tpos) (ItEn K a) [e, it] e (fun i h => (∃ old, IsEnum h e it ((i : Nat) : Int) old) ∧ h.IsTupleIter it a i ∧ e ≠ it) where
  mem := by simp
  obj := fun i h st b hb => by
    obtain ⟨⟨old, en⟩, ⟨o, ho, _, hd⟩, _⟩ := st
    rcases List.mem_cons.mp hb with z | z
    · subst z
      exact ⟨_, en, fun v q => nomatch q⟩
    · rw [List.mem_singleton.mp z]
      exact ⟨o, ho, fun v q => by rw [hd] at q; cases q⟩
  keep := fun i h h' st k => by
    obtain ⟨⟨old, en⟩, ti, ne⟩ := st
    exact ⟨⟨old, k e (by simp) _ en⟩, ti.at fun o q => k it (by simp) o q, ne⟩
  item := by
    intro X hP hw hK hc i pins s σ H E I hf st hg
    subst hP hw hK
    obtain ⟨⟨old, en⟩, ti, ne⟩ := st
    obtain ⟨xs, x, hq, hx⟩ := hg
    obtain ⟨its, rv, pt, _⟩ := I.tuple hq
    obtain ⟨u, hu, ru⟩ := rv.get hx
    have pt : s.heap.IsTuple a its.toArray := pt
    have lt1 : e < s.heap.objs.size := Heap.lt_size en
    have lt2 : it < s.heap.objs.size := let ⟨_, q, _⟩ := ti; Heap.lt_size q
    have D := Draws.tuple (prog := X.prog) (w := X.w) (A := X.A.in1) (by exact I.ok.hd hc) it a nai its.toArray
    have hi : i < its.toArray.size := by
      have := (List.getElem?_eq_some_iff.mp hu).1
      simpa using this
    refine wpAny_pyNext_enum_itemD D en ⟨ti, pt⟩ hi ne (by simp [ne, nea]) fun y h' tk hy ho st' hT _ hk => ?_
    have ey : y = u := by
      have : its[i]? = some y := by simpa using hy
      rw [hu] at this
      cases this
      rfl
    subst ey
    refine ⟨_, rfl, wpAny_letOwnedTupleGo_enum (s := { s with heap := h', toks := tk + 1 }) ho fun h2 en2 sb => ?_⟩
    have hT2 : h2.get? s.heap.objs.size = some { cls := .type "tuple", data := .seq #[.int i tk, y] } := (sb.2 _ (Nat.ne_of_gt lt1)).trans hT
    have nw : ObjOk X.prog X.w (upd H s.heap.objs.size (.tup [.int (i : Nat), x])) h2 s.heap.objs.size (.tup [.int (i : Nat), x]) :=
      ⟨by show 2 ≤ sizeLine; decide, [.int i tk, y], .cons ⟨_, rfl⟩ (.cons ru .nil), ⟨_, hT2, rfl, _, rfl⟩⟩
    have J := I.turnedNew (t' := tk + 1) (ch := [e, it]) (h' := h2) (fun b ob hb q => (sb.2 b (fun z => hb (by simp [z]))).trans (hk b ob (fun z => hb (by simp [z])) (fun z => hb (by simp [z])) q)) hf (Nat.le_refl _) nw
    refine ⟨.ref s.heap.objs.size, _, J, rfl, ⟨_, x, rfl, I.hok.fresh (Nat.le_refl _), rfl, fun ys hy => by rw [same_tup I hy hq]; exact hx⟩, ⟨⟨y, ?_⟩, st'.1.at fun o q => (sb.2 it (Ne.symm ne)).trans q, ne⟩, fun b hb => ?_⟩
    · rw [show ((i + 1 : Nat) : Int) = (i : Int) + 1 by omega]
      exact en2
    · have hb' : b < s.heap.objs.size := by
        rcases List.mem_cons.mp hb with z | z
        · rw [z]; exact lt1
        · rw [List.mem_singleton.mp z]; exact lt2
      rw [upd_ne (Nat.ne_of_lt hb')]
      exact (hf b hb).1
  done := by
    intro X hP hw hK hc i pins s σ H E I hf st hg
    subst hP hw hK
    obtain ⟨⟨old, en⟩, ti, ne⟩ := st
    obtain ⟨xs, hq, hx⟩ := hg
    obtain ⟨its, rv, pt, _⟩ := I.tuple hq
    have pt : s.heap.IsTuple a its.toArray := pt
    obtain ⟨f0, f1, f2, f3, f4, f5⟩ := hf it (by simp)
    have ln := rv.length
    refine en_end (I.ok.hd hc) en ti pt (by simp; omega) fun h' eb => ⟨rfl, ?_⟩
    exact I.turned (t' := s.toks) (fun p ob hb q => eb p ob hb q) f0 f1 f3 f4 f5
  self := fun A i s Q E st h => let ⟨⟨_, en⟩, _⟩ := st; wpAny_pyIter_enum en h
/-- enumerate(e), a list or a tuple -/
def iEnAny (K : PySem.W.Frag) (te : TE) : TI := fun σ H R => te σ H fun v H1 => (∃ a xs, v = .ref a ∧ SqL K H1 a xs ∧ R (Ite K a) H1) ∨ ∃ a xs, v = .ref a ∧ SqT K H1 a xs ∧ R (ItEn K a) H1
theorem pi_en {X : Cx} {e : Expr} {te : TE} {p pos tpos : Pos} {elts : List Expr} {kk : Nat} (hg : Gl X "enumerate") (hm : X.mg "enumerate" = none) (he : PE X e te) (hs : starEach [e] X.env = [(false, eval e X.env)] := by rfl) :
    PI X (.Tuple elts kk tpos) (.Call (.Name "enumerate" p) [e] [] pos) (iEnAny X.K te) := by
  refine ⟨fun pins s σ H R I h => ?_⟩
  refine Call_ (ld_blt I hg hm boot_enumerate (PyProof.Rows.callWith_type1 (thn ((pa_cons he pa_nil hs).run pos pins s σ H (fun vs H1 => match vs with
    | [v] => (∃ a xs, v = .ref a ∧ SqL X.K H1 a xs ∧ R (Ite X.K a) H1) ∨ ∃ a xs, v = .ref a ∧ SqT X.K H1 a xs ∧ R (ItEn X.K a) H1
    | _ => False) I h) fun us s1 ⟨vs, H1, I1, r1, q⟩ => ?_) hs rfl))
  obtain ⟨v, rfl⟩ : ∃ v, vs = [v] := by
    cases vs with
    | nil => exact q.elim
    | cons v vs =>
      cases vs with
      | nil => exact ⟨v, rfl⟩
      | cons _ _ => exact q.elim
  obtain ⟨u, rfl, ru⟩ := vals1 r1
  have fp : ∀ b ∈ [s1.heap.objs.size + 1, s1.heap.objs.size], FpOk X pins H1 b := fun b hb => by
    have le : s1.heap.objs.size ≤ b := by
      rcases List.mem_cons.mp hb with z | z
      · omega
      · rw [List.mem_singleton.mp z]; exact Nat.le_refl _
    exact I1.fpOk le (I1.hok.fresh le)
  rcases q with ⟨a, xs, rfl, hq, q⟩ | ⟨a, xs, rfl, hq, q⟩
  · cases ru
    obtain ⟨its, rv, pl, _⟩ := I1.list hq
    refine call_enumerate_list pl.isList fun h' en li _ kp => wpAny_pyIter_enum en ?_
    exact ⟨s1.heap.objs.size + 1, [s1.heap.objs.size + 1, s1.heap.objs.size], _, _, H1, rfl, I1.kept (t' := s1.toks) kp, turn_enum a (s1.heap.objs.size + 1) s1.heap.objs.size, ⟨⟨.none, en⟩, li, Nat.succ_ne_self _⟩, fp, q⟩
  · cases ru
    obtain ⟨its, rv, pt, _⟩ := I1.tuple hq
    have pt : s1.heap.IsTuple a its.toArray := pt
    have la : a < s1.heap.objs.size := let ⟨_, z, _⟩ := pt; Heap.lt_size z
    refine call_en1 (begins_tuple a its.toArray) pt fun h' en it kp => wpAny_pyIter_enum en ?_
    exact ⟨s1.heap.objs.size + 1, [s1.heap.objs.size + 1, s1.heap.objs.size], _, _, H1, rfl, I1.kept (t' := s1.toks) kp, turn_en (Nat.ne_of_lt la) (Nat.ne_of_gt (Nat.lt_succ_of_lt la)), ⟨⟨.none, en⟩, ⟨_, it, rfl, rfl⟩, Nat.succ_ne_self _⟩, fp, q⟩
section
variable {X : Cx} {W : WX}
def enD (ds : List D) : List D := ds.zipIdx.map fun p => .tup [.int (p.2 : Nat), p.1]
theorem enD_at {ds : List D} {i : Nat} {d : D} (h : (enD ds)[i]? = some d) : ∃ x, ds[i]? = some x ∧ d = .tup [.int (i : Nat), x] := by
  unfold enD at h
  rw [List.getElem?_map, List.getElem?_zipIdx] at h
  cases e : ds[i]? with
  | none => rw [e] at h; cases h
  | some x =>
    rw [e] at h
    cases h
    exact ⟨x, rfl, by simp⟩
theorem enD_len (ds : List D) : (enD ds).length = ds.length := by simp [enD]
theorem new_pair {Z F H : Hp} {ρ : List Addr} {μ : Mem} {δ : Loc} {σ : L2.St} {p : Addr} {a b : V} {da db : D} (S : Sim X.K X.mg Z F ρ μ δ σ H) (hp : H p = none) (ra : Rep X.K X.mg F ρ a da) (rb : Rep X.K X.mg F ρ b db) :
    ∃ F2, Le Z F F2 ∧ Sim X.K X.mg Z F2 ρ μ δ σ (upd H p (.tup [a, b])) ∧ Rep X.K X.mg F2 ρ (.ref p) (.tup [da, db]) := by
  obtain ⟨F2, l, S2, r⟩ := vr_newT S hp (.cons ra (.cons rb .nil))
  exact ⟨F2, l, S2, r.r⟩
theorem itr_enL {F : Hp} {ρ : List Addr} {p : Addr} {vs : List V} {ds : List D} (hq : ∀ Z' F' ρ' μ δ σ H, (∀ p o, F p = some o → F' p = some o) → Sim X.K X.mg Z' F' ρ' μ δ σ H → SqL X.K H p vs) (r : RepL X.K X.mg F ρ vs ds) : ItR X F ρ (Ite X.K p) (enD ds) := by
  intro Z' F' ρ' μ δ σ H i to tr S
  have q := hq Z' F' ρ' μ δ σ H to S
  refine ⟨fun hl => ⟨vs, q, by rw [r.len, ← enD_len]; exact hl⟩, fun d hd => ?_⟩
  obtain ⟨x, hx, rfl⟩ := enD_at hd
  obtain ⟨v, hv, rv⟩ := r.get hx
  refine ⟨⟨vs, v, q, hv⟩, fun y H' ⟨T, z, ey, hT, eH, hz⟩ => ?_⟩
  subst ey
  subst eH
  have ez := hz vs q
  rw [hv] at ez
  cases ez
  exact new_pair S hT .int (rv.up to tr)
theorem itr_enT {F : Hp} {ρ : List Addr} {p : Addr} {vs : List V} {ds : List D} (hq : ∀ Z' F' ρ' μ δ σ H, (∀ p o, F p = some o → F' p = some o) → Sim X.K X.mg Z' F' ρ' μ δ σ H → SqT X.K H p vs) (r : RepL X.K X.mg F ρ vs ds) : ItR X F ρ (ItEn X.K p) (enD ds) := by
  intro Z' F' ρ' μ δ σ H i to tr S
  have q := hq Z' F' ρ' μ δ σ H to S
  refine ⟨fun hl => ⟨vs, q, by rw [r.len, ← enD_len]; exact hl⟩, fun d hd => ?_⟩
  obtain ⟨x, hx, rfl⟩ := enD_at hd
  obtain ⟨v, hv, rv⟩ := r.get hx
  refine ⟨⟨vs, v, q, hv⟩, fun y H' ⟨T, z, ey, hT, eH, hz⟩ => ?_⟩
  subst ey
  subst eH
  have ez := hz vs q
  rw [hv] at ez
  cases ez
  exact new_pair S hT .int (rv.up to tr)
def enA : D → Option (List D)
  | .lst xs => some (enD xs)
  | .tup xs => some (enD xs)
  | _ => none
def mEnum (m : ME) : MM (List D) := fun δ μ => (m δ μ).bind fun s δ1 μ1 => match enA s.d with
  | some ds => .ok ds δ1 μ1
  | none => .bad
theorem ji_enum {elts : List Expr} {kk : Nat} {tpos p pos : Pos} {e : Expr} {m : ME} (hg : Gl X "enumerate") (hm : X.mg "enumerate" = none) (he : JE X W e m) (hs : starEach [e] X.env = [(false, eval e X.env)] := by rfl) : JI X W (.Tuple elts kk tpos) (.Call (.Name "enumerate" p) [e] [] pos) (mEnum m) := by
  refine (pi_en hg hm he.locked hs).imp fun σ H R ⟨Z, F, ρ, μ, δ, S, q⟩ => ⟨Z, F, ρ, μ, δ, S, (FinE.bind q).imp fun s δ1 μ1 H1 F1 ρ1 l lr S1 ⟨_, _, _, p⟩ v r => ?_⟩
  cases ea : enA s.d with
  | none => simp only [ea] at p; exact p.elim
  | some ds =>
    simp only [ea] at p
    have p' := p H1 F1 ρ1 .refl .refl S1
    unfold enA at ea
    generalize s.d = d at ea r
    cases d <;> first | (cases ea; done) | skip
    · cases ea
      cases r with
      | @lst a vs _ h r =>
        exact .inl ⟨a, vs, rfl, .of (S1.frozen h), p' _ (itr_enL (fun Z' F' ρ' μ δ σ H to S => .of (S.frozen (to _ _ h))) r)⟩
    · cases ea
      cases r with
      | @tup a vs _ h r =>
        exact .inr ⟨a, vs, rfl, h.elim (fun h => .inl (S1.rd h)) .inr, p' _ (itr_enT (fun Z' F' ρ' μ δ σ H to S => h.elim (fun h => .inl (S.rd (Rd.up to h))) .inr) r)⟩
end
end FL

/-! Part U: dicts that are owned, list.index, sorted. -/
namespace FL
open PySem PySem.Spec PyProof.Rows L2

def DK.d : DK → D
  | .i n => .int n
  | .s x => .str x
def dkey : D → Option DK
  | .int n => some (.i n)
  | .str x => some (.s x)
  | _ => none
def getA (kds : List (DK × D)) (k : DK) : Option D := (kds.find? fun p => decide (p.1 = k)).map (·.2)
def putA (kds : List (DK × D)) (k : DK) (d : D) : List (DK × D) := if (kds.any fun p => decide (p.1 = k)) = true then kds.map (fun p => if p.1 = k then (p.1, d) else p) else kds ++ [(k, d)]
def dropA (kds : List (DK × D)) (k : DK) : List (DK × D) := kds.filter fun p => decide (p.1 ≠ k)
abbrev dctO (kds : List (DK × D)) : Own := .dct (kds.map (·.1)) (kds.map (·.2))
theorem DK.key_inj {k j : DK} (h : k.key = j.key) : k = j := by
  cases k <;> cases j <;> first | (cases h; done) | skip
  · have h' : (Sum.inl _ : Key) = Sum.inl _ := h
    cases h'
    rfl
  · have h' : (Sum.inr _ : Key) = Sum.inr _ := h
    rw [toS_inj (Sum.inr.inj h')]
section
variable (K : PySem.W.Frag) (mg : Str → Option Value) (F : Hp) (ρ : List Addr)
inductive KV : List (Key × V) → List (DK × D) → Prop where
  | nil : KV [] []
  | cons {k v d kvs kds} (h : Rep K mg F ρ v d) (t : KV kvs kds) : KV ((DK.key k, v) :: kvs) ((k, d) :: kds)
end
section
variable {K : PySem.W.Frag} {mg : Str → Option Value} {F F' : Hp} {ρ ρ' : List Addr} {H : Hp} {p : Addr}
theorem KV.of : ∀ {ks : List DK} {vs : List V} {ds : List D}, ks.length = vs.length → RepL K mg F ρ vs ds → KV K mg F ρ ((ks.map DK.key).zip vs) (ks.zip ds)
  | [], _, _, h, r => by cases r <;> first | exact .nil | (cases h; done)
  | k :: ks, _, _, h, r => by
    cases r with
    | nil => cases h
    | cons h1 t => exact .cons h1 (KV.of (by simpa using h) t)
theorem KV.back : ∀ {kvs : List (Key × V)} {kds : List (DK × D)}, KV K mg F ρ kvs kds → kvs = ((kds.map (·.1)).map DK.key).zip (kvs.map (·.2)) ∧ RepL K mg F ρ (kvs.map (·.2)) (kds.map (·.2)) ∧ kvs.length = kds.length
  | _, _, .nil => ⟨rfl, .nil, rfl⟩
  | _, _, .cons h t => by
    obtain ⟨a, b, c⟩ := KV.back t
    refine ⟨?_, .cons h b, by rw [List.length_cons, List.length_cons, c]⟩
    simp only [List.map_cons, List.zip_cons_cons]
    rw [← a]
theorem KV.up (l : ∀ p o, F p = some o → F' p = some o) (lr : ∀ (k : Nat) p, ρ[k]? = some p → ρ'[k]? = some p) : ∀ {kvs : List (Key × V)} {kds : List (DK × D)}, KV K mg F ρ kvs kds → KV K mg F' ρ' kvs kds
  | _, _, .nil => .nil
  | _, _, .cons h t => .cons (h.up l lr) (KV.up l lr t)
theorem KV.app : ∀ {a b : List (Key × V)} {c d : List (DK × D)}, KV K mg F ρ a c → KV K mg F ρ b d → KV K mg F ρ (a ++ b) (c ++ d)
  | _, _, _, _, .nil, h => h
  | _, _, _, _, .cons h t, r => .cons h (KV.app t r)
theorem key_dec (k j : DK) : decide (DK.key k = DK.key j) = decide (k = j) := by
  by_cases h : k = j
  · rw [h, decide_eq_true rfl, decide_eq_true rfl]
  · rw [decide_eq_false h, decide_eq_false fun z => h (DK.key_inj z)]
theorem KV.get {k : DK} {d : D} : ∀ {kvs : List (Key × V)} {kds : List (DK × D)}, KV K mg F ρ kvs kds → getA kds k = some d → ∃ v, valV kvs k.key = some v ∧ Rep K mg F ρ v d
  | _, _, .nil, e => by cases e
  | _, _, @KV.cons _ _ _ _ k1 v1 d1 kvs kds h t, e => by
    unfold getA at e
    rw [List.find?_cons] at e
    unfold valV
    rw [List.find?_cons]
    simp only [key_dec]
    by_cases z : k1 = k
    · rw [decide_eq_true z] at e ⊢
      cases e
      exact ⟨v1, rfl, h⟩
    · rw [decide_eq_false z] at e ⊢
      exact KV.get t e
theorem KV.any {k : DK} : ∀ {kvs : List (Key × V)} {kds : List (DK × D)}, KV K mg F ρ kvs kds → (kvs.any fun kv => decide (kv.1 = k.key)) = (kds.any fun p => decide (p.1 = k))
  | _, _, .nil => rfl
  | _, _, .cons h t => by rw [List.any_cons, List.any_cons, KV.any t, key_dec]
theorem KV.repl {k : DK} {v : V} {d : D} (r : Rep K mg F ρ v d) : ∀ {kvs : List (Key × V)} {kds : List (DK × D)}, KV K mg F ρ kvs kds → KV K mg F ρ (kvs.map fun kv => if kv.1 = k.key then (kv.1, v) else kv) (kds.map fun p => if p.1 = k then (p.1, d) else p)
  | _, _, .nil => .nil
  | _, _, @KV.cons _ _ _ _ k1 v1 d1 kvs kds h t => by
    rw [List.map_cons, List.map_cons]
    by_cases z : k1 = k
    · rw [if_pos (show DK.key k1 = DK.key k by rw [z]), if_pos (show k1 = k from z)]
      exact .cons r (KV.repl r t)
    · rw [if_neg (show ¬ DK.key k1 = DK.key k from fun q => z (DK.key_inj q)), if_neg (show ¬ k1 = k from z)]
      exact .cons h (KV.repl r t)
theorem KV.put {k : DK} {v : V} {d : D} (r : Rep K mg F ρ v d) {kvs : List (Key × V)} {kds : List (DK × D)} (h : KV K mg F ρ kvs kds) : KV K mg F ρ (putK kvs k.key v) (putA kds k d) := by
  unfold putK putA
  rw [h.any]
  by_cases z : (kds.any fun p => decide (p.1 = k)) = true
  · rw [if_pos z, if_pos z]
    exact h.repl r
  · rw [if_neg z, if_neg z]
    exact h.app (.cons r .nil)
theorem KV.drop {k : DK} : ∀ {kvs : List (Key × V)} {kds : List (DK × D)}, KV K mg F ρ kvs kds → KV K mg F ρ (dropK kvs k.key) (dropA kds k)
  | _, _, .nil => .nil
  | _, _, @KV.cons _ _ _ _ k1 v1 d1 kvs kds h t => by
    have ih := KV.drop (k := k) t
    unfold dropK dropA at ih ⊢
    by_cases z : k1 = k
    · rw [List.filter_cons_of_neg (by simp [z]), List.filter_cons_of_neg (by simp [z])]
      exact ih
    · rw [List.filter_cons_of_pos (by simpa using fun q => z (DK.key_inj q)), List.filter_cons_of_pos (by simpa using z)]
      exact .cons h ih
theorem own_kv {ks : List DK} {ds : List D} (h : OwnR K mg F ρ H p (.dct ks ds)) : ∃ kvs, H p = some (.dK kvs) ∧ KV K mg F ρ kvs (ks.zip ds) := by
  obtain ⟨vs, e, n, r⟩ := h
  exact ⟨_, e, KV.of n r⟩
theorem kv_own {kvs : List (Key × V)} {kds : List (DK × D)} (h : KV K mg F ρ kvs kds) (e : H p = some (.dK kvs)) : OwnR K mg F ρ H p (dctO kds) := by
  obtain ⟨a, b, c⟩ := h.back
  refine ⟨kvs.map (·.2), by rw [e]; exact congrArg (fun z => some (HO.dK z)) a, by simp [c], b⟩
end
section
variable {X : Cx} {W : WX} {o i e value : Expr} {pos pos' apos cpos : Pos}
theorem key_of {F H : Hp} {ρ : List Addr} {y : V} {d : D} {k : DK} (h : Bor X.K X.mg F ρ H y d) (e : dkey d = some k) : y = kV k.key := by
  cases d <;> first | (cases e; done) | skip
  · cases e
    exact h.int
  · cases e
    exact h.str
theorem key_rep {F : Hp} {ρ : List Addr} {y : V} {d : D} {k : DK} (h : Rep X.K X.mg F ρ y d) (e : dkey d = some k) : y = kV k.key := key_of (H := F) (.fr h) e
/-- d[k] -/
def gGetD : D → D → Option Slot
  | .dct ks ds, y => match dkey y with
    | some k => (getA (ks.zip ds) k).map .fr
    | none => none
  | _, _ => none
abbrev rGetD : R2 := fun x y H Q => ∃ a v, x = .ref a ∧ DGet H a y (some v) ∧ Q v H
theorem j_getD : R2J X rGetD gGetD := by
  intro Z F ρ μ δ σ H x y dx dy s Q S bx bY e q
  unfold gGetD at e
  cases dx <;> first | (cases e; done) | skip
  · rename_i ks ds
    cases ek : dkey dy with
    | none => simp only [ek] at e; cases e
    | some k =>
      simp only [ek] at e
      obtain ⟨d, e1, e2⟩ := Option.map_eq_some_iff.mp e
      subst e2
      obtain ⟨p, vs, rfl, hr, hl, r⟩ := bx.dct S
      obtain ⟨v, g, rv⟩ := (KV.of hl r).get e1
      exact ⟨p, v, rfl, .inl ⟨_, k.key, hr, key_of bY ek, g.symm⟩, q _ H F .refl S ⟨rv, fun o p z => by cases z⟩⟩
theorem je_getD {oa ob : Opn} (hu : X.A.units + 1 < cLine) (ha : JO X W o oa) (hb : JO X W i ob) (hs : NoSl i) : JE X W (.Subscript o i pos) (m2 gGetD oa ob) :=
  (pe_dget hu ha hb hs).imp (m2_read (r := rGetD) j_getD)
/-- d[k] = v -/
def gSetD : Own → D → D → Option Own
  | .dct ks ds, y, d => match dkey y with
    | some k => if (ks.zip ds).length < 16777216 then some (dctO (putA (ks.zip ds) k d)) else none
    | none => none
  | _, _, _ => none
theorem js_setD {oo oi : Opn} {m : ME} (hu : X.A.units + 1 < cLine) (he : JE X W value m) (ho : JO X W o oo) (hi : JO X W i oi) (hs : swapsWith value (some (.Subscript o i pos')) pos.line X.env = pure false := by rfl) : JS X W (.Assign [.Subscript o i pos'] value pos) (mSetI gSetD oo oi m) := by
  refine (ps_dput hu ho hi he.locked hs).imp fun E σ H ⟨Z, F, ρ, μ, δ, S, q⟩ => ⟨Z, F, ρ, μ, δ, S, (FinS.thn q).imp fun s δ1 μ1 H1 F1 ρ1 l1 lr1 S1 ⟨_, p1⟩ v rv => ?_⟩
  refine ⟨Z, F1, ρ1, μ1, δ1, S1, (FinS.thn p1).imp fun r δ2 μ2 H2 F2 ρ2 l2 lr2 S2 ⟨_, p2⟩ x hx => ?_⟩
  refine ⟨Z, F2, ρ2, μ2, δ2, S2, (FinS.thn p2).imp fun ri δ3 μ3 H3 F3 ρ3 l3 lr3 S3 ⟨_, p3⟩ y hy => ?_⟩
  cases e0 : recv δ3 μ3 r with
  | none => simp only [e0] at p3; exact p3.elim
  | some cw =>
    obtain ⟨c, w⟩ := cw
    cases e1 : ri.at δ3 μ3 with
    | none => simp only [e0, e1] at p3; exact p3.elim
    | some di =>
      simp only [e0, e1] at p3
      cases eg : gSetD c di s.d with
      | none => simp only [eg] at p3; exact p3.elim
      | some c' =>
        simp only [eg] at p3
        obtain ⟨pa, rfl, ow, hw⟩ := recv_ok S3 (hx.up l3 lr3) e0
        unfold gSetD at eg
        cases c <;> first | (cases eg; done) | skip
        · rename_i ks ds
          cases ek : dkey di with
          | none => simp only [ek] at eg; cases eg
          | some k =>
            simp only [ek] at eg
            by_cases hz : (ks.zip ds).length < 16777216
            · rw [if_pos hz] at eg
              cases eg
              obtain ⟨kvs, hH, kv⟩ := own_kv ow
              obtain ⟨_, _, hl⟩ := kv.back
              have rv3 := (Rep.up l2.to lr2.to rv).up l3.to lr3.to
              refine ⟨pa, _, rfl, .inl ⟨kvs, k.key, hH, key_of (hy.bor S3 e1) ek, by rw [hl, line_eq]; exact hz, rfl⟩, p3.nx (hw _ _ (kv_own (kv.put rv3) upd_same))⟩
            · rw [if_neg hz] at eg; cases eg
/-- d.pop(k), k there -/
def gPopD : Own → D → Option (D × Own)
  | .dct ks ds, y => match dkey y with
    | some k => (getA (ks.zip ds) k).map fun d => (d, dctO (dropA (ks.zip ds) k))
    | none => none
  | _, _ => none
def mPopD (oo : Opn) (m : ME) : ME := fun δ μ => (oo.ev δ μ).bind fun r δ1 μ1 => match recv δ1 μ1 r with
  | some (.dct _ _, _) => (m δ1 μ1).bind fun s δ2 μ2 => match recv δ2 μ2 r with
    | some (c, w) => match gPopD c s.d with
      | some (d, c') => .ok (.fr d) (w c').1 (w c').2
      | none => .bad
    | none => .bad
  | _ => .bad
theorem je_popD {oo : Opn} {m : ME} (ho : JO X W o oo) (he : JE X W e m) (mm : M1 X o "pop" apos e cpos) : JE X W (.Call (.Attribute o "pop" apos) [e] [] cpos) (mPopD oo m) := by
  refine (pe_dpop1 ho he.locked mm).imp fun σ H Q ⟨Z, F, ρ, μ, δ, S, q⟩ => ⟨Z, F, ρ, μ, δ, S, (FinE.bind q).imp fun ra δ1 μ1 H1 F1 ρ1 l lr S1 ⟨_, _, _, p⟩ x hx => ?_⟩
  cases e0 : recv δ1 μ1 ra with
  | none => simp only [e0] at p; exact p.elim
  | some cw =>
    obtain ⟨c0, w0⟩ := cw
    simp only [e0] at p
    obtain ⟨pa, rfl, ow, _⟩ := recv_ok S1 hx e0
    cases c0 <;> first | exact p.elim | skip
    obtain ⟨kvs0, hH0, _⟩ := own_kv ow
    refine ⟨pa, rfl, .inl ⟨kvs0, .inl hH0⟩, Z, F1, ρ1, μ1, δ1, S1, p.bind.imp fun s δ2 μ2 H2 F2 ρ2 l2 lr2 S2 ⟨_, _, _, p2⟩ y hy => ?_⟩
    cases e1 : recv δ2 μ2 ra with
    | none => simp only [e1] at p2; exact p2.elim
    | some cw =>
      obtain ⟨c, w⟩ := cw
      simp only [e1] at p2
      cases eg : gPopD c s.d with
      | none => simp only [eg] at p2; exact p2.elim
      | some dc =>
        obtain ⟨d, c'⟩ := dc
        simp only [eg] at p2
        obtain ⟨pa', ep, ow2, hw⟩ := recv_ok S2 (hx.up l2 lr2) e1
        cases ep
        unfold gPopD at eg
        cases c <;> first | (cases eg; done) | skip
        · rename_i ks ds
          cases ek : dkey s.d with
          | none => simp only [ek] at eg; cases eg
          | some k =>
            simp only [ek] at eg
            obtain ⟨d1, g1, g2⟩ := Option.map_eq_some_iff.mp eg
            cases g2
            obtain ⟨kvs, hH, kv⟩ := own_kv ow2
            obtain ⟨v, ev, rv⟩ := kv.get g1
            exact ⟨kvs, k.key, v, hH, key_rep hy ek, ev, p2 _ F2 ρ2 .refl .refl (hw _ _ (kv_own kv.drop upd_same)) v ⟨rv, fun o p z => by cases z⟩⟩
/-- xs.index(x), x there -/
def gIndex : D → List D → Option Slot
  | .lst xs, [y] => match D.pys xs, D.py y with
    | some ds, some d => if SeqAt.shaped (.list ds) = true ∧ SeqAt.shaped d = true then (ds.findIdx? fun z => PyData.eqv z d).map fun j => .fr (.int (j : Nat)) else none
    | _, _ => none
  | _, _ => none
theorem j_index : RMJ X (rIndexD X.K) gIndex := by
  intro Z F ρ μ δ σ H x xs dx ds s Q S bx bs e q
  unfold gIndex at e
  split at e
  · rename_i ys y
    cases e1 : D.pys ys with
    | none => simp only [e1] at e; cases e
    | some ps =>
      cases e2 : D.py y with
      | none => simp only [e1, e2] at e; cases e
      | some pd =>
        simp only [e1, e2] at e
        by_cases hc : SeqAt.shaped (.list ps) = true ∧ SeqAt.shaped pd = true
        · rw [if_pos hc] at e
          obtain ⟨j, f1, f2⟩ := Option.map_eq_some_iff.mp e
          subst f2
          obtain ⟨v, rfl, bv⟩ := bs.one
          obtain ⟨hj, g1, g2⟩ := List.findIdx?_eq_some_iff_getElem.mp f1
          have dl : Dp X.K H x (.list ps) := Bor.dp S bx (by simp only [D.py, e1]; rfl)
          obtain ⟨a, vs, rfl, _⟩ := bx.lst S
          exact ⟨a, v, pd, ps, j, ps[j], rfl, rfl, dl, Bor.dp S bv e2, hc.1, hc.2, List.getElem?_eq_getElem hj, g1, fun m z' hm hz => by
            obtain ⟨h1, h2⟩ := List.getElem?_eq_some_iff.mp hz
            have := g2 m hm
            rw [h2] at this
            simpa using this, q _ H F .refl S ⟨.int, fun o p z => by cases z⟩⟩
        · rw [if_neg hc] at e; cases e
  · cases e
end
end FL

/-! Part X: sorted rows by values, items(), dict comprehensions. -/
namespace FL
open PySem PySem.Spec PyProof.Rows L2

section
variable {X : Cx} {W : WX} {e : Expr} {pos : Pos}
theorem perm_back {α β : Type} {f : α → β} : ∀ {ys : List β} {l : List α}, ys.Perm (l.map f) → ∃ l' : List α, List.Perm l' l ∧ List.map f l' = ys := by
  have key : ∀ {ys zs : List β}, ys.Perm zs → ∀ {l : List α}, zs = l.map f → ∃ l' : List α, List.Perm l' l ∧ List.map f l' = ys := by
    intro ys zs h
    induction h with
    | nil =>
      intro l e
      cases l with
      | nil => exact ⟨[], .refl _, rfl⟩
      | cons _ _ => cases e
    | cons x _ ih =>
      intro l e
      cases l with
      | nil => cases e
      | cons a l =>
        rw [List.map_cons] at e
        injection e with e1 e2
        obtain ⟨l', p, q⟩ := ih e2
        exact ⟨a :: l', p.cons a, by rw [List.map_cons, q, e1]⟩
    | swap x y r =>
      intro l e
      cases l with
      | nil => cases e
      | cons a l =>
        cases l with
        | nil => cases e
        | cons b l =>
          rw [List.map_cons, List.map_cons] at e
          injection e with e1 e2
          injection e2 with e2 e3
          exact ⟨b :: a :: l, List.Perm.swap a b l, by rw [List.map_cons, List.map_cons, e1, e2, e3]⟩
    | trans _ _ ih1 ih2 =>
      intro l e
      obtain ⟨l1, p1, q1⟩ := ih2 e
      obtain ⟨l2, p2, q2⟩ := ih1 q1.symm
      exact ⟨l2, p2.trans p1, q2⟩
  intro ys l h
  exact key h rfl
/-- sorted(xs), each row with its first number -/
def rSortZ (K : PySem.W.Frag) : List V → Hp → VK → Prop := fun vs H Q => ∃ (a : Addr) (zs : List (V × Int)), vs = [V.ref a] ∧ SqL K H a (zs.map (·.1)) ∧ (∀ z ∈ zs, ∃ t r, z.1 = V.ref t ∧ SqT K H t (.int z.2 :: r)) ∧ (zs.map (·.2)).Nodup ∧
  ∀ (ys : List (V × Int)) (p : Addr), ys.Perm zs → ys.Pairwise (fun x y => x.2 ≤ y.2) → H p = none → Q (.ref p) (upd H p (.lst (ys.map (·.1))))
theorem cr_sortZ : CallR X (.builtin "sorted") (rSortZ X.K) := by
  intro pins s σ H vs us Q I r h
  obtain ⟨a, zs, rfl, hs, hz, hn, q⟩ := h
  have uniq : ∀ z ∈ zs, ∀ y ∈ zs, z.1 = y.1 → z.2 = y.2 := fun z h1 y h2 e => by
    obtain ⟨t, r1, e1, q1⟩ := hz z h1
    obtain ⟨t2, r2, e2, q2⟩ := hz y h2
    rw [e1, e2] at e
    cases e
    have := I.tuple_inj q1 q2
    injection this with h3 _
    exact V.int.inj h3
  obtain ⟨key, hk⟩ : ∃ key : V → Int, ∀ z ∈ zs, key z.1 = z.2 := by
    classical
    refine ⟨fun x => if h : ∃ z ∈ zs, z.1 = x then (Classical.choose h).2 else 0, fun z h1 => ?_⟩
    have ex : ∃ y ∈ zs, y.1 = z.1 := ⟨z, h1, rfl⟩
    show (if h : ∃ y ∈ zs, y.1 = z.1 then (Classical.choose h).2 else 0) = z.2
    rw [dif_pos ex]
    obtain ⟨h2, h3⟩ := Classical.choose_spec ex
    exact uniq _ h2 z h1 h3
  have back : ∀ y ∈ zs.map (·.1), (y, key y) ∈ zs := fun y hy => by
    obtain ⟨z, h1, h2⟩ := List.mem_map.mp hy
    rw [← h2, hk z h1]
    exact h1
  have pairs : (zs.map (·.1)).map (fun y => (y, key y)) = zs := by
    rw [List.map_map]
    refine (List.map_congr_left fun z h1 => ?_).trans (List.map_id _)
    show (z.1, key z.1) = z
    rw [hk z h1]
  have inj2 : ∀ z ∈ zs, ∀ y ∈ zs, z.2 = y.2 → z = y := by
    have gen : ∀ l : List (V × Int), (l.map (·.2)).Nodup → ∀ z ∈ l, ∀ y ∈ l, z.2 = y.2 → z = y := by
      intro l
      induction l with
      | nil => intro _ z h; cases h
      | cons w l ih =>
        intro hn z h1 y h2 e
        rw [List.map_cons, List.nodup_cons] at hn
        rcases List.mem_cons.mp h1 with z1 | g1 <;> rcases List.mem_cons.mp h2 with z2 | g2
        · rw [z1, z2]
        · exact absurd (List.mem_map.mpr ⟨y, g2, by rw [← e, z1]⟩) hn.1
        · exact absurd (List.mem_map.mpr ⟨z, g1, by rw [e, z2]⟩) hn.1
        · exact ih hn.2 z g1 y g2 e
    exact gen zs hn
  refine cr_sortRows pins s σ H [V.ref a] us Q I r ⟨a, zs.map (·.1), key, rfl, hs, fun x hx => ?_, fun x hx y hy he => ?_, fun ys p h1 h2 h3 => ?_⟩
  · obtain ⟨t, r, e1, e2⟩ := hz _ (back x hx)
    exact ⟨t, r, e1, e2⟩
  · have := inj2 _ (back x hx) _ (back y hy) he
    exact congrArg (·.1) this
  · have := q (ys.map fun y => (y, key y)) p (by
      have := h2.map fun y => (y, key y)
      rw [pairs] at this
      exact this) (List.pairwise_map.mpr h1) h3
    rw [List.map_map] at this
    rwa [show ys.map ((·.1) ∘ fun y => (y, key y)) = ys from List.map_id ys] at this
def keyD : D → Int
  | .tup (.int k :: _) => k
  | _ => 0
def rowB : D → Bool
  | .tup (.int _ :: _) => true
  | _ => false
def leD (a b : D) : Bool := decide (keyD a ≤ keyD b)
def gSorted : List D → Option Slot
  | [.lst xs] => if (xs.all rowB && decide (xs.map keyD).Nodup) = true then some (.own (.lst (xs.mergeSort leD))) else none
  | _ => none
theorem rep_zip {F : Hp} {ρ : List Addr} : ∀ {vs : List V} {ds : List D}, RepL X.K X.mg F ρ vs ds → ∀ p ∈ vs.zip ds, Rep X.K X.mg F ρ p.1 p.2
  | _, _, .nil, p, h => by cases h
  | _, _, .cons h t, p, hp => by
    rcases List.mem_cons.mp hp with rfl | hp
    · exact h
    · exact rep_zip t p hp
theorem rep_unzip {F : Hp} {ρ : List Addr} : ∀ {l : List (V × D)}, (∀ p ∈ l, Rep X.K X.mg F ρ p.1 p.2) → RepL X.K X.mg F ρ (l.map (·.1)) (l.map (·.2))
  | [], _ => .nil
  | p :: l, h => .cons (h p (List.mem_cons_self ..)) (rep_unzip fun q hq => h q (List.mem_cons_of_mem _ hq))
theorem sort_uniq {xs ys : List D} (hn : (xs.map keyD).Nodup) (hp : ys.Perm xs) (h : ys.Pairwise fun a b => keyD a ≤ keyD b) : ys = xs.mergeSort leD := by
  have inj : ∀ a ∈ xs, ∀ b ∈ xs, keyD a = keyD b → a = b := by
    have gen : ∀ l : List D, (l.map keyD).Nodup → ∀ z ∈ l, ∀ y ∈ l, keyD z = keyD y → z = y := by
      intro l
      induction l with
      | nil => intro _ z h; cases h
      | cons w l ih =>
        intro hn z h1 y h2 e
        rw [List.map_cons, List.nodup_cons] at hn
        rcases List.mem_cons.mp h1 with z1 | g1 <;> rcases List.mem_cons.mp h2 with z2 | g2
        · rw [z1, z2]
        · exact absurd (List.mem_map.mpr ⟨y, g2, by rw [← e, z1]⟩) hn.1
        · exact absurd (List.mem_map.mpr ⟨z, g1, by rw [e, z2]⟩) hn.1
        · exact ih hn.2 z g1 y g2 e
    exact gen xs hn
  have h2 : (xs.mergeSort leD).Pairwise fun a b => keyD a ≤ keyD b := by
    have := List.pairwise_mergeSort (le := leD) (fun a b c h1 h2 => by
      have h1 := of_decide_eq_true h1
      have h2 := of_decide_eq_true h2
      exact decide_eq_true (by omega)) (fun a b => by
      unfold leD
      by_cases h : keyD a ≤ keyD b
      · simp [h]
      · have : keyD b ≤ keyD a := by omega
        simp [this]) xs
    exact this.imp fun {a b} h => of_decide_eq_true h
  have pm : ys.Perm (xs.mergeSort leD) := hp.trans (List.mergeSort_perm xs leD).symm
  exact pm.eq_of_pairwise (le := fun a b => keyD a ≤ keyD b) (fun a b ha hb h1 h2 => inj a (hp.mem_iff.mp ha) b ((List.mergeSort_perm xs leD).mem_iff.mp hb) (by omega)) h h2
theorem j_sorted : RLJ X (rSortZ X.K) gSorted := by
  intro Z F ρ μ δ σ H xs ds s Q S bs e q
  unfold gSorted at e
  split at e
  · rename_i ys
    by_cases hc : (ys.all rowB && decide (ys.map keyD).Nodup) = true
    · rw [if_pos hc] at e
      cases e
      obtain ⟨c1, c2⟩ := Bool.and_eq_true_iff.mp hc
      have hn := of_decide_eq_true c2
      obtain ⟨v, rfl, bv⟩ := bs.one
      obtain ⟨a, vs, rfl, hH, rl⟩ := bv.lst S
      have hl := rl.len
      have zf : ((vs.zip ys).map fun p => (p.1, keyD p.2)).map (·.1) = vs := by
        rw [List.map_map]
        show (vs.zip ys).map Prod.fst = vs
        exact List.map_fst_zip (by omega)
      have zs : ((vs.zip ys).map fun p => (p.1, keyD p.2)).map (·.2) = ys.map keyD := by
        rw [List.map_map]
        show (vs.zip ys).map (keyD ∘ Prod.snd) = _
        rw [← List.map_map, List.map_snd_zip (by omega)]
      refine ⟨a, (vs.zip ys).map fun p => (p.1, keyD p.2), rfl, by rw [zf]; exact .of hH, fun z hz => ?_, by rw [zs]; exact hn, fun zz p h1 h2 h3 => ?_⟩
      · obtain ⟨w, hw, rfl⟩ := List.mem_map.mp hz
        have rw1 := rep_zip rl w hw
        have hb : rowB w.2 = true := List.all_eq_true.mp c1 _ (List.of_mem_zip hw).2
        obtain ⟨x, d⟩ := w
        simp only at rw1 hb ⊢
        unfold rowB at hb
        split at hb
        · cases rw1 with
          | @tup t us _ ht rt =>
            cases rt with
            | cons hi tl =>
              cases hi
              exact ⟨t, _, rfl, ht.elim (fun h => .inl (S.rd h)) .inr⟩
        · cases hb
      · obtain ⟨l', p1, p2⟩ := perm_back h1
        have r' := rep_unzip (X := X) (F := F) (ρ := ρ) (l := l') fun w hw => rep_zip rl w (p1.mem_iff.mp hw)
        have ez : zz.map (·.1) = l'.map (·.1) := by rw [← p2, List.map_map]; rfl
        have ed : l'.map (·.2) = ys.mergeSort leD := by
          refine sort_uniq hn ?_ ?_
          · have := p1.map (·.2)
            rwa [show (vs.zip ys).map (·.2) = ys from List.map_snd_zip (by omega)] at this
          · rw [← p2] at h2
            have h2' := List.pairwise_map.mp h2
            exact List.pairwise_map.mpr (h2'.imp fun {x y} h => h)
        rw [ed] at r'
        rw [ez]
        obtain ⟨S2, vr⟩ := vr_newL S h3 r'
        exact q _ _ F .refl S2 vr
    · rw [if_neg hc] at e; cases e
  · cases e
/-! ### items() of an owned dict: it is locked -/
def tLockD (td : TE) : TE := fun σ H Q => td σ H fun x H1 => ∃ d kvs, x = .ref d ∧ H1 d = some (.dK kvs) ∧ ∀ o H2, H2 d = some (.frz o (.dK kvs)) → (∀ b, b ≠ d → H2 b = H1 b) → Q x H2
theorem pe_lockD {td : TE} (he : PE X e td) : PE X e (tLockD td) := by
  refine ⟨fun pins s σ H Q I h => ?_⟩
  refine wpAny_mono (he.run pins s σ H _ I h) (fun u s1 ⟨x, H1, I1, r, d, kvs, ex, hd, q⟩ => ?_) fun _ _ z => z
  obtain ⟨od, J⟩ := I1.lock hd True.intro
  exact ⟨x, _, J, r, q od _ upd_same fun b hb => upd_ne hb⟩
def itemsD (kds : List (DK × D)) : List D := kds.map fun p => .tup [p.1.d, p.2]
def mItems (i : Nat) : MM (List D) := fun δ μ => match δ[i]? with
  | some (some (.own (.dct ks ds))) => .ok (itemsD (ks.zip ds)) (δ.set i (some (.fr (.dct ks ds)))) μ
  | _ => .bad
theorem KV.at {K : PySem.W.Frag} {mg : Str → Option Value} {F : Hp} {ρ : List Addr} : ∀ {kvs : List (Key × V)} {kds : List (DK × D)} {i : Nat} {p : DK × D}, KV K mg F ρ kvs kds → kds[i]? = some p → ∃ v, kvs[i]? = some (p.1.key, v) ∧ Rep K mg F ρ v p.2
  | _, _, _, _, .nil, e => by simp at e
  | _, _, 0, _, .cons h t, e => by simp at e; subst e; exact ⟨_, rfl, h⟩
  | _, _, i + 1, _, .cons h t, e => by
    obtain ⟨v, h1, h2⟩ := KV.at (i := i) t (by simpa using e)
    exact ⟨v, by simpa using h1, h2⟩
theorem rep_key {K : PySem.W.Frag} {mg : Str → Option Value} {F : Hp} {ρ : List Addr} (k : DK) : Rep K mg F ρ (kV k.key) k.d := by
  cases k with
  | i n => exact .int
  | s x => exact .str
theorem itr_items {F : Hp} {ρ : List Addr} {d : Addr} {o : Obj} {kvs : List (Key × V)} {kds : List (DK × D)} (hF : F d = some (.frz o (.dK kvs))) (r : KV X.K X.mg F ρ kvs kds) : ItR X F ρ (Iti d o kvs) (itemsD kds) := by
  intro Z' F' ρ' μ δ σ H i to tr S
  have q : H d = some (.frz o (.dK kvs)) := by
    rcases S.le _ _ (to _ _ hF) with z | ⟨_, _, z, _⟩
    · exact z
    · cases z
  obtain ⟨_, _, hl⟩ := r.back
  refine ⟨fun h => ⟨q, by rw [hl]; simpa [itemsD] using h⟩, fun x hx => ?_⟩
  unfold itemsD at hx
  rw [List.getElem?_map] at hx
  obtain ⟨p, e1, rfl⟩ := Option.map_eq_some_iff.mp hx
  obtain ⟨v, e2, rv⟩ := r.at e1
  refine ⟨⟨q, (List.getElem?_eq_some_iff.mp e2).1⟩, fun y H' ⟨T, k, w, e3, ey, hT, eH⟩ => ?_⟩
  subst ey
  subst eH
  rw [e2] at e3
  cases e3
  exact new_pair S hT (rep_key p.1) (rv.up to tr)
theorem Sim.lockItems {K : PySem.W.Frag} {mg : Str → Option Value} {Z F H H2 : Hp} {ρ : List Addr} {μ : Mem} {δ : Loc} {σ : L2.St} {i : Nat} {p : Addr} {ks : List DK} {ds : List D} {o : Obj} {kvs : List (Key × V)} (S : Sim K mg Z F ρ μ δ σ H) (e : δ[i]? = some (some (.own (.dct ks ds)))) (hp : σ[i]? = some (some (.ref p)))
    (kv : KV K mg F ρ kvs (ks.zip ds)) (hn : ks.length = ds.length) (h2 : H2 p = some (.frz o (.dK kvs))) (hk : ∀ b, b ≠ p → H2 b = H b) :
    ∃ F2, Le Z F F2 ∧ F2 p = some (.frz o (.dK kvs)) ∧ KV K mg F2 ρ kvs (ks.zip ds) ∧ Sim K mg Z F2 ρ μ (δ.set i (some (.fr (.dct ks ds)))) σ H2 := by
  obtain ⟨v, ev, p', rfl, fr, ow⟩ := S.slot i _ e
  rw [hp] at ev
  cases ev
  have hi : i < δ.length := (List.getElem?_eq_some_iff.mp e).1
  have same : σ.set i (some (.ref p)) = σ := by
    apply List.ext_getElem?
    intro j
    by_cases z : j = i
    · subst z
      rw [List.getElem?_set_self (by rw [S.len]; exact hi), hp]
    · rw [List.getElem?_set_ne (Ne.symm z)]
  have S1 : Sim K mg Z F ρ μ (δ.set i none) σ H := by
    have := S.forget (i := i) (x := some (.ref p))
    rwa [same] at this
  have none_at : ∀ (j : Nat) s, (δ.set i none)[j]? = some (some (.own s)) → σ[j]? ≠ some (some (.ref p)) := fun j s e1 e2 => by
    by_cases z : j = i
    · subst z
      rw [List.getElem?_set_self hi] at e1
      cases e1
    · rw [List.getElem?_set_ne (Ne.symm z)] at e1
      exact z (S.apart j i p s _ e1 e e2 hp)
  have S2 : Sim K mg Z F ρ μ (δ.set i none) σ H2 := S1.heap hk fr.f fr.z fr.r none_at
  obtain ⟨l, S3⟩ := S2.freeze h2 fr none_at
  refine ⟨_, l, upd_same, kv.up l.to fun _ _ h => h, ?_⟩
  have kv2 := kv.up (ρ' := ρ) l.to fun _ _ h => h
  obtain ⟨b1, b2, b3⟩ := kv2.back
  have rp : Rep K mg (upd F p (.frz o (.dK kvs))) ρ (.ref p) (.dct ks ds) := by
    have f1 : (ks.zip ds).map (·.1) = ks := List.map_fst_zip (by omega)
    have f2 : (ks.zip ds).map (·.2) = ds := List.map_snd_zip (by omega)
    rw [f2] at b2
    rw [f1] at b1
    exact .dct (.inr ⟨o, by rw [upd_same, ← b1]⟩) (by rw [hn, ← b2.len]) b2
  have S4 := S3.store (i := i) (v := .ref p) (s := .fr (.dct ks ds)) ⟨rp, fun o p z => by cases z⟩ (by simpa using hi)
  rw [same, List.set_set] at S4
  exact S4
theorem ji_items {i : Nat} {elts : List Expr} {kk : Nat} {tpos apos cpos : Pos} (hv : PE X e (tVar i)) (hbase : attributeBase e "items" X.env (eval e X.env) = eval e X.env := by rfl) (hline : (apos.endLine == cpos.line) = true := by rfl) :
    JI X W (.Tuple elts kk tpos) (.Call (.Attribute e "items" apos) [] [] cpos) (mItems i) := by
  refine (pi_items (pe_lockD hv) hbase hline).imp fun σ H R ⟨Z, F, ρ, μ, δ, S, q⟩ => ?_
  unfold mItems at q
  cases e1 : δ[i]? with
  | none => simp only [e1] at q; exact q.elim
  | some so =>
    cases so with
    | none => simp only [e1] at q; exact q.elim
    | some s =>
      cases s with
      | fr d => simp only [e1] at q; exact q.elim
      | own c =>
        cases c <;> first | (simp only [e1] at q; exact q.elim) | skip
        rename_i ks ds
        simp only [e1] at q
        obtain ⟨v, ev, p, rfl, fr, ow⟩ := S.slot i _ e1
        obtain ⟨vs, hH, hn, rl⟩ := id ow
        obtain ⟨kvs, hH2, kv⟩ := own_kv ow
        refine ⟨.ref p, ev, p, kvs, rfl, hH2, fun o H2 h1 h2 => ?_⟩
        obtain ⟨F2, l2, hF2, kv2, S2⟩ := S.lockItems e1 ev kv (by rw [hn, rl.len]) h1 h2
        exact ⟨p, o, kvs, rfl, h1, q H2 F2 ρ l2 .refl S2 _ (itr_items hF2 kv2)⟩
/-! ### dict comprehensions -/
def dcD (f : TgF) (tests : MT) (kx vx : ME) (vs : List Nat) : List D → List (DK × D) → ME
  | [], acc => fun δ μ => .ok (.own (dctO acc)) δ μ
  | d :: ds, acc => fun δ μ => match f d δ with
    | none => .bad
    | some δ' => (tests δ' μ).cut.bind fun b δ2 μ2 => if b = true then (kx δ2 μ2).cut.bind fun s δ3 μ3 => (vx δ3 μ3).cut.bind fun t δ4 μ4 => match dkey s.d with
        | some k => if acc.length < 16777216 then dcD f tests kx vx vs ds (putA acc k t.d) (wipeD δ4 vs) μ4 else .bad
        | none => .bad
      else dcD f tests kx vx vs ds acc (wipeD δ2 vs) μ2
def mDc (mi : MM (List D)) (f : TgF) (tests : MT) (kx vx : ME) (vs : List Nat) : ME := fun δ μ => (mi δ μ).bind fun ds δ1 μ1 => dcD f tests kx vx vs ds [] (wipeD δ1 vs) μ1
theorem wipe_own {vs : List Nat} {δ : Loc} {i : Nat} {c : Own} : (wipeD δ vs)[i]? = some (some (.own c)) → δ[i]? = some (some (.own c)) := by
  induction vs with
  | nil => exact id
  | cons v vs ih =>
    intro h
    have hn := wipeD_in h
    unfold wipeD at h
    rw [List.getElem?_set_ne (fun z => hn (by simp [z]))] at h
    exact ih h
theorem dc_read {mi : MM (List D)} {f : TgF} {tests : MT} {kx vx : ME} {vs is : List Nat} {B : Cx} (hK : B.K = X.K) (hm : B.mg = X.mg) (hsub : ∀ j ∈ is, j ∈ vs) : ∀ σ H Q, rdE X W (mDc mi f tests kx vx vs) σ H Q → tDc (rdI X W mi) (rdG X f is) (rdT B W0 tests) (rdE B W0 kx) (rdE B W0 vx) vs σ H Q := by
  intro σ H Q ⟨Z, F, ρ, μ, δ, S, q⟩
  refine ⟨Z, F, ρ, μ, δ, S, (FinE.bind q).imp fun ds δ1 μ1 H1 F1 ρ1 l lr S1 ⟨_, _, _, p⟩ J hJ A hA => ?_⟩
  obtain ⟨n1, n2, n3, n4⟩ := S1.notIn hA
  let P : Slot → Loc → Mem → Hp → List Addr → Hp → Prop := fun s δ' _ F' ρ' H' => ∀ v, VR X.K X.mg Z F' ρ' δ' σ H' v s → Q v H'
  let Wd : Nat → Nat → Hp → Prop := fun i k H => k = ds.length - i ∧ i ≤ ds.length ∧ ∃ F' ρ' μ δ kvs acc, (∀ p o, F1 p = some o → F' p = some o) ∧ (∀ (k : Nat) p, ρ1[k]? = some p → ρ'[k]? = some p) ∧ Sim X.K X.mg Z F' ρ' μ (wipeD δ vs) (L2.wipe σ vs) H ∧
    Free Z F' ρ' A ∧ (∀ (i : Nat) s, (wipeD δ vs)[i]? = some (some (.own s)) → (L2.wipe σ vs)[i]? ≠ some (some (.ref A))) ∧ H A = some (.dK kvs) ∧ KV X.K X.mg F' ρ' kvs acc ∧ FinE X W Z F' ρ' σ P (dcD f tests kx vx vs (ds.drop i) acc (wipeD δ vs) μ)
  have wout : ∀ {δ : Loc} {s : Slot} (i : Nat), (wipeD δ vs)[i]? = some (some s) → (L2.wipe σ vs)[i]? = σ[i]? := fun i h => wipe_out (wipeD_in h)
  have Sw := (S1.laid (o := .dK []) hA).wipe vs
  refine ⟨Wd, ⟨ds.length, by simp, Nat.zero_le _, F1, ρ1, μ1, δ1, [], [], fun _ _ h => h, fun _ _ h => h, Sw, ⟨n1, n2, n3⟩, fun i s e1 e2 => ?_, upd_same, .nil, by rw [List.drop_zero]; exact p⟩, ?_⟩
  · have e4 := wout i e1
    rw [e2] at e4
    exact n4 i s (wipe_own e1) e4.symm
  rintro i k H2 ⟨rfl, hle, F2, ρ2, μ2, δ2, kvs, acc, to, tr, S2, fA, nA, hL, kv, p2⟩
  obtain ⟨j1, j2⟩ := hJ Z F2 ρ2 μ2 _ _ H2 i to tr S2
  by_cases hlt : i < ds.length
  · refine .inr ?_
    have hd : ds.drop i = ds[i] :: ds.drop (i + 1) := List.drop_eq_getElem_cons hlt
    have SG := S2.guard hL fA nA
    obtain ⟨go, yl⟩ := hJ (upd Z A (.dK kvs)) F2 ρ2 μ2 _ _ H2 i to tr SG |>.2 ds[i] (List.getElem?_eq_getElem hlt)
    refine ⟨go, fun H' => Wd (i + 1) (ds.length - (i + 1)) H', fun H' w => ⟨ds.length - (i + 1), by omega, w⟩, fun x H' y => ?_⟩
    obtain ⟨F3, l3, S3, r3⟩ := yl x H' y
    rw [hd] at p2
    unfold dcD at p2
    cases ef : f ds[i] (wipeD δ2 vs) with
    | none => simp only [ef] at p2; exact p2.elim
    | some δ3 =>
      simp only [ef] at p2
      refine ⟨_, F3, ρ2, μ2, _, _, S3, r3, δ3, ef, fun σ4 hσ hl4 S4 => ?_⟩
      have ws : L2.wipe σ4 vs = L2.wipe σ vs := by
        have h1 := wipe_same (σ := L2.wipe σ vs) (σ' := σ4) hl4 (vs := vs) fun j hj => hσ j fun z => hj (hsub j z)
        rw [h1]
        exact wipe_same (wipe_length _ _) fun j hj => wipe_out hj
      refine ⟨by rw [ws, wipe_same (σ := σ) (σ' := σ) rfl fun _ _ => rfl], ?_⟩
      refine ⟨_, F3, ρ2, μ2, δ3, by rw [hK, hm]; exact S4, (FinE.cut (p := A) (o := .dK kvs) hK hm (p2.mono l3.unguard .refl)).imp fun b δ5 μ5 H5 F5 ρ5 l5 lr5 _ ⟨S5, l5', lr5', p5⟩ => ?_⟩
      have fin : ∀ {F6 : Hp} {ρ6 : List Addr} {μ6 : Mem} {δ6 : Loc} {H6 H7 : Hp} {kvs' : List (Key × V)} {acc' : List (DK × D)}, Sim X.K X.mg (upd Z A (.dK kvs)) F6 ρ6 μ6 δ6 σ4 H6 → Le (upd Z A (.dK kvs)) F3 F6 → LeR (upd Z A (.dK kvs)) ρ2 ρ6 →
          (∀ a, a ≠ A → H7 a = H6 a) → H7 A = some (.dK kvs') → KV X.K X.mg F6 ρ6 kvs' acc' → FinE X W Z F6 ρ6 σ P (dcD f tests kx vx vs (ds.drop (i + 1)) acc' (wipeD δ6 vs) μ6) → Wd (i + 1) (ds.length - (i + 1)) H7 := by
        intro F6 ρ6 μ6 δ6 H6 H7 kvs' acc' S6 l6 lr6 hne hA7 kv' p6
        have fA6 : Free Z F6 ρ6 A := (fA.on l3 .refl).on l6 lr6
        have S8 := ((S6.unguard fA.z).heap hne fA6.f fA6.z fA6.r S6.guardNo).wipe vs
        rw [ws] at S8
        refine ⟨rfl, hlt, F6, ρ6, μ6, δ6, kvs', acc', fun p o h => l6.to p o (l3.to p o (to p o h)), fun k p h => lr6.to k p (tr k p h), S8, fA6, fun i' s e1 e2 => ?_, hA7, kv', p6⟩
        have e4 : (L2.wipe σ4 vs)[i']? = σ4[i']? := wipe_out (wipeD_in e1)
        rw [ws, e2] at e4
        exact S6.guardNo i' s (wipe_own e1) e4.symm
      cases b with
      | false =>
        simp only [if_neg Bool.false_ne_true] at p5 ⊢
        exact fin S5 l5' lr5' (fun _ _ => rfl) S5.guarded (kv.up (fun p o h => l5'.to p o (l3.to p o h)) lr5'.to) p5
      | true =>
        simp only [if_true] at p5 ⊢
        refine ⟨_, F5, ρ5, μ5, δ5, by rw [hK, hm]; exact S5, (FinE.cut (p := A) (o := .dK kvs) hK hm p5).imp fun s δ6 μ6 H6 F6 ρ6 l6 lr6 _ ⟨S6, l6', lr6', p6⟩ v vr => ?_⟩
        rw [hK, hm] at vr
        refine ⟨_, F6, ρ6, μ6, δ6, by rw [hK, hm]; exact S6, (FinE.cut (p := A) (o := .dK kvs) hK hm p6).imp fun t δ7 μ7 H7 F7 ρ7 l7 lr7 _ ⟨S7, l7', lr7', p7⟩ u ur => ?_⟩
        rw [hK, hm] at ur
        cases ek : dkey s.d with
        | none => simp only [ek] at p7; exact p7.elim
        | some k =>
          simp only [ek] at p7
          have ev : v = kV k.key := by
            have r := vr.r
            cases s with
            | fr d => exact key_rep r ek
            | own c => cases c <;> cases ek
          obtain ⟨F8, l8, S8, r8⟩ := S7.lock ur
          by_cases hz : acc.length < 16777216
          · rw [if_pos hz] at p7
            have kv8 := kv.up (fun p o h => l8.to p o (l7'.to p o (l6'.to p o (l5'.to p o (l3.to p o h))))) (ρ' := ρ7) fun k p h => lr7'.to k p (lr6'.to k p (lr5'.to k p h))
            obtain ⟨_, _, hlen⟩ := kv.back
            refine ⟨kvs, k.key, ev, S8.guarded, by rw [hlen, line_eq]; exact hz, ?_⟩
            exact fin S8 (((l5'.trans l6').trans l7').trans l8) ((lr5'.trans lr6').trans lr7') (fun a ne => upd_ne ne) upd_same (kv8.put r8) (p7.mono l8.unguard .refl)
          · rw [if_neg hz] at p7; exact p7.elim
  · have e : i = ds.length := by omega
    subst e
    rw [List.drop_length] at p2
    refine .inl ⟨j1 (Nat.le_refl _), ?_⟩
    have S3 : Sim X.K X.mg Z F2 ρ2 μ2 (wipeD δ2 vs) σ H2 := S2.agree (wipe_length _ _).symm fun i s e => (wout i e).symm
    exact p2 H2 F2 ρ2 .refl .refl S3 (.ref A) ⟨⟨A, rfl, fA, kv_own kv hL⟩, fun o p z1 z2 i o' e1 e2 => by
      cases z2
      exact nA i o' e1 (by rw [wout i e1]; exact e2)⟩
theorem je_dc {kx vx tg iter : Expr} {ifs : List Expr} {scope : Scope} {own : List (Str × Nat)} {mi : MM (List D)} {f : TgF} {is : List Nat} {tests : MT} {mk mv : ME} (hc : X.calm = true) (hN : X.N.Nodup) (hi : JI X W tg iter mi) (ok : BlkOk X.N X.env.scope scope own)
    (hg : ∀ (s : Shared) (H : Hp) (C : Addr) (cl : List (Str × Addr)) (fp : List Addr), JG (X.blk s H scope (compEnvC scope cl C X.env) fp) tg f is) (ht : ∀ (s : Shared) (H : Hp) (C : Addr) (cl : List (Str × Addr)) (fp : List Addr), JTs (X.blk s H scope (compEnvC scope cl C X.env) fp) W0 ifs tests)
    (hk : ∀ (s : Shared) (H : Hp) (C : Addr) (cl : List (Str × Addr)) (fp : List Addr), JE (X.blk s H scope (compEnvC scope cl C X.env) fp) W0 kx mk) (hv : ∀ (s : Shared) (H : Hp) (C : Addr) (cl : List (Str × Addr)) (fp : List Addr), JE (X.blk s H scope (compEnvC scope cl C X.env) fp) W0 vx mv)
    (hsub : ∀ j ∈ is, j ∈ own.map (·.2)) (hs : ∀ x, foldedSetIterable iter X.env x = pure x := by intro _; rfl) : JE X W (.DictComp kx vx [⟨tg, iter, ifs, 0⟩] scope pos) (mDc mi f tests mk mv (own.map (·.2))) :=
  (pe_dc (g := rdG X f is) (tt := rdT X W0 tests) (tk := rdE X W0 mk) (tv := rdE X W0 mv) hc hN hi ok hg ht hk hv hs).imp (dc_read (B := X) rfl rfl hsub)
theorem Cs.dc {k : Nat} {N : List Str} {sc : Scope} {kx vx tg iter : Expr} {ifs : List Expr} {scope : Scope} {mi : MM (List D)} {f : TgF} {is : List Nat} {tests : MT} {mk mv : ME} {Tx : Program → World → PySem.W.Frag → (Str → Option Value) → Heap → Prop} (C : Cs X W k N sc) (T : Tx X.prog X.w X.K X.mg X.base) (own : List (Str × Nat)) (hi : JI X W tg iter mi) (ok : blkC N sc scope own = true)
    (hb : ∀ (Y : Cx), Tx Y.prog Y.w Y.K Y.mg Y.base → Cs Y W0 k N (relS scope sc) → JG Y tg f is ∧ JTs Y W0 ifs tests ∧ JE Y W0 kx mk ∧ JE Y W0 vx mv) (hsub : (is.all fun j => (own.map (·.2)).contains j) = true) (hs : ∀ x, foldedSetIterable iter X.env x = pure x := by intro _; rfl) :
    JE X W (.DictComp kx vx [⟨tg, iter, ifs, 0⟩] scope pos) (mDc mi f tests mk mv (own.map (·.2))) := by
  have at_ := fun s H c cl fp => hb (X.blk s H scope (compEnvC scope cl c X.env) fp) T (C.blk scope s H c cl fp)
  exact je_dc C.calm (by rw [C.hN]; exact C.nd) hi (by rw [C.hN, C.hsc]; exact blkOk_by ok) (fun s H c cl fp => (at_ s H c cl fp).1) (fun s H c cl fp => (at_ s H c cl fp).2.1) (fun s H c cl fp => (at_ s H c cl fp).2.2.1) (fun s H c cl fp => (at_ s H c cl fp).2.2.2) (fun j hj => by simpa using List.all_eq_true.mp hsub j hj) hs
/-! ### list(text) -/
abbrev rListS : List V → Hp → VK → Prop := fun xs H Q => ∃ x : Tx, xs = [.str (toS x)] ∧ x.length ≤ sizeLine ∧ ∀ p, H p = none → Q (.ref p) (upd H p (.lst (x.map fun c => V.str (toS [c]))))
theorem vals_signs : ∀ {x : Tx} {us : List Value}, us.length = x.length → (∀ (j : Nat) v, us[j]? = some v → ∃ c t, x[j]? = some c ∧ v = .str (toS [c]) t) → Vals (x.map fun c => V.str (toS [c])) us
  | [], us, h, _ => by
    cases us with
    | nil => exact .nil
    | cons _ _ => cases h
  | c :: x, us, h, hv => by
    cases us with
    | nil => cases h
    | cons u us =>
      obtain ⟨d, t, e1, e2⟩ := hv 0 u rfl
      cases e1
      exact .cons ⟨t, e2⟩ (vals_signs (by simpa using h) fun j v e => hv (j + 1) v e)
theorem cr_listS (hc : X.calm = true) : CallR X (.type "list") rListS := by
  intro pins s σ H xs us Q I r h
  obtain ⟨x, rfl, hz, q⟩ := h
  obtain ⟨u, rfl, ru⟩ := vals1 r
  obtain ⟨t, rfl⟩ := ru
  have hsz : (toS x).cps.size ≤ sizeLine := by simpa [toS] using hz
  refine call_list_str (I.ok.hd hc) (toS x) t (hn := hsz) fun h' tk acc c' kp ho ⟨ha, hv⟩ => ?_
  have vs : Vals (x.map fun c => V.str (toS [c])) acc.toList := vals_signs (by simpa [toS] using ha) fun j v e => by
    obtain ⟨c, u, h1, h2⟩ := hv j v (by simpa using e)
    exact ⟨c, u, by simpa [toS] using h1, h2⟩
  refine ⟨.ref s.heap.objs.size, _, I.laid (t' := tk) kp (Nat.le_refl _) (show ObjOk X.prog X.w _ h' _ (.lst (x.map fun c => V.str (toS [c]))) from ⟨by rw [List.length_map]; exact hz, acc.toList, c', vs, by simpa using ho⟩), rfl, q _ (I.hok.fresh (Nat.le_refl _))⟩
def gListS : List D → Option Slot
  | [.str x] => if x.length ≤ 16777216 then some (.own (.lst (x.map fun c => .str [c]))) else none
  | _ => none
theorem j_listS : RLJ X rListS gListS := by
  intro Z F ρ μ δ σ H xs ds s Q S bs e q
  unfold gListS at e
  split at e
  · rename_i x
    by_cases hz : x.length ≤ 16777216
    · rw [if_pos hz] at e
      cases e
      obtain ⟨v, rfl, bv⟩ := bs.one
      cases bv.str
      refine ⟨x, rfl, by rw [line_eq]; exact hz, fun p hp => ?_⟩
      have rl : RepL X.K X.mg F ρ (x.map fun c => V.str (toS [c])) (x.map fun c => D.str [c]) := by
        have := RepL.ofStrs (K := X.K) (mg := X.mg) (F := F) (ρ := ρ) (x.map fun c => [c])
        simpa [List.map_map, Function.comp_def] using this
      obtain ⟨S2, vr⟩ := vr_newL S hp rl
      exact q _ _ F .refl S2 vr
    · rw [if_neg hz] at e; cases e
  · cases e
def gListA : List D → Option Slot := fun x => (gList x).or (gListS x)
theorem o_listA (hc : X.calm = true) : CallR X (.type "list") (fun xs H Q => rList X.K xs H Q ∨ rListS xs H Q) := o_list.or (cr_listS hc)
theorem j_listA : RLJ X (fun xs H Q => rList X.K xs H Q ∨ rListS xs H Q) gListA := RLJ.or j_list j_listS
/-! ### names for the printed derivations -/
section
variable {k : Nat} {N : List Str} {sc : Scope} {o i value : Expr} {oo oi : Opn} {m : ME} {p p' apos cpos tpos : Pos} {es : List Expr}
theorem Cs.getD (C : Cs X W k N sc) (ha : JO X W o oo) (hb : JO X W i oi) (hs : NoSl i) : JE X W (.Subscript o i pos) (m2 gGetD oo oi) := je_getD (by have := C.hu; omega) ha hb hs
theorem Cd.setD (C : Cd X W k N sc) (he : JE X W value m) (ho : JO X W o oo) (hi : JO X W i oi) (hs : swapsWith value (some (.Subscript o i p')) pos.line X.env = pure false := by rfl) : JS X W (.Assign [.Subscript o i p'] value pos) (mSetI gSetD oo oi m) :=
  js_setD (by have := C.toCs.hu; omega) he ho hi hs
theorem popD_ (ho : JO X W o oo) (he : JE X W e m) (h1 : attributeBase o "pop" X.env (eval o X.env) = eval o X.env := by rfl)
    (h2 : ((backTo cpos (starEach [e] X.env)).all (fun x => !x.1) && (backToKw cpos (keywordEach [] X.env)).all (fun x => x.1.isSome) && decide (([e] : List Expr).length + ([] : List Keyword).length + (if ([] : List Keyword).isEmpty then 0 else 1) < 30)) = true := by rfl)
    (h3 : (apos.endLine == cpos.line) = true := by rfl) (h4 : backTo cpos (starEach [e] X.env) = [(false, eval e X.env)] := by rfl) : JE X W (.Call (.Attribute o "pop" apos) [e] [] cpos) (mPopD oo m) := je_popD ho he ⟨h1, h2, h3, h4⟩
theorem Cs.enum {elts : List Expr} {kk : Nat} (C : Cs X W k N sc) (h : glC sc "enumerate" = true) (hm : X.mg "enumerate" = none) (he : JE X W e m) (hs : starEach [e] X.env = [(false, eval e X.env)] := by rfl) : JI X W (.Tuple elts kk tpos) (.Call (.Name "enumerate" p) [e] [] pos) (mEnum m) :=
  ji_enum (C.gl h).1 hm he hs
theorem Cs.items {x : Str} {i : Nat} {elts : List Expr} {kk : Nat} (C : Cs X W k N sc) (h : varC N sc i x = true) (hbase : attributeBase (.Name x p) "items" X.env (eval (.Name x p) X.env) = eval (.Name x p) X.env := by rfl) (hline : (apos.endLine == cpos.line) = true := by rfl) :
    JI X W (.Tuple elts kk tpos) (.Call (.Attribute (.Name x p) "items" apos) [] [] cpos) (mItems i) := ji_items (C.var h) hbase hline
theorem Cs.index {os : List Opn} (C : Cs X W k N sc) (ho : JO X W o oo) (ha : JOs X W [e] os) (hbase : attributeBase o "index" X.env (eval o X.env) = eval o X.env := by rfl)
    (hline : (apos.endLine == pos.line) = true := by rfl) (hs : starEach [e] X.env = (false, eval e X.env) :: starEach [] X.env := by rfl)
    (hfew : ((backTo pos (starEach [e] X.env)).all (fun x => !x.1) && (backToKw pos (keywordEach [] X.env)).all (fun x => x.1.isSome)
      && decide ([e].length + ([] : List Keyword).length + (if ([] : List Keyword).isEmpty then 0 else 1) < 30)) = true := by rfl) : JE X W (.Call (.Attribute o "index" apos) [e] [] pos) (mM "list" gIndex oo os) :=
  je_bm (T := "list") (id := "list.index") PySem.F.plainAttrs_list PySem.F.slot_list_index PySem.F.type_list_index (mt_indexD (by have := C.rm.r.un; omega)) j_index ho ha hbase hfew hline hs rfl
theorem Cs.asgT {f : TgF} {is : List Nat} {tg : Expr} (C : Cs X W k N sc) (he : JE X W e m) (hg : JG X tg f is) (hw : ∀ env : Env, env.scope = sc → swappedStores [tg] e env = pure none) (hs : swapsWithSole [tg] e pos.line X.env = pure false := by rfl)
    (h1 : (assignEach [tg] X.env).map (·.2) = [assign tg X.env] := by rfl) : JS X W (.Assign [tg] e pos) (mAsg f m) := js_asg he hg hs (hw X.env C.hsc) h1
end
end
end FL

/-! Part S: the source of draws that all laws share, in plain words. -/
namespace FL
open PySem L2

noncomputable def bSource : MS := (mSeq (mSet 2 (mIf (mTb (m2 (gEq true) (.v 0) (.e (mLst [])))) (m2 gIxL (.v 0) (.e (m2 gMod (.v 1) (.e (mC gLen [(.v 0)]))))) (mD (.int 1))))
    (mRet (mShare (mLst [(mV 2), (m2 gMulA (.e (mD (.int 3))) (.v 1)), (mIf (mTb (m2 gGe (.v 2) (.e (m2 gPow (.e (mD (.int 10))) (.e (mD (.int 18))))))) (m2 gDiv (.v 2) (.e (m2 gPow (.e (mD (.int 10))) (.e (mD (.int 18)))))) (mD (.int 0)))]))))
noncomputable def bNext : MS := (mSeq (mIfS (mTb (m2 gGt (.e (m2 gIxL (.v 0) (.e (mD (.int 2))))) (.e (mD (.int 0))))) (mSeq (mSet 2 (m2 gMod (.e (m2 gIxL (.v 0) (.e (mD (.int 2))))) (.v 1)))
    (mSeq (mSetI gSetL (.v 0) (.e (mD (.int 2))) (m2 gDiv (.e (m2 gIxL (.v 0) (.e (mD (.int 2))))) (.v 1)))
    (mRet (mV 2))))
    mPass)
    (mSeq (mSetI gSetL (.v 0) (.e (mD (.int 1))) (m2 gAdd (.e (m2 gIxL (.v 0) (.e (mD (.int 1))))) (.e (mD (.int 1)))))
    (mSeq (mSet 3 (mLst [(mD (.int 2147483647)), (mD (.int 2147483629)), (mD (.int 2147483587)), (mD (.int 2147483579)), (mD (.int 2147483563)), (mD (.int 2147483549)), (mD (.int 2147483543)), (mD (.int 2147483497))]))
    (mSeq (mSet 4 (m2 gIxL (.e (m2 gAdd (.v 3) (.e (mLst [(mD (.int 2147483489)), (mD (.int 2147483477)), (mD (.int 2147483423))])))) (.e (m2 gMod (.e (m2 gIxL (.v 0) (.e (mD (.int 1))))) (.e (mD (.int 11)))))))
    (mRet (m2 gMod (.e (m2 gDiv (.e (m2 gMod (.e (m2 gPow (.e (m2 gAdd (.e (m2 gAdd (.e (m2 gMod (.e (m2 gIxL (.v 0) (.e (mD (.int 0))))) (.v 4))) (.e (m2 gMulA (.e (mD (.int 7919))) (.e (m2 gIxL (.v 0) (.e (mD (.int 1))))))))) (.e (mD (.int 1))))) (.e (mD (.int 5))))) (.v 4))) (.e (mD (.int 13))))) (.v 1)))))))
noncomputable def mNext : MF := mFn 5 bNext
noncomputable def mSource : MF := mFn 3 bSource
noncomputable def bPick : MS := (mRet (m2 gIxL (.v 1) (.e (mCall mNext [(mV 0), (mC gLen [(.v 1)])] []))))
noncomputable def mPick : MF := mFn 2 bPick

/-- the source stands at j, at most B drawn -/
def Src (μ : Mem) (j : Nat) (B : Int) : Prop := ∃ c i g : Int, μ[j]? = some (.lst [.int c, .int i, .int g]) ∧ 0 ≤ i ∧ i ≤ B ∧ 0 ≤ g
theorem Src.mono {μ : Mem} {j : Nat} {B B' : Int} (h : Src μ j B) (hb : B ≤ B') : Src μ j B' := by
  obtain ⟨c, i, g, h1, h2, h3, h4⟩ := h
  exact ⟨c, i, g, h1, h2, by omega, h4⟩
/-- nothing but j changes -/
def Fr (j : Nat) (μ μ' : Mem) : Prop := μ'.length = μ.length ∧ ∀ k : Nat, k ≠ j → μ'[k]? = μ[k]?
theorem Fr.refl {j : Nat} {μ : Mem} : Fr j μ μ := ⟨rfl, fun _ _ => rfl⟩
theorem Fr.trans {j : Nat} {μ μ1 μ2 : Mem} (a : Fr j μ μ1) (b : Fr j μ1 μ2) : Fr j μ μ2 := ⟨b.1.trans a.1, fun k h => (b.2 k h).trans (a.2 k h)⟩
theorem Fr.set {j : Nat} {μ : Mem} {c : Own} : Fr j μ (μ.set j c) := ⟨by simp, fun k h => List.getElem?_set_ne (Ne.symm h)⟩

theorem ix0 {a b c : D} : L2.atI [a, b, c] 0 = some a := rfl
theorem ix1 {a b c : D} : L2.atI [a, b, c] 1 = some b := rfl
theorem ix2 {a b c : D} : L2.atI [a, b, c] 2 = some c := rfl
theorem ixn1 : ixN 3 1 = some 1 := rfl
theorem ixn2 : ixN 3 2 = some 2 := rfl
def primes : List Int := [2147483647, 2147483629, 2147483587, 2147483579, 2147483563, 2147483549, 2147483543, 2147483497, 2147483489, 2147483477, 2147483423]
theorem primes_at (r : Int) (h0 : 0 ≤ r) (h1 : r < 11) : ∃ p : Int, L2.atI (primes.map D.int) r = some (.int p) ∧ 2147483423 ≤ p ∧ p ≤ 2147483647 := by
  have e : r = 0 ∨ r = 1 ∨ r = 2 ∨ r = 3 ∨ r = 4 ∨ r = 5 ∨ r = 6 ∨ r = 7 ∨ r = 8 ∨ r = 9 ∨ r = 10 := by omega
  rcases e with rfl | rfl | rfl | rfl | rfl | rfl | rfl | rfl | rfl | rfl | rfl <;> exact ⟨_, rfl, by decide, by decide⟩
theorem next_spec {μ : Mem} {j : Nat} {n B : Int} (h : Src μ j B) (hB : B ≤ 2 ^ 40) (h0 : 0 < n) (hn : n ≤ 2 ^ 63) :
    ∃ r μ', mNext [.obj j, .int n] μ = .ok (.fr (.int r)) μ' ∧ 0 ≤ r ∧ r < n ∧ Src μ' j (B + 1) ∧ Fr j μ μ' := by
  obtain ⟨c, i, g, hm, i0, iB, g0⟩ := h
  have hj : j < μ.length := (List.getElem?_eq_some_iff.mp hm).1
  have hlog : n.natAbs.log2 < 9000 := by
    have : n.natAbs < 2 ^ 64 := by omega
    have := (Nat.log2_lt (by omega)).mpr this
    omega
  by_cases hg : 0 < g
  · refine ⟨g % n, μ.set j (.lst [.int c, .int i, .int (g / n)]), ?_, Int.emod_nonneg _ (by omega), Int.emod_lt_of_pos _ h0, ⟨c, i, g / n, by simp [hj], i0, by omega, Int.ediv_nonneg g0 (by omega)⟩, .set⟩
    simp [mNext, bNext, mFn_eq, mSeq, mIfS, mTb, m2, Opn.ev, mSet, mRet, mV, mD, mSetI, OR.at, look, startD, Out.bind, Out.thn, OutS.seq, OutS.fin, Slot.d, Own.d, lift, hm, gGt, gGtI, gTx, gInt, gMod, gDiv, gIxL, ix2, hg, h0, hlog, recv, gSetL, ixn2]
  · have e0 : g = 0 := by omega
    subst e0
    have hr0 : 0 ≤ (i + 1) % 11 := Int.emod_nonneg _ (by decide)
    have hr1 : (i + 1) % 11 < 11 := Int.emod_lt_of_pos _ (by decide)
    obtain ⟨p, ep, p0, p1⟩ := primes_at _ hr0 hr1
    have hc0 : 0 ≤ c % p := Int.emod_nonneg _ (by omega)
    have hc1 : c % p < p := Int.emod_lt_of_pos _ (by omega)
    have hbase : (c % p + 7919 * (i + 1) + 1).natAbs < 2 ^ 64 := by omega
    have hmul : Nat.log2 7919 + (i + 1).natAbs.log2 < 1000000 := by
      have h1 : Nat.log2 7919 = 12 := by decide +kernel
      have h2 : (i + 1).natAbs.log2 < 64 := (Nat.log2_lt (by omega)).mpr (by omega)
      omega
    have hp9 : 0 < p := by omega
    refine ⟨(c % p + 7919 * (i + 1) + 1) ^ 5 % p / 13 % n, μ.set j (.lst [.int c, .int (i + 1), .int 0]), ?_, Int.emod_nonneg _ (by omega), Int.emod_lt_of_pos _ h0, ⟨c, i + 1, 0, by simp [hj], by omega, by omega, by omega⟩, .set⟩
    have ep' : L2.atI [D.int 2147483647, .int 2147483629, .int 2147483587, .int 2147483579, .int 2147483563, .int 2147483549, .int 2147483543, .int 2147483497, .int 2147483489, .int 2147483477, .int 2147483423] ((i + 1) % 11) = some (.int p) := ep
    have hs : ∀ c : Own, (μ.set j c)[j]? = some c := fun c => List.getElem?_set_self hj
    have l13 : Nat.log2 13 < 9000 := by decide +kernel
    simp [mNext, bNext, mFn_eq, mSeq, mIfS, mTb, m2, Opn.ev, mSet, mRet, mV, mD, mSetI, mLst, evA, mPass, OR.at, look, startD, Out.bind, Out.thn, OutS.seq, OutS.fin, Slot.d, Own.d, lift, hm, hs, gGt, gGtI, gTx, gInt, gMod, gDiv, gPow, gMulA, gMul, gAdd, gAddS, gAddL, gAddT, gIxL, ix0, ix1, ix2, h0, hlog, recv, gSetL, ixn1, ep', hp9, hbase, hmul, l13]
theorem atI_nat {α : Type} {xs : List α} {r : Int} (h0 : 0 ≤ r) (h1 : r < xs.length) : ∃ x, L2.atI xs r = some x ∧ x ∈ xs := by
  have hr : r.toNat < xs.length := by omega
  refine ⟨xs[r.toNat], ?_, List.getElem_mem hr⟩
  unfold L2.atI ixN
  simp [h0, h1, hr]
theorem pick_lst {μ : Mem} {j : Nat} {B : Int} {xs : List D} (h : Src μ j B) (hB : B ≤ 2 ^ 40) (h0 : xs ≠ []) (hn : xs.length ≤ 2 ^ 24) :
    ∃ x μ', x ∈ xs ∧ mPick [.obj j, .lst xs] μ = .ok (.fr x) μ' ∧ Src μ' j (B + 1) ∧ Fr j μ μ' := by
  have hl : 0 < xs.length := List.length_pos_iff.mpr h0
  obtain ⟨r, μ', e, r0, r1, hs, hf⟩ := next_spec (n := xs.length) h hB (by omega) (by omega)
  obtain ⟨x, ex, hx⟩ := atI_nat r0 r1
  refine ⟨x, μ', hx, ?_, hs, hf⟩
  simp [mPick, bPick, mFn_eq, mRet, m2, Opn.ev, mCall, evA, mV, mC, evs, OR.ats, OR.at, look, startD, Out.bind, Out.thn, OutS.fin, Slot.d, gLen, gLen1, lift, e, gIxL, ex]
theorem pick_str {μ : Mem} {j : Nat} {B : Int} {xs : Tx} (h : Src μ j B) (hB : B ≤ 2 ^ 40) (h0 : xs ≠ []) (hn : xs.length ≤ 2 ^ 24) :
    ∃ x μ', x ∈ xs ∧ mPick [.obj j, .str xs] μ = .ok (.fr (.str [x])) μ' ∧ Src μ' j (B + 1) ∧ Fr j μ μ' := by
  have hl : 0 < xs.length := List.length_pos_iff.mpr h0
  obtain ⟨r, μ', e, r0, r1, hs, hf⟩ := next_spec (n := xs.length) h hB (by omega) (by omega)
  obtain ⟨x, ex, hx⟩ := atI_nat r0 r1
  refine ⟨x, μ', hx, ?_, hs, hf⟩
  have hn' : xs.length ≤ 16777216 := hn
  simp [mPick, bPick, mFn_eq, mRet, m2, Opn.ev, mCall, evA, mV, mC, evs, OR.ats, OR.at, look, startD, Out.bind, Out.thn, OutS.fin, Slot.d, gLen, gLen1, lift, e, gIxL, ex, hn']
/-- lists of whole numbers -/
theorem pys_ints (ns : List Int) : D.pys (ns.map D.int) = some (ns.map PyData.int) := by
  induction ns with
  | nil => rfl
  | cons n ns ih => simp [D.pys, D.py, ih]
theorem canLay_ints (ns : List Int) : PyData.canLayAll0 (ns.map PyData.int) = true := by
  induction ns with
  | nil => simp [PyData.canLayAll0]
  | cons n ns ih => simp [PyData.canLayAll0, PyData.canLay0, ih]
theorem depth_ints (ns : List Int) : PyData.depthAll (ns.map PyData.int) = 0 := by
  induction ns with
  | nil => simp [PyData.depthAll]
  | cons n ns ih => simp [PyData.depthAll, PyData.depth, ih]
theorem shaped_ints (ns : List Int) : SeqAt.shaped (.list (ns.map PyData.int)) = true := by
  simp [SeqAt.shaped, PyData.canLay0, PyData.depth, canLay_ints, depth_ints]
theorem eq_ints_nil (neg : Bool) (ns : List Int) : gEq neg (.ro (ns.map .int)) (.lst []) = some (tb (decide (ns = []) != neg)) := by
  have h := shaped_ints ns
  have h0 := shaped_ints []
  have e : PyData.eqvAll (ns.map PyData.int) [] = decide (ns = []) := by cases ns <;> simp [PyData.eqvAll]
  simp only [List.map_nil] at h0
  simp [gEq, eqS, eqP, D.py, pys_ints, D.pys, h, h0, PyData.eqv, e]
theorem source_spec {ns : List Int} {k : Int} {μ : Mem} (hl : ns.length ≤ 63) (h0 : 0 ≤ k) (hk : k ≤ 2 ^ 40) :
    ∃ c g, 0 ≤ g ∧ mSource [.ro (ns.map .int), .int k] μ = .ok (.fr (.obj μ.length)) (μ ++ [.lst [.int c, .int (3 * k), .int g]]) := by
  have hmul : Nat.log2 3 + k.natAbs.log2 < 1000000 := by
    have h1 : Nat.log2 3 = 1 := by decide +kernel
    by_cases hz : k.natAbs = 0
    · rw [hz, h1]; decide +kernel
    · have h2 : k.natAbs.log2 < 64 := (Nat.log2_lt hz).mpr (by omega)
      omega
  have l10 : Nat.log2 1000000000000000000 < 9000 := by decide +kernel
  have core : ∀ c : Int, (ns = [] ∧ c = 1 ∨ ns ≠ [] ∧ L2.atI (ns.map D.int) (k % (ns.length : Int)) = some (.int c)) →
      ∃ g, 0 ≤ g ∧ mSource [.ro (ns.map .int), .int k] μ = .ok (.fr (.obj μ.length)) (μ ++ [.lst [.int c, .int (3 * k), .int g]]) := by
    intro c hc
    by_cases hb : 1000000000000000000 ≤ c
    · refine ⟨c / 1000000000000000000, Int.ediv_nonneg (by omega) (by decide), ?_⟩
      rcases hc with ⟨rfl, rfl⟩ | ⟨hne, hat⟩
      · omega
      · have hp := List.length_pos_iff.mpr hne
        simp [mSource, bSource, mFn_eq, mSeq, mIf, mTb, m2, Opn.ev, mSet, mRet, mV, mD, mLst, mShare, mC, evs, evA, OR.at, OR.ats, look, startD, Out.bind, Out.thn, OutS.seq, OutS.fin, Slot.d, Own.d, lift, eq_ints_nil, hne, gLen, gLen1, gMod, gInt, hp, gIxL, hat, gMulA, gMul, hmul, gGe, gGeI, gPow, gDiv, l10, hb]
    · refine ⟨0, by decide, ?_⟩
      rcases hc with ⟨rfl, rfl⟩ | ⟨hne, hat⟩
      · have e0 : gEq true (.ro []) (.lst []) = some (tb false) := eq_ints_nil true []
        simp [mSource, bSource, mFn_eq, mSeq, mIf, mTb, m2, Opn.ev, mSet, mRet, mV, mD, mLst, mShare, mC, evs, evA, OR.at, OR.ats, look, startD, Out.bind, Out.thn, OutS.seq, OutS.fin, Slot.d, Own.d, lift, e0, gLen, gLen1, gMod, gInt, gIxL, gMulA, gMul, hmul, gGe, gGeI, gPow, gDiv, l10, hb]
      · have hp := List.length_pos_iff.mpr hne
        simp [mSource, bSource, mFn_eq, mSeq, mIf, mTb, m2, Opn.ev, mSet, mRet, mV, mD, mLst, mShare, mC, evs, evA, OR.at, OR.ats, look, startD, Out.bind, Out.thn, OutS.seq, OutS.fin, Slot.d, Own.d, lift, eq_ints_nil, hne, gLen, gLen1, gMod, gInt, hp, gIxL, hat, gMulA, gMul, hmul, gGe, gGeI, gPow, gDiv, l10, hb]
  by_cases hne : ns = []
  · obtain ⟨g, g0, e⟩ := core 1 (.inl ⟨hne, rfl⟩)
    exact ⟨1, g, g0, e⟩
  · have hp : 0 < (ns.length : Int) := by have := List.length_pos_iff.mpr hne; omega
    obtain ⟨x, ex, hx⟩ := atI_nat (xs := ns.map D.int) (r := k % (ns.length : Int)) (Int.emod_nonneg _ (by omega)) (by rw [List.length_map]; exact Int.emod_lt_of_pos _ hp)
    obtain ⟨c, _, rfl⟩ := List.mem_map.mp hx
    obtain ⟨g, g0, e⟩ := core c (.inr ⟨hne, ex⟩)
    exact ⟨c, g, g0, e⟩
end FL

/-! Part W: a text cut into words, in plain words. -/
namespace FL
open PySem L2
abbrev lo1 := PyProof.Rows.lo1
abbrev up1 := PyProof.Rows.up1
def WS : Tx := lit "abcdefghijklmnopqrstuvwxyz0123456789"
theorem ws_eq : lit "abcdefghijklmnopqrstuvwxyz0123456789" = WS := rfl
theorem lit_nil : lit "" = [] := rfl
def stepW (st : List Tx × Tx) (c : Nat) : List Tx × Tx :=
  if c ∈ WS then (if (st.2 ++ [c]).length = 20 then (st.1 ++ [st.2 ++ [c]], []) else (st.1, st.2 ++ [c]))
  else if st.2 = [] then (st.1, []) else (st.1 ++ [st.2], [])
def finW (st : List Tx × Tx) : List Tx := if st.2 = [] then st.1 else st.1 ++ [st.2]
/-- the words of a text in small letters -/
def wordsL (y : Tx) : List Tx := finW (y.foldl stepW ([], []))
def wordsT (x : Tx) : List Tx := wordsL (x.map lo1)

noncomputable def bSplitLoop : MS := (mSeq (mIfS (mTb (m2 (gIn false) (.v 3) (.e (mD (.str (lit "abcdefghijklmnopqrstuvwxyz0123456789")))))) (mSet 2 (m2 gAdd (.v 2) (.v 3)))
    mPass)
    (mIfS (mAnd (mTb (m2 (gEq true) (.v 2) (.e (mD (.str (lit "")))))) (mOr (mTb (m2 (gIn true) (.v 3) (.e (mD (.str (lit "abcdefghijklmnopqrstuvwxyz0123456789")))))) (mTb (m2 (gEq false) (.e (mC gLen [(.v 2)])) (.e (mD (.int 20))))))) (mSeq (mEx (mMut "list" gAppend (.v 1) [(mV 2)]))
    (mSet 2 (mD (.str (lit "")))))
    mPass))
noncomputable def bSplit : MS := (mSeq (mPar 1 2 (mLst []) (mD (.str (lit ""))))
    (mSeq (mFor (mIt (mM "str" gLower (.v 0) [])) (tgV 3) bSplitLoop)
    (mRet (mIf (mTb (m2 (gEq true) (.v 2) (.e (mD (.str (lit "")))))) (m2 gAdd (.v 1) (.e (mLst [(mV 2)]))) (mV 1)))))
noncomputable def mSplit : MF := mFn 4 bSplit
def stW (t : D) (st : List Tx × Tx) (s : Option Slot) : Loc := [some (.fr t), some (.own (.lst (st.1.map .str))), some (.fr (.str st.2)), s]
theorem split_step {t : D} {st : List Tx × Tx} {c : Nat} {s : Option Slot} {μ : Mem} (h1 : st.1.length < 16777216) (h2 : st.2.length < 16777216) :
    turnD (tgV 3) bSplitLoop (.str [c]) (stW t st s) μ = .nx (stW t (stepW st c) (some (.fr (.str [c])))) μ := by
  obtain ⟨f, r⟩ := st
  have h1' : f.length < 16777216 := h1
  have h2' : r.length + 1 ≤ 16777216 := h2
  have h2'' : r.length ≤ 16777216 := by omega
  by_cases hc : c ∈ WS
  · by_cases hl : r.length + 1 = 20
    · have hl' : (r.length : Int) + 1 = 20 := by omega
      simp [turnD, tgV, bSplitLoop, stW, stepW, mSeq, mIfS, mTb, m2, Opn.ev, mD, OR.at, OR.ats, look, Out.bind, Out.thn, OutS.seq, Slot.d, Own.d, lift, gIn, gInS, ws_eq, lit_nil, hc, hl, mSet, gAdd, gInt, gAddS, h2', mAnd, mOr, gEq, eqS, mC, evs, gLen, gLen1, mEx, mMut, recv, ownTy, evA, mV, gAppend, h1', mPass, hl']
    · have hl' : ¬ (r.length : Int) + 1 = 20 := by omega
      simp [turnD, tgV, bSplitLoop, stW, stepW, mSeq, mIfS, mTb, m2, Opn.ev, mD, OR.at, OR.ats, look, Out.bind, Out.thn, OutS.seq, Slot.d, Own.d, lift, gIn, gInS, ws_eq, lit_nil, hc, hl, mSet, gAdd, gInt, gAddS, h2', mAnd, mOr, gEq, eqS, mC, evs, gLen, gLen1, mEx, mMut, recv, ownTy, evA, mV, gAppend, h1', mPass, hl']
  · by_cases hr : r = []
    · simp [turnD, tgV, bSplitLoop, stW, stepW, mSeq, mIfS, mTb, m2, Opn.ev, mD, OR.at, OR.ats, look, Out.bind, Out.thn, OutS.seq, Slot.d, Own.d, lift, gIn, gInS, ws_eq, lit_nil, hc, hr, mSet, gAdd, gInt, gAddS, h2', mAnd, mOr, gEq, eqS, mC, evs, gLen, gLen1, mEx, mMut, recv, ownTy, evA, mV, gAppend, h1', mPass]
    · simp [turnD, tgV, bSplitLoop, stW, stepW, mSeq, mIfS, mTb, m2, Opn.ev, mD, OR.at, OR.ats, look, Out.bind, Out.thn, OutS.seq, Slot.d, Own.d, lift, gIn, gInS, ws_eq, lit_nil, hc, hr, mSet, gAdd, gInt, gAddS, h2', mAnd, mOr, gEq, eqS, mC, evs, gLen, gLen1, mEx, mMut, recv, ownTy, evA, mV, gAppend, h1', mPass]
theorem stepW_len (st : List Tx × Tx) (c : Nat) : (stepW st c).1.length ≤ st.1.length + 1 ∧ (stepW st c).2.length ≤ st.2.length + 1 := by
  unfold stepW
  split
  · split <;> simp
  · split <;> simp
theorem split_loop {t : D} {μ : Mem} : ∀ (y : Tx) (st : List Tx × Tx) (s : Option Slot), st.1.length + y.length < 16777216 → st.2.length + y.length < 16777216 →
    ∃ s', forD (turnD (tgV 3) bSplitLoop) (chars y) (stW t st s) μ = .nx (stW t (y.foldl stepW st) s') μ
  | [], st, s, _, _ => ⟨s, rfl⟩
  | c :: y, st, s, h1, h2 => by
    have hl := stepW_len st c
    rw [List.length_cons] at h1 h2
    obtain ⟨s', e⟩ := split_loop y (stepW st c) (some (.fr (.str [c]))) (by omega) (by omega)
    refine ⟨s', ?_⟩
    show (turnD (tgV 3) bSplitLoop (.str [c]) (stW t st s) μ).loop (forD (turnD (tgV 3) bSplitLoop) (chars y)) = _
    rw [split_step (by omega) (by omega)]
    exact e
theorem foldW_len (y : Tx) : ∀ st : List Tx × Tx, (y.foldl stepW st).1.length ≤ st.1.length + y.length := by
  induction y with
  | nil => intro st; simp
  | cons c y ih =>
    intro st
    have h1 := ih (stepW st c)
    have h2 := (stepW_len st c).1
    rw [List.foldl_cons, List.length_cons]
    omega
/-- split_words, where it is called -/
theorem split_spec {x : Tx} {μ : Mem} (ha : x.all (· < 128) = true) (hl : x.length ≤ 1000) : ∃ s, mSplit [.str x] μ = .ok s μ ∧ s.d = .lst ((wordsT x).map .str) := by
  have hl2 : x.length ≤ 5592405 := by omega
  obtain ⟨s', e⟩ := split_loop (t := .str x) (μ := μ) (x.map lo1) ([], []) none (by simp; omega) (by simp; omega)
  have hlen := foldW_len (x.map lo1) ([], [])
  generalize hw : (x.map lo1).foldl stepW ([], []) = w at e hlen
  obtain ⟨f, r⟩ := w
  have hf : f.length + 1 ≤ 16777216 := by simp at hlen; omega
  have e0 : (stW (.str x) ([], []) none) = [some (.fr (.str x)), some (.own (.lst [])), some (.fr (.str [])), none] := rfl
  rw [e0] at e
  have hW : wordsT x = finW (f, r) := by unfold wordsT wordsL; rw [hw]
  have he : (List.map lo1 x) = List.map PyProof.Rows.lo1 x := rfl
  rw [he] at e
  rw [hW]
  by_cases hr : r = []
  · subst hr
    refine ⟨.fr (.lst (f.map .str)), ?_, by simp [finW, Slot.d]⟩
    simp [mSplit, bSplit, mFn_eq, mSeq, mPar, mLst, evA, mD, lit_nil, mFor, mIt, mM, Opn.ev, OR.at, OR.ats, look, startD, Out.bind, Out.thn, OutS.seq, OutS.fin, Slot.d, Own.d, lift, isTy, evs, gLower, ha, hl2, itA, e, stW, mRet, mIf, mTb, m2, gEq, eqS, mV]
  · refine ⟨.own (.lst (f.map .str ++ [.str r])), ?_, by simp [finW, hr, Slot.d, Own.d]⟩
    simp [mSplit, bSplit, mFn_eq, mSeq, mPar, mLst, evA, mD, lit_nil, mFor, mIt, mM, Opn.ev, OR.at, OR.ats, look, startD, Out.bind, Out.thn, OutS.seq, OutS.fin, Slot.d, Own.d, lift, isTy, evs, gLower, ha, hl2, itA, e, stW, mRet, mIf, mTb, m2, gEq, eqS, mV, hr, gAdd, gInt, gAddS, gAddL, hf]
end FL

/-! Part V: laws of words. -/
namespace FL
open PySem L2
theorem lcD_cons {f : TgF} {t : MT} {m : ME} {vs : List Nat} {d : D} {ds acc : List D} {δ : FL.Loc} {μ : Mem} : lcD f t m vs (d :: ds) acc δ μ = (match f d δ with
    | none => .bad
    | some δ' => (t δ' μ).cut.bind fun b δ2 μ2 => if b = true then (m δ2 μ2).cut.bind fun s δ3 μ3 => if acc.length < 16777216 then lcD f t m vs ds (acc ++ [s.d]) (wipeD δ3 vs) μ3 else .bad
      else lcD f t m vs ds acc (wipeD δ2 vs) μ2) := rfl
theorem forD_cons {g : D → MS} {d : D} {ds : List D} {δ : FL.Loc} {μ : Mem} : forD g (d :: ds) δ μ = (g d δ μ).loop (forD g ds) := rfl
/-- a loop that comes to its end each time -/
theorem forD_ix {g : D → MS} (I : Nat → FL.Loc → Mem → Prop) (N : Nat) : ∀ (ds : List D) (n : Nat), n + ds.length ≤ N → (∀ d ∈ ds, ∀ i δ μ, i < N → I i δ μ → ∃ δ' μ', g d δ μ = .nx δ' μ' ∧ I (i + 1) δ' μ') → ∀ δ μ, I n δ μ → ∃ δ' μ', forD g ds δ μ = .nx δ' μ' ∧ I (n + ds.length) δ' μ'
  | [], n, _, _, δ, μ, h => ⟨δ, μ, rfl, h⟩
  | d :: ds, n, hN, hs, δ, μ, h => by
    rw [List.length_cons] at hN
    obtain ⟨δ1, μ1, e, h1⟩ := hs d (List.mem_cons_self ..) n δ μ (by omega) h
    obtain ⟨δ2, μ2, e2, h2⟩ := forD_ix I N ds (n + 1) (by omega) (fun d hd => hs d (List.mem_cons_of_mem _ hd)) δ1 μ1 h1
    refine ⟨δ2, μ2, ?_, by rw [List.length_cons, show n + (ds.length + 1) = n + 1 + ds.length by omega]; exact h2⟩
    rw [forD_cons, e]
    exact e2
theorem seq_nx {m n : MS} {δ δ1 : FL.Loc} {μ μ1 : Mem} (h : m δ μ = .nx δ1 μ1) : mSeq m n δ μ = n δ1 μ1 := by unfold mSeq; rw [h]; rfl
theorem seq_rt {m n : MS} {δ : FL.Loc} {μ μ1 : Mem} {s : FL.Slot} (h : m δ μ = .rt s μ1) : mSeq m n δ μ = .rt s μ1 := by unfold mSeq; rw [h]; rfl
theorem fn_rt {n : Nat} {b : MS} {ds : List D} {μ μ1 : Mem} {s : FL.Slot} (h : b (startD n ds) μ = .rt s μ1) : mFn n b ds μ = .ok s μ1 := by rw [mFn_eq, h]; rfl
theorem for_of {mi : MM (List D)} {f : TgF} {m : MS} {δ δ1 : FL.Loc} {μ μ1 : Mem} {ds : List D} {r : OutS} (h : mi δ μ = .ok ds δ1 μ1) (h2 : forD (turnD f m) ds δ1 μ1 = r) : mFor mi f m δ μ = r := by unfold mFor; rw [h]; exact h2
theorem set_of {i : Nat} {m : ME} {δ δ1 : FL.Loc} {μ μ1 : Mem} {s : FL.Slot} (h : m δ μ = .ok s δ1 μ1) : mSet i m δ μ = .nx (δ1.set i (some s)) μ1 := by unfold mSet; rw [h]; rfl
theorem ret_of {m : ME} {δ δ1 : FL.Loc} {μ μ1 : Mem} {s : FL.Slot} (h : m δ μ = .ok s δ1 μ1) : mRet m δ μ = .rt s μ1 := by unfold mRet; rw [h]; rfl
theorem if_t {t : MT} {m n : MS} {δ δ1 : FL.Loc} {μ μ1 : Mem} (h : t δ μ = .ok true δ1 μ1) : mIfS t m n δ μ = m δ1 μ1 := by unfold mIfS; rw [h]; rfl
theorem if_f {t : MT} {m n : MS} {δ δ1 : FL.Loc} {μ μ1 : Mem} (h : t δ μ = .ok false δ1 μ1) : mIfS t m n δ μ = n δ1 μ1 := by unfold mIfS; rw [h]; rfl
theorem if_fp {t : MT} {m : MS} {δ δ1 : FL.Loc} {μ μ1 : Mem} (h : t δ μ = .ok false δ1 μ1) : mIfS t m mPass δ μ = .nx δ1 μ1 := if_f h
theorem slot_lst {s : FL.Slot} {xs : List D} (h : s.d = .lst xs) : s = .fr (.lst xs) ∨ s = .own (.lst xs) := by
  cases s with
  | fr d => exact .inl (by rw [← h]; rfl)
  | own o =>
    cases o with
    | lst ys =>
      have h' : D.lst ys = .lst xs := h
      cases h'
      exact .inr rfl
    | dct ks ys =>
      have h' : D.dct ks ys = .lst xs := h
      cases h'
    | tab P q =>
      have h' : D.unk = .lst xs := h
      cases h'
    | ins c kd ks ys =>
      have h' : D.unk = .lst xs := h
      cases h'
    | idc k =>
      have h' : D.unk = .lst xs := h
      cases h'
theorem dfr {d : D} : (FL.Slot.fr d).d = d := rfl
theorem down {xs : List D} : (FL.Slot.own (.lst xs)).d = .lst xs := rfl
theorem owd {xs : List D} : (Own.lst xs).d = .lst xs := rfl
theorem or_ff {m n : MT} {δ δ1 δ2 : FL.Loc} {μ μ1 μ2 : Mem} (h1 : m δ μ = .ok false δ1 μ1) (h2 : n δ1 μ1 = .ok false δ2 μ2) : mOr m n δ μ = .ok false δ2 μ2 := by unfold mOr; rw [h1, Out.bind_ok, if_neg Bool.false_ne_true, h2]
theorem and_f {m n : MT} {δ δ1 : FL.Loc} {μ μ1 : Mem} (h1 : m δ μ = .ok false δ1 μ1) : mAnd m n δ μ = .ok false δ1 μ1 := by unfold mAnd; rw [h1, Out.bind_ok, if_neg Bool.false_ne_true]
theorem and_t {m n : MT} {δ δ1 : FL.Loc} {μ μ1 : Mem} {r : Out Bool} (h1 : m δ μ = .ok true δ1 μ1) (h2 : n δ1 μ1 = r) : mAnd m n δ μ = r := by unfold mAnd; rw [h1, Out.bind_ok, if_pos rfl, h2]
theorem sum_ones (cs : Tx) : ((cs.map fun c => [c]).map List.length).sum = cs.length := by
  induction cs with
  | nil => rfl
  | cons c cs ih => simp only [List.map_cons, List.sum_cons, List.length_cons, ih, List.length_nil]; omega
theorem flat_ones (cs : Tx) : (cs.map fun c => [c]).flatten = cs := by
  induction cs with
  | nil => rfl
  | cons c cs ih => rw [List.map_cons, List.flatten_cons, ih]; rfl
theorem kitB_ss : kitB "str" "str" = some true := by kernel_rfl
theorem stepW_pre (f f' : List Tx) (r : Tx) (c : Nat) : stepW (f ++ f', r) c = (f ++ (stepW (f', r) c).1, (stepW (f', r) c).2) := by
  unfold stepW
  dsimp only
  split
  · split <;> simp
  · split <;> simp
theorem foldW_pre (y : Tx) : ∀ (f f' : List Tx) (r : Tx), y.foldl stepW (f ++ f', r) = (f ++ (y.foldl stepW (f', r)).1, (y.foldl stepW (f', r)).2) := by
  induction y with
  | nil => intro f f' r; rfl
  | cons c y ih =>
    intro f f' r
    rw [List.foldl_cons, List.foldl_cons, stepW_pre]
    exact ih f _ _
theorem finW_pre (f : List Tx) (st : List Tx × Tx) : finW (f ++ st.1, st.2) = f ++ finW st := by
  unfold finW
  dsimp only
  split <;> simp
theorem foldW_gap {g : Tx} (hg : ∀ c ∈ g, c ∉ WS) (h0 : g ≠ []) : ∀ st : List Tx × Tx, g.foldl stepW st = (finW st, []) := by
  have key : ∀ (g : Tx), (∀ c ∈ g, c ∉ WS) → ∀ f : List Tx, g.foldl stepW (f, []) = (f, []) := by
    intro g
    induction g with
    | nil => intro _ f; rfl
    | cons c g ih =>
      intro h f
      have hc : c ∉ WS := h c (List.mem_cons_self ..)
      rw [List.foldl_cons]
      have e : stepW (f, []) c = (f, []) := by unfold stepW; simp [hc]
      rw [e]
      exact ih (fun d hd => h d (List.mem_cons_of_mem _ hd)) f
  cases g with
  | nil => exact absurd rfl h0
  | cons c g =>
    intro st
    have hc : c ∉ WS := hg c (List.mem_cons_self ..)
    rw [List.foldl_cons]
    have e : stepW st c = (finW st, []) := by
      unfold stepW finW
      rw [if_neg hc]
      split <;> rfl
    rw [e]
    exact key g (fun d hd => hg d (List.mem_cons_of_mem _ hd)) _
theorem wordsL_gap {x g y : Tx} (hg : ∀ c ∈ g, c ∉ WS) (h0 : g ≠ []) : wordsL (x ++ g ++ y) = wordsL x ++ wordsL y := by
  unfold wordsL
  rw [List.foldl_append, List.foldl_append, foldW_gap hg h0]
  generalize finW (x.foldl stepW ([], [])) = f
  have := foldW_pre y f [] []
  rw [List.append_nil] at this
  rw [this, finW_pre]
theorem wordsL_nil : wordsL [] = [] := rfl
theorem wordsL_gap0 {g y : Tx} (hg : ∀ c ∈ g, c ∉ WS) (h0 : g ≠ []) : wordsL (g ++ y) = wordsL y := by
  have := wordsL_gap (x := []) (y := y) hg h0
  simpa [wordsL_nil] using this
theorem wordsL_gap1 {x g : Tx} (hg : ∀ c ∈ g, c ∉ WS) (h0 : g ≠ []) : wordsL (x ++ g) = wordsL x := by
  have := wordsL_gap (x := x) (y := []) hg h0
  simpa [wordsL_nil] using this
/-- a run without a gap -/
theorem foldW_run {x : Tx} (hx : ∀ c ∈ x, c ∈ WS) : ∀ (f : List Tx) (r : Tx), r.length < 20 → (∀ p ∈ f, p.length = 20) →
    ∃ f' r', x.foldl stepW (f, r) = (f', r') ∧ f'.flatten ++ r' = f.flatten ++ r ++ x ∧ (∀ p ∈ f', p.length = 20) ∧ r'.length < 20 := by
  induction x with
  | nil => intro f r hr hf; exact ⟨f, r, rfl, by simp, hf, hr⟩
  | cons c x ih =>
    intro f r hr hf
    have hc : c ∈ WS := hx c (List.mem_cons_self ..)
    have ih := ih fun d hd => hx d (List.mem_cons_of_mem _ hd)
    rw [List.foldl_cons]
    unfold stepW
    rw [if_pos hc]
    by_cases hl : (r ++ [c]).length = 20
    · rw [if_pos hl]
      obtain ⟨f', r', e, h1, h2, h3⟩ := ih (f ++ [r ++ [c]]) [] (by simp) (fun p hp => by
        rcases List.mem_append.mp hp with hp | hp
        · exact hf p hp
        · rw [List.mem_singleton.mp hp]; exact hl)
      exact ⟨f', r', e, by rw [h1]; simp, h2, h3⟩
    · rw [if_neg hl]
      have hl' : (r ++ [c]).length < 20 := by simp at hl ⊢; omega
      obtain ⟨f', r', e, h1, h2, h3⟩ := ih f (r ++ [c]) hl' hf
      exact ⟨f', r', e, by rw [h1]; simp, h2, h3⟩
theorem flat_len {f : List Tx} (h : ∀ p ∈ f, p.length = 20) : f.flatten.length = 20 * f.length := by
  induction f with
  | nil => rfl
  | cons p f ih =>
    rw [List.flatten_cons, List.length_append, List.length_cons, h p (List.mem_cons_self ..), ih fun q hq => h q (List.mem_cons_of_mem _ hq)]
    omega
/-- what the pieces of a run are -/
theorem wordsL_run {x : Tx} (hx : ∀ c ∈ x, c ∈ WS) (h0 : x ≠ []) : ∃ f l, wordsL x = f ++ [l] ∧ (f ++ [l]).flatten = x ∧ (∀ p ∈ f, p.length = 20) ∧ 1 ≤ l.length ∧ l.length ≤ 20 ∧ (f.length + 1) = (x.length + 19) / 20 := by
  obtain ⟨f, r, e, h1, h2, h3⟩ := foldW_run hx [] [] (by simp) (by simp)
  have hlen := congrArg List.length h1
  simp only [List.flatten_nil, List.nil_append, List.length_append, flat_len h2] at hlen
  have hx0 := List.length_pos_iff.mpr h0
  unfold wordsL
  rw [e]
  unfold finW
  by_cases hr : r = []
  · subst hr
    rw [if_pos rfl]
    simp only [List.length_nil, Nat.add_zero] at hlen
    have hf : f ≠ [] := by rintro rfl; simp at hlen; omega
    have ef := (List.dropLast_concat_getLast hf).symm
    refine ⟨f.dropLast, f.getLast hf, ef, by rw [← ef]; simpa using h1, fun p hp => h2 p ((List.dropLast_sublist f).subset hp), by rw [h2 _ (List.getLast_mem hf)]; decide, by rw [h2 _ (List.getLast_mem hf)]; decide, ?_⟩
    have := List.length_pos_iff.mpr hf
    rw [List.length_dropLast]
    omega
  · rw [if_neg hr]
    have hr0 := List.length_pos_iff.mpr hr
    exact ⟨f, r, rfl, by rw [List.flatten_append]; simpa using h1, h2, hr0, by omega, by omega⟩
theorem wordsL_word {w : Tx} (hw : ∀ c ∈ w, c ∈ WS) (h0 : w ≠ []) (hl : w.length ≤ 20) : wordsL w = [w] := by
  obtain ⟨f, l, e, h1, h2, h3, h4, h5⟩ := wordsL_run hw h0
  have hw0 := List.length_pos_iff.mpr h0
  have hf : f = [] := List.length_eq_zero_iff.mp (by omega)
  subst hf
  rw [e]
  simp at h1
  rw [h1]; rfl
theorem wordsL_row {g : Tx} (hg : ∀ c ∈ g, c ∉ WS) (h0 : g ≠ []) : ∀ ws : List Tx, (∀ w ∈ ws, (∀ c ∈ w, c ∈ WS) ∧ w ≠ [] ∧ w.length ≤ 20) → wordsL (joinT g ws) = ws
  | [], _ => rfl
  | [w], h => by
    obtain ⟨h1, h2, h3⟩ := h w (List.mem_cons_self ..)
    exact wordsL_word h1 h2 h3
  | w :: v :: r, h => by
    obtain ⟨h1, h2, h3⟩ := h w (List.mem_cons_self ..)
    show wordsL (w ++ g ++ joinT g (v :: r)) = _
    rw [wordsL_gap hg h0, wordsL_word h1 h2 h3, wordsL_row hg h0 (v :: r) fun u hu => h u (List.mem_cons_of_mem _ hu)]
    rfl
theorem joinT_nil : ∀ ws : List Tx, joinT [] ws = ws.flatten
  | [] => rfl
  | [w] => by simp [joinT]
  | w :: v :: r => by
    show w ++ [] ++ joinT [] (v :: r) = _
    rw [joinT_nil (v :: r)]; simp
theorem joinT_len (g : Tx) : ∀ ws : List Tx, (joinT g ws).length ≤ (ws.map List.length).sum + g.length * ws.length
  | [] => by simp [joinT]
  | [w] => by simp [joinT]
  | w :: v :: r => by
    have ih := joinT_len g (v :: r)
    show (w ++ g ++ joinT g (v :: r)).length ≤ _
    simp only [List.length_append, List.map_cons, List.sum_cons, List.length_cons] at ih ⊢
    have : g.length * (r.length + 1 + 1) = g.length * (r.length + 1) + g.length := by rw [Nat.mul_add, Nat.mul_one]
    omega
theorem lo_lo (c : Nat) : lo1 (lo1 c) = lo1 c := by
  unfold lo1 PyProof.Rows.lo1
  split
  · rw [if_neg (by omega)]
  · rfl
theorem lo_up (c : Nat) : lo1 (up1 c) = lo1 c := by
  unfold lo1 up1 PyProof.Rows.lo1 PyProof.Rows.up1
  split
  · split <;> split <;> omega
  · rfl
theorem lo_ascii {c : Nat} (h : c < 128) : lo1 c < 128 := by
  unfold lo1 PyProof.Rows.lo1
  split <;> omega
theorem up_ascii {c : Nat} (h : c < 128) : up1 c < 128 := by
  unfold up1 PyProof.Rows.up1
  split <;> omega
theorem map_lo_lo (x : Tx) : (x.map lo1).map lo1 = x.map lo1 := by rw [List.map_map]; exact List.map_congr_left fun c _ => lo_lo c
theorem map_lo_up (x : Tx) : (x.map up1).map lo1 = x.map lo1 := by rw [List.map_map]; exact List.map_congr_left fun c _ => lo_up c
theorem words_lo (x : Tx) : wordsT (x.map lo1) = wordsT x := by unfold wordsT; rw [map_lo_lo]
theorem words_up (x : Tx) : wordsT (x.map up1) = wordsT x := by unfold wordsT; rw [map_lo_up]
theorem ws_ascii : ∀ c ∈ WS, c < 128 := by decide +kernel
/-! ### lists of texts compared -/
theorem pys_strs (xs : List Tx) : D.pys (xs.map D.str) = some (xs.map fun x => PyData.str (toS x)) := by
  induction xs with
  | nil => rfl
  | cons n ns ih => simp [D.pys, D.py, ih]
theorem strOk_ascii {x : Tx} (h : ∀ c ∈ x, c < 128) : PyData.canLay0 (.str (toS x)) = true := by
  simp only [PyData.canLay0, PyData.strOk, toS]
  simp only [List.all_toArray, List.all_eq_true, decide_eq_true_eq]
  intro c hc
  have := h c hc
  omega
theorem shaped_strs {xs : List Tx} (h : ∀ x ∈ xs, ∀ c ∈ x, c < 128) : SeqAt.shaped (.list (xs.map fun x => PyData.str (toS x))) = true := by
  have h1 : PyData.canLayAll0 (xs.map fun x => PyData.str (toS x)) = true := by
    induction xs with
    | nil => simp [PyData.canLayAll0]
    | cons x xs ih =>
      rw [List.map_cons]
      simp only [PyData.canLayAll0, strOk_ascii (h x (List.mem_cons_self ..)), ih fun y hy => h y (List.mem_cons_of_mem _ hy), Bool.and_self]
  have h2 : PyData.depthAll (xs.map fun x => PyData.str (toS x)) = 0 := by
    clear h h1
    induction xs with
    | nil => simp [PyData.depthAll]
    | cons x xs ih => rw [List.map_cons]; simp [PyData.depthAll, PyData.depth, ih]
  simp [SeqAt.shaped, PyData.canLay0, PyData.depth, h1, h2]
theorem eqv_strs : ∀ xs ys : List Tx, PyData.eqvAll (xs.map fun x => PyData.str (toS x)) (ys.map fun x => PyData.str (toS x)) = decide (xs = ys)
  | [], [] => by simp [PyData.eqvAll]
  | [], _ :: _ => by simp [PyData.eqvAll]
  | _ :: _, [] => by simp [PyData.eqvAll]
  | x :: xs, y :: ys => by
    rw [List.map_cons, List.map_cons]
    simp only [PyData.eqvAll, PyData.eqv, eqv_strs xs ys]
    by_cases e : x = y
    · subst e; simp
    · have n : ¬ toS x = toS y := fun z => e (toS_inj z)
      simp [e, n]
theorem eq_strs (neg : Bool) {xs ys : List Tx} (hx : ∀ x ∈ xs, ∀ c ∈ x, c < 128) (hy : ∀ x ∈ ys, ∀ c ∈ x, c < 128) :
    gEq neg (.lst (xs.map .str)) (.lst (ys.map .str)) = some (tb (decide (xs = ys) != neg)) := by
  simp [gEq, eqS, eqP, D.py, pys_strs, shaped_strs hx, shaped_strs hy, PyData.eqv, eqv_strs]
theorem wordsL_mem {y : Tx} : ∀ w ∈ wordsL y, ∀ c ∈ w, c ∈ WS := by
  have key : ∀ (y : Tx) (st : List Tx × Tx), (∀ w ∈ st.1, ∀ c ∈ w, c ∈ WS) → (∀ c ∈ st.2, c ∈ WS) → (∀ w ∈ (y.foldl stepW st).1, ∀ c ∈ w, c ∈ WS) ∧ ∀ c ∈ (y.foldl stepW st).2, c ∈ WS := by
    intro y
    induction y with
    | nil => intro st h1 h2; exact ⟨h1, h2⟩
    | cons c y ih =>
      intro st h1 h2
      rw [List.foldl_cons]
      have app : ∀ d ∈ st.2 ++ [c], c ∈ WS → d ∈ WS := fun d hd hc => by
        rcases List.mem_append.mp hd with hd | hd
        · exact h2 d hd
        · rw [List.mem_singleton.mp hd]; exact hc
      refine ih _ ?_ ?_
      · unfold stepW
        split
        · rename_i hc
          split
          · intro w hw
            rcases List.mem_append.mp hw with hw | hw
            · exact h1 w hw
            · rw [List.mem_singleton.mp hw]; exact fun d hd => app d hd hc
          · exact h1
        · split
          · exact h1
          · intro w hw
            rcases List.mem_append.mp hw with hw | hw
            · exact h1 w hw
            · rw [List.mem_singleton.mp hw]; exact h2
      · unfold stepW
        split
        · rename_i hc
          split
          · simp
          · exact fun d hd => app d hd hc
        · split <;> simp
  obtain ⟨h1, h2⟩ := key y ([], []) (by simp) (by simp)
  intro w hw
  unfold wordsL finW at hw
  split at hw
  · exact h1 w hw
  · rcases List.mem_append.mp hw with hw | hw
    · exact h1 w hw
    · rw [List.mem_singleton.mp hw]; exact h2
theorem words_ascii {x : Tx} : ∀ w ∈ wordsT x, ∀ c ∈ w, c < 128 := fun w hw c hc => ws_ascii c (wordsL_mem w hw c hc)
theorem joinT_mem {g : Tx} {c : Nat} : ∀ {ws : List Tx}, c ∈ joinT g ws → c ∈ g ∨ ∃ w ∈ ws, c ∈ w
  | [], h => by simp [joinT] at h
  | [w], h => .inr ⟨w, by simp, h⟩
  | w :: v :: r, h => by
    have h : c ∈ w ++ g ++ joinT g (v :: r) := h
    rcases List.mem_append.mp h with h | h
    · rcases List.mem_append.mp h with h | h
      · exact .inr ⟨w, by simp, h⟩
      · exact .inl h
    · rcases joinT_mem h with h | ⟨u, hu, h⟩
      · exact .inl h
      · exact .inr ⟨u, List.mem_cons_of_mem _ hu, h⟩
theorem ws_lo : ∀ c ∈ WS, lo1 c = c := by decide +kernel
theorem map_id_of {x : Tx} {f : Nat → Nat} (h : ∀ c ∈ x, f c = c) : x.map f = x := by
  induction x with
  | nil => rfl
  | cons c x ih => rw [List.map_cons, h c (List.mem_cons_self ..), ih fun d hd => h d (List.mem_cons_of_mem _ hd)]
theorem words_len (x : Tx) : (wordsT x).length ≤ x.length + 1 := by
  have h := foldW_len (x.map lo1) ([], [])
  unfold wordsT wordsL finW
  rw [List.length_map] at h
  simp only [List.length_nil, Nat.zero_add] at h
  split
  · omega
  · rw [List.length_append, List.length_singleton]; omega
theorem cut_last {α : Type} (f : List α) (l : α) : cutD (f ++ [l]) none (some (-1)) = f := by
  unfold cutD HT.sIx
  simp only [List.length_append, List.length_singleton]
  have : ((-1 : Int) + ((f.length + 1 : Nat) : Int)).toNat = f.length := by omega
  rw [if_pos (by decide), this]
  simp
theorem atI_last {α : Type} (f : List α) (l : α) : L2.atI (f ++ [l]) (-1) = some l := by
  unfold L2.atI ixN
  have h1 : ¬ (0 : Int) ≤ -1 := by decide
  have h2 : -(((f ++ [l]).length : Nat) : Int) ≤ -1 := by simp; omega
  rw [if_neg h1, if_pos h2]
  have : (-1 + (((f ++ [l]).length : Nat) : Int)).toNat = f.length := by simp; omega
  rw [this]
  simp
end FL

/-! Part Y: how long a repr is; what is equal to itself; letters in lists. -/
namespace FL
open PySem L2
abbrev piles (ts : List Str) : Nat := (ts.map fun t => t.length + 2).sum
theorem join_len : ∀ ts : List Str, (Str.join ", " ts).length ≤ piles ts
  | [] => by decide
  | [x] => by simp [Str.join, piles]
  | x :: y :: r => by
    have ih := join_len (y :: r)
    show (x ++ (", " : Str) ++ Str.join ", " (y :: r)).length ≤ _
    rw [strLen_append, strLen_append]
    have e : ((", " : Str)).length = 2 := by decide
    simp only [piles, List.map_cons, List.sum_cons] at ih ⊢
    omega
theorem tup_len (ts : List Str) : (tupleText ts).length ≤ 3 + piles ts := by
  unfold tupleText
  rw [strLen_append, strLen_append]
  have h1 := join_len ts
  have h2 : (("(" : Str)).length = 1 := by decide
  have h3 : (Str.ofString (if ts.length == 1 then ",)" else ")" : String)).length ≤ 2 := by split <;> decide
  have h3' : ((if ts.length == 1 then ",)" else ")" : String) : Str).length ≤ 2 := h3
  omega
theorem from_len : ∀ (ts : List Str) (k : Nat) (acc : Str), (textFrom k acc ts).length ≤ acc.length + piles ts
  | [], _, acc => by simp [textFrom, piles]
  | t :: ts, k, acc => by
    have ih := from_len ts (k + 1) (acc ++ (if k > 0 then ", " else "" : String) ++ t)
    rw [strLen_append, strLen_append] at ih
    have h : ((if k > 0 then ", " else "" : String) : Str).length ≤ 2 := by split <;> decide
    show (textFrom (k + 1) _ ts).length ≤ _
    simp only [piles, List.map_cons, List.sum_cons] at ih ⊢
    omega
theorem lst_len (ts : List Str) : (listText ts).length ≤ 2 + piles ts := by
  unfold listText
  rw [strLen_append]
  have h1 := from_len ts 0 "["
  have h2 : (("[" : Str)).length = 1 := by decide
  have h3 : (("]" : Str)).length = 1 := by decide
  omega
def Sh (d n : Nat) (x : D) : Prop := ∃ q, D.py x = some q ∧ PyData.showable q = true ∧ PyData.hasDict q = false ∧ PyData.canLay0 q = true ∧ q.depth ≤ d ∧ (PyData.shown q).length ≤ n
theorem Sh.mono {d n e m : Nat} {x : D} (h : Sh d n x) (h1 : d ≤ e) (h2 : n ≤ m) : Sh e m x :=
  let ⟨q, a, b, c, l, g, k⟩ := h
  ⟨q, a, b, c, l, Nat.le_trans g h1, Nat.le_trans k h2⟩
theorem Sh.all {d n : Nat} : ∀ {xs : List D}, (∀ x ∈ xs, Sh d n x) → ∃ qs, D.pys xs = some qs ∧ PyData.showableAll qs = true ∧ PyData.hasDictAll qs = false ∧ PyData.canLayAll0 qs = true ∧ PyData.depthAll qs ≤ d ∧ piles (PyData.shownAll qs) ≤ xs.length * (n + 2)
  | [], _ => ⟨[], by simp [D.pys, PyData.showableAll, PyData.hasDictAll, PyData.canLayAll0, PyData.depthAll, PyData.shownAll, piles]⟩
  | x :: xs, h => by
    obtain ⟨q, a1, b1, c1, l1, g1, k1⟩ := h x (List.mem_cons_self ..)
    obtain ⟨qs, a2, b2, c2, l2, g2, k2⟩ := Sh.all (xs := xs) fun y hy => h y (List.mem_cons_of_mem _ hy)
    refine ⟨q :: qs, by simp [D.pys, a1, a2], by simp [PyData.showableAll, b1, b2], by simp [PyData.hasDictAll, c1, c2], by simp [PyData.canLayAll0, l1, l2], by simp only [PyData.depthAll]; omega, ?_⟩
    simp only [PyData.shownAll, piles, List.map_cons, List.sum_cons, List.length_cons, Nat.add_mul] at k2 ⊢
    omega
theorem Sh.tup {d n : Nat} {xs : List D} (h : ∀ x ∈ xs, Sh d n x) : Sh (d + 1) (3 + xs.length * (n + 2)) (.tup xs) := by
  obtain ⟨qs, a, b, c, l, g, k⟩ := Sh.all h
  refine ⟨.tuple qs, by simp [D.py, a], by simpa [PyData.showable] using b, by simpa [PyData.hasDict] using c, by simpa [PyData.canLay0] using l, by simp only [PyData.depth]; omega, ?_⟩
  have := tup_len (PyData.shownAll qs)
  simp only [PyData.shown]
  omega
theorem Sh.lst {d n : Nat} {xs : List D} (h : ∀ x ∈ xs, Sh d n x) : Sh (d + 1) (2 + xs.length * (n + 2)) (.lst xs) := by
  obtain ⟨qs, a, b, c, l, g, k⟩ := Sh.all h
  refine ⟨.list qs, by simp [D.py, a], by simpa [PyData.showable] using b, by simpa [PyData.hasDict] using c, by simpa [PyData.canLay0] using l, by simp only [PyData.depth]; omega, ?_⟩
  have := lst_len (PyData.shownAll qs)
  simp only [PyData.shown]
  omega
theorem small_int : ∀ k : Fin 100, PyData.showable (.int (k.val : Nat)) = true ∧ (PyData.shown (.int (k.val : Nat))).length ≤ 2 := by decide +kernel
theorem Sh.int {i : Int} (h0 : 0 ≤ i) (h1 : i < 100) : Sh 0 2 (.int i) := by
  have := small_int ⟨i.toNat, by omega⟩
  have e : ((i.toNat : Nat) : Int) = i := by omega
  simp only [e] at this
  exact ⟨.int i, rfl, this.1, by simp [PyData.hasDict], by simp [PyData.canLay0], by simp [PyData.depth], this.2⟩
theorem small_str : ∀ k : Fin 26, (PyData.shown (.str (toS [97 + k.val]))).length ≤ 3 := by decide +kernel
theorem Sh.letter {c : Nat} (h0 : 97 ≤ c) (h1 : c < 123) : Sh 0 3 (.str [c]) := by
  have := small_str ⟨c - 97, by omega⟩
  have e : 97 + (c - 97) = c := by omega
  simp only [e] at this
  exact ⟨.str (toS [c]), rfl, by simp [PyData.showable], by simp [PyData.hasDict], by simp only [PyData.canLay0]; exact strOk_ascii fun x hx => by simp at hx; omega, by simp [PyData.depth], this⟩
theorem Sh.rep {d n : Nat} {x : D} (h : Sh d n x) (h1 : d ≤ 64) (h2 : n ≤ 16777216) : ∃ t, gRepr [x] = some (.fr (.str t)) := by
  obtain ⟨q, a, b, c, l, g, k⟩ := h
  have k' : (PyData.shown q).length ≤ 16777216 := by omega
  have g' : q.depth ≤ 64 := by omega
  exact ⟨_, by simp only [gRepr, a, b, c]; rw [if_pos (by simp [k', g'])]⟩
theorem Sh.same {d n : Nat} {x : D} (neg : Bool) (h : Sh d n x) (h1 : d ≤ 64) (h2 : eqS x x = none) : gEq neg x x = some (tb (true != neg)) := by
  obtain ⟨q, a, b, c, l, g, k⟩ := h
  have s : SeqAt.shaped q = true := by
    unfold SeqAt.shaped
    rw [l, decide_eq_true (show q.depth ≤ 64 by omega)]
    rfl
  simp [gEq, h2, eqP, a, s, SeqAt.eqv_refl q l]
/-! ### letters -/
abbrev letD (c : Nat) : D := .str [c]
theorem fvs_let : ∀ cs : List Nat, fvs (cs.map letD) = some (cs.map fun c => V.str (toS [c]))
  | [] => rfl
  | c :: cs => by
    rw [List.map_cons]
    simp only [fvs, D.fv, fvs_let cs, List.map_cons]
theorem inV_let (c : Nat) : ∀ cs : List Nat, inV (.str (toS [c])) (cs.map fun c => V.str (toS [c])) = decide (c ∈ cs) := by
  intro cs
  induction cs with
  | nil => rfl
  | cons d cs ih =>
    unfold inV at ih ⊢
    rw [List.map_cons, List.any_cons, ih]
    have e : eqV (.str (toS [d])) (.str (toS [c])) = decide (c = d) := by
      show decide (toS [d] = toS [c]) = _
      by_cases h : c = d
      · subst h; simp
      · have n : ¬ toS [d] = toS [c] := fun z => h (by have := toS_inj z; simp at this; exact this.symm)
        rw [decide_eq_false h, decide_eq_false n]
    rw [e]
    by_cases h1 : c = d <;> by_cases h2 : c ∈ cs <;> simp [h1, h2] <;> (try subst h1) <;> simp [h2]
theorem in_let (neg : Bool) (c : Nat) (cs : List Nat) : gIn neg (letD c) (.lst (cs.map letD)) = some (tb (decide (c ∈ cs) != neg)) := by
  have h := fvs_let cs
  simp only [gIn, gInS, gInL, D.fv, h, inV_let, Option.or]
theorem ix_let {cs : List Nat} {c : Nat} (hc : c ∈ cs) (ha : ∀ x ∈ cs, x < 128) : gIndex (.lst (cs.map letD)) [letD c] = some (.fr (.int (cs.idxOf c : Nat))) := by
  have p1 : D.pys (cs.map letD) = some (cs.map fun x => PyData.str (toS [x])) := by
    have := pys_strs (cs.map fun x => [x])
    simpa [List.map_map, Function.comp_def] using this
  have s1 : SeqAt.shaped (.list (cs.map fun x => PyData.str (toS [x]))) = true := by
    have := shaped_strs (xs := cs.map fun x => [x]) (fun x hx d hd => by
      obtain ⟨y, hy, rfl⟩ := List.mem_map.mp hx
      rw [List.mem_singleton.mp hd]
      exact ha y hy)
    simpa [List.map_map, Function.comp_def] using this
  have s2 : SeqAt.shaped (.str (toS [c])) = true := by
    unfold SeqAt.shaped
    rw [show PyData.canLay0 (.str (toS [c])) = true from by simp only [PyData.canLay0]; exact strOk_ascii fun x hx => by simp at hx; rw [hx]; exact ha c hc]
    rfl
  have f1 : (cs.map fun x => PyData.str (toS [x])).findIdx? (fun z => PyData.eqv z (.str (toS [c]))) = some (cs.idxOf c) := by
    rw [List.findIdx?_map]
    have e : ((fun z => PyData.eqv z (.str (toS [c]))) ∘ fun x => PyData.str (toS [x])) = fun x => x == c := by
      funext x
      show PyData.eqv (.str (toS [x])) (.str (toS [c])) = (x == c)
      rw [show PyData.eqv (.str (toS [x])) (.str (toS [c])) = (toS [x] == toS [c]) from rfl]
      by_cases h : x = c
      · subst h; simp
      · have n : ¬ toS [x] = toS [c] := fun z => h (by have := toS_inj z; simpa using this)
        rw [beq_eq_false_iff_ne.mpr n, beq_eq_false_iff_ne.mpr h]
    rw [e]
    have := List.findIdx?_eq_some_of_exists (xs := cs) (p := fun x => x == c) ⟨c, hc, by simp⟩
    rw [this]
    rfl
  unfold gIndex
  simp only [p1, D.py, s1, s2, f1]
  rfl
end FL

/-! Part Fs: f-strings of texts and ints. -/
namespace FL
open PySem PySem.Spec PyProof.Rows L2
/-- the text of an int -/
def intT (i : Int) : Tx := (toString i : Str).cps.toList
theorem intT_toS (i : Int) : toS (intT i) = (toString i : Str) := by simp [intT, toS]
/-- {x} -/
def mFmt (m : ME) : ME := fun δ μ => (m δ μ).bind fun s δ1 μ1 => match s.d with
  | .str y => if y.length ≤ 16777216 then .ok (.fr (.str y)) δ1 μ1 else .bad
  | .int i => if i.natAbs.log2 < 1920 then .ok (.fr (.str (intT i))) δ1 μ1 else .bad
  | _ => .bad
def joinM : List ME → Tx → ME
  | [], acc => fun δ μ => .ok (.fr (.str acc)) δ μ
  | m :: ms, acc => fun δ μ => (m δ μ).bind fun s δ1 μ1 => match s.d with
    | .str y => if (acc ++ y).length ≤ 16777216 then joinM ms (acc ++ y) δ1 μ1 else .bad
    | _ => .bad
/-- f'..' -/
def mJoined (ms : List ME) : ME := joinM ms []
inductive JFs (X : Cx) (W : WX) : List Expr → List ME → Prop where
  | nil : JFs X W [] []
  | cons {e : Expr} {m : ME} {es : List Expr} {ms : List ME} (h : JE X W e m) (r : JFs X W es ms) : JFs X W (e :: es) (m :: ms)
section
variable {X : Cx} {W : WX} {e v1 v2 : Expr} {es rest : List Expr} {pos : Pos} {m : ME} {ms : List ME}
theorem je_fmt (he : JE X W e m) : JE X W (.FormattedValue e (-1) none pos) (mFmt m) := by
  refine (pe_fmt he.locked).imp fun σ H Q ⟨Z, F, ρ, μ, δ, S, q⟩ => ⟨Z, F, ρ, μ, δ, S, (FinE.bind q).imp fun s δ1 μ1 H1 F1 ρ1 l lr S1 ⟨_, _, _, z⟩ v rv => ?_⟩
  generalize s.d = d at z rv
  cases rv with
  | @str y =>
    have z : FinE X W Z F1 ρ1 σ _ (if y.length ≤ 16777216 then Out.ok (Slot.fr (.str y)) δ1 μ1 else .bad) := z
    by_cases c : y.length ≤ 16777216
    · rw [if_pos c] at z
      exact .inl ⟨_, rfl, by rw [line_eq]; simpa [toS, Str.length] using c, z H1 F1 ρ1 .refl .refl S1 _ (VR.fr' .str)⟩
    · rw [if_neg c] at z; exact z.elim
  | @int i =>
    have z : FinE X W Z F1 ρ1 σ _ (if i.natAbs.log2 < 1920 then Out.ok (Slot.fr (.str (intT i))) δ1 μ1 else .bad) := z
    by_cases c : i.natAbs.log2 < 1920
    · rw [if_pos c] at z
      refine .inr ⟨i, rfl, c, ?_⟩
      rw [← intT_toS]
      exact z H1 F1 ρ1 .refl .refl S1 _ (VR.fr' .str)
    · rw [if_neg c] at z; exact z.elim
  | _ => exact z.elim
theorem pj_of : ∀ {es : List Expr} {ms : List ME}, JFs X W es ms → PJ X es (ms.map fun m σ H Q => ∃ Z F ρ μ δ, Sim X.K X.mg Z F ρ μ δ σ H ∧ FinE X W Z F ρ σ (fun s δ' μ' F' ρ' H' => ∀ v, Rep X.K X.mg F' ρ' v s.d → Q v H') (m δ μ))
  | _, _, .nil => .nil
  | _, _, .cons h r => .cons h.locked (pj_of r)
theorem js_read : ∀ (ms : List ME) (acc : Tx) (Z F : Hp) (ρ : List Addr) (μ : Mem) (δ : FL.Loc) (σ : L2.St) (H : Hp) (Q : VK), Sim X.K X.mg Z F ρ μ δ σ H → FinE X W Z F ρ σ (fun s δ' _ F' ρ' H' => ∀ v, VR X.K X.mg Z F' ρ' δ' σ H' v s → Q v H') (joinM ms acc δ μ) →
    tJs (ms.map fun m σ H Q => ∃ Z F ρ μ δ, Sim X.K X.mg Z F ρ μ δ σ H ∧ FinE X W Z F ρ σ (fun s δ' μ' F' ρ' H' => ∀ v, Rep X.K X.mg F' ρ' v s.d → Q v H') (m δ μ)) (toS acc) σ H fun out H1 => Q (.str out) H1
  | [], acc, Z, F, ρ, μ, δ, σ, H, Q, S, q => q H F ρ .refl .refl S _ (VR.fr' .str)
  | m :: ms, acc, Z, F, ρ, μ, δ, σ, H, Q, S, q => by
    refine ⟨Z, F, ρ, μ, δ, S, (FinE.bind q).imp fun s δ1 μ1 H1 F1 ρ1 l lr S1 ⟨_, _, _, z⟩ v rv => ?_⟩
    generalize s.d = d at z rv
    cases rv with
    | @str y =>
      have z : FinE X W Z F1 ρ1 σ (fun s δ' _ F' ρ' H' => ∀ v, VR X.K X.mg Z F' ρ' δ' σ H' v s → Q v H') (if (acc ++ y).length ≤ 16777216 then joinM ms (acc ++ y) δ1 μ1 else .bad) := z
      by_cases c : (acc ++ y).length ≤ 16777216
      · rw [if_pos c] at z
        have e : toS acc ++ toS y = toS (acc ++ y) := by
          show (⟨_⟩ : Str) = _
          simp [toS]
        refine ⟨_, rfl, ?_, ?_⟩
        · rw [e, line_eq]; simpa [toS, Str.length] using c
        · rw [e]
          exact js_read ms (acc ++ y) Z F1 ρ1 μ1 δ1 σ H1 Q S1 z
      · rw [if_neg c] at z; exact z.elim
    | _ => exact z.elim
theorem je_joined (h : JFs X W (v1 :: v2 :: rest) ms) : JE X W (.JoinedStr (v1 :: v2 :: rest) pos) (mJoined ms) :=
  (pe_joined (pj_of h)).imp fun σ H Q ⟨Z, F, ρ, μ, δ, S, q⟩ => js_read ms [] Z F ρ μ δ σ H Q S q
end
end FL

/-! Part Ft: str(int), tuples of texts that stand at the top. -/
namespace FL
open PySem PySem.Spec PyProof.Rows L2
/-- str(i) -/
def gStrI : List D → Option Slot
  | [.int i] => if i.natAbs.log2 < 1920 then some (.fr (.str (intT i))) else none
  | _ => none
abbrev rStrI : List V → Hp → VK → Prop := fun xs H Q => ∃ i, xs = [.int i] ∧ i.natAbs.log2 < 1920 ∧ Q (.str (toString i)) H
section
variable {X : Cx} {W : WX} {k : Nat} {N : List Str} {sc : Scope} {x : Str} {pos : Pos}
theorem j_strI : RLJ X rStrI gStrI := by
  intro Z F ρ μ δ σ H xs ds s Q S b e q
  unfold gStrI at e
  split at e
  · rename_i i
    by_cases c : i.natAbs.log2 < 1920
    · rw [if_pos c] at e
      cases e
      obtain ⟨v, rfl, hb⟩ := b.one
      cases hb.int
      refine ⟨i, rfl, c, ?_⟩
      rw [← intT_toS]
      exact q _ H F .refl S (VR.fr' .str)
    · rw [if_neg c] at e; cases e
  · cases e
/-- a tuple of texts at the top -/
def TupS (K : PySem.W.Frag) (mg : Str → Option Value) (x : Str) (xs : List Tx) : Prop :=
  ∃ (a : Addr) (o : Obj) (its : List Value) (n : Nat), mg x = some (.ref a) ∧ K.lookup a = some o ∧ o.cls = .type "tuple" ∧ o.data = .seq its.toArray n ∧ StrsAre its (xs.map toS) ∧ xs.length ≤ sizeLine
theorem vals_tx : ∀ {its : List Value} {xs : List Tx}, StrsAre its (xs.map toS) → Vals ((xs.map toS).map V.str) its
  | [], [], _ => .nil
  | _ :: _, x :: xs, h => by
    cases h with
    | cons y t r => exact .cons ⟨t, rfl⟩ (vals_tx r)
  | [], _ :: _, h => by cases h
  | _ :: _, [], h => by cases h
/-- .. read by its name -/
theorem Cs.gTupS {xs : List Tx} (C : Cs X W k N sc) (h : glC sc x = true) (hm : TupS X.K X.mg x xs) : JE X W (.Name x pos) (mD (.tup (xs.map .str))) := by
  obtain ⟨g1, g2, g3⟩ := C.gl h
  obtain ⟨a, o, its, n, e1, e2, e3, e4, e5, e6⟩ := hm
  refine je_mod g1 e1 (v := .ref a) rfl (fun F ρ => .tup (vs := (xs.map toS).map V.str) (.inr ⟨o, its.toArray, n, e2, e3, e4, ?_, by simpa using vals_tx e5⟩) (RepL.ofStrs _)) g2
  have l := (vals_tx e5).length
  rw [List.length_map, List.length_map] at l
  rw [List.size_toArray, ← l]
  exact e6
end
end FL

/-! Part Cv: tests of the written part, and what they say. -/
namespace FL
open PySem PySem.Spec PyProof.Rows L2
section
variable {K : PySem.W.Frag} {c f s : Str}
/-- a field of the instances of c -/
def tFld (c f : Str) (K : PySem.W.Frag) : Bool := (He.Fa.cls c).ok K && (He.Fa.noat c f).ok K
theorem tFld_ok (h : tFld c f K = true) : Cls K (He.ga K c) ∧ NoAttr K (He.ga K c) f :=
  let ⟨a, b⟩ := Bool.and_eq_true_iff.mp h
  ⟨He.cls_ok a, He.noat_ok b⟩
/-- a constant of the class c, a text -/
def tCon (c f s : Str) (K : PySem.W.Frag) : Bool := (He.Fa.cls c).ok K && (match PySem.W.findIn K (.ref (He.ga K c)) f with
  | some (some (.str y t)) => decide (y = s) && (decide (PySem.W.specialIn K (.str y t) "__get__" = some none) && !PySem.W.copiedNames.contains f)
  | _ => false)
theorem tCon_ok (h : tCon c f s K = true) : Cls K (He.ga K c) ∧ ∃ u, Con K (He.ga K c) f (.str s) u := by
  obtain ⟨a, b⟩ := Bool.and_eq_true_iff.mp h
  refine ⟨He.cls_ok a, ?_⟩
  split at b
  · rename_i y t e
    obtain ⟨b1, b2⟩ := Bool.and_eq_true_iff.mp b
    obtain ⟨b2, b3⟩ := Bool.and_eq_true_iff.mp b2
    have b1 := of_decide_eq_true b1
    subst b1
    exact ⟨_, e, ⟨t, rfl⟩, of_decide_eq_true b2, by simpa using b3⟩
  · cases b
/-- a property of the class c -/
def tPrp (c f : Str) (K : PySem.W.Frag) : Bool := (He.Fa.cls c).ok K && (decide (PySem.W.findIn K (.ref (He.ga K c)) f = some (some (.ref (He.ma K (He.ga K c) f)))) && (decide (PySem.W.specialIn K (.ref (He.ma K (He.ga K c) f)) "__get__" = some (some (.builtin "property.__get__"))) &&
  (decide (PySem.W.takesIn K (.ref (He.ma K (He.ga K c) f)) = some true) && (match PySem.W.recIn K (He.ma K (He.ga K c) f) "property" with
    | some (.ref _ :: _) => true
    | _ => false))))
theorem tPrp_ok (h : tPrp c f K = true) : Cls K (He.ga K c) ∧ PropOf K (He.ga K c) f (He.ma K (He.ga K c) f) (fAdF K (c, some f)) := by
  obtain ⟨a, b⟩ := Bool.and_eq_true_iff.mp h
  obtain ⟨b1, b⟩ := Bool.and_eq_true_iff.mp b
  obtain ⟨b2, b⟩ := Bool.and_eq_true_iff.mp b
  obtain ⟨b3, b⟩ := Bool.and_eq_true_iff.mp b
  refine ⟨He.cls_ok a, of_decide_eq_true b1, of_decide_eq_true b2, of_decide_eq_true b3, ?_⟩
  split at b
  · rename_i g r e
    refine ⟨r, ?_⟩
    rw [e]
    have : fAdF K (c, some f) = g := by
      unfold fAdF
      rw [show He.fAd K (c, some f) = He.ma K (He.ga K c) f from rfl, e]
    rw [this]
  · cases b
/-- a class's own def is what its name finds -/
def tInit (c f : Str) (K : PySem.W.Frag) : Bool := decide (fAdF K (c, some f) = He.ma K (He.ga K c) f)
theorem tInit_ok (h : tInit c f K = true) : fAdF K (c, some f) = He.ma K (He.ga K c) f := of_decide_eq_true h
/-- a tuple of texts at the top -/
def strsB : List Value → List Str → Bool
  | [], [] => true
  | .str y _ :: vs, x :: xs => decide (y = x) && strsB vs xs
  | _, _ => false
theorem strsB_ok : ∀ {vs : List Value} {xs : List Str}, strsB vs xs = true → StrsAre vs xs
  | [], [], _ => .nil
  | .str y t :: vs, x :: xs, h => by
    obtain ⟨a, b⟩ := Bool.and_eq_true_iff.mp (show (decide (y = x) && strsB vs xs) = true from h)
    have a := of_decide_eq_true a
    subst a
    exact .cons y t (strsB_ok b)
  | [], _ :: _, h => by cases h
  | v :: _, [], h => by cases v <;> cases h
def tTup (x : Str) (xs : List Str) (K : PySem.W.Frag) : Bool := match PySem.W.nsIn K mainGlobals x with
  | some (some (.ref a)) => (match K.lookup a with
    | some ⟨.type T, _, .seq its _, _⟩ => decide (T = "tuple") && (strsB its.toList xs && decide (xs.length ≤ 1000))
    | _ => false)
  | _ => false
theorem tTup_ok {h : Heap} {mg : Str → Option Value} {x : Str} {xs : List Tx} (X : K.In h) (G : h.Ns mainGlobals mg) (t : tTup x (xs.map toS) K = true) : TupS K mg x xs := by
  unfold tTup at t
  split at t
  · rename_i a e
    split at t
    · rename_i T od its n sl lk
      obtain ⟨t1, t2⟩ := Bool.and_eq_true_iff.mp t
      obtain ⟨t2, t3⟩ := Bool.and_eq_true_iff.mp t2
      have t1 := of_decide_eq_true t1
      subst t1
      refine ⟨a, _, its.toList, n, PySem.W.mg_of X G e, lk, rfl, rfl, strsB_ok t2, ?_⟩
      have t3 := of_decide_eq_true t3
      rw [List.length_map] at t3
      rw [line_eq]
      omega
    · cases t
  · cases t
/-- super() in the class D, at an instance of c, finds the f of the class B -/
def tSup (c D B f : Str) (K : PySem.W.Frag) : Bool := (match PySem.W.clsIn K (He.ga K c) with
  | some cd => decide (PySem.W.alongIn K f ((cd.mro.dropWhile (· != .ref (He.ga K D))).drop 1) = some (some (.ref (fAdF K (B, some f)))))
  | none => false) && ((match K.lookup (fAdF K (B, some f)) with
  | some ⟨.type T, _, _, _⟩ => decide (T = "function")
  | _ => false) && (PySem.W.fnIn K (fAdF K (B, some f)) && decide (PySem.W.mroIn K (He.ga K c) (.ref (He.ga K D)) = some true)))
theorem tSup_ok {D B : Str} (t : tSup c D B f K = true) : ∃ cdC og, PySem.W.clsIn K (He.ga K c) = some cdC ∧ PySem.W.alongIn K f ((cdC.mro.dropWhile (· != .ref (He.ga K D))).drop 1) = some (some (.ref (fAdF K (B, some f)))) ∧ K.lookup (fAdF K (B, some f)) = some og ∧ og.cls = .type "function" ∧
    PySem.W.fnIn K (fAdF K (B, some f)) = true ∧ PySem.W.mroIn K (He.ga K c) (.ref (He.ga K D)) = some true := by
  obtain ⟨t1, t2⟩ := Bool.and_eq_true_iff.mp t
  obtain ⟨t2, t3⟩ := Bool.and_eq_true_iff.mp t2
  obtain ⟨t3, t4⟩ := Bool.and_eq_true_iff.mp t3
  split at t1
  · rename_i cd e1
    split at t2
    · rename_i T od dt sl e2
      have t2 := of_decide_eq_true t2
      subst t2
      exact ⟨cd, _, e1, of_decide_eq_true t1, e2, rfl, t3, of_decide_eq_true t4⟩
    · cases t2
  · cases t1
/-- isinstance: an instance of c against the class d -/
def tIsa (c d : Str) (b : Bool) (K : PySem.W.Frag) : Bool := (He.Fa.cls c).ok K && (decide (PySem.W.findIn K (.ref (He.ga K c)) "__class__" = some (some (.builtin "object.__class__"))) && (decide (PySem.W.specialIn K (.builtin "object.__class__") "__get__" = some (some (.builtin "getset_descriptor.__get__"))) &&
  (decide (PySem.W.takesIn K (.builtin "object.__class__") = some true) && (decide (PySem.W.mroIn K (He.ga K c) (.type "object") = some true) && decide (PySem.W.kitOne K (.ref (He.ga K c)) (.ref (He.ga K d)) = some b)))))
theorem tIsa_ok {d : Str} {b : Bool} (t : tIsa c d b K = true) : InsK K (He.ga K c) ∧ PySem.W.kitOne K (.ref (He.ga K c)) (.ref (He.ga K d)) = some b := by
  obtain ⟨a1, t⟩ := Bool.and_eq_true_iff.mp t
  obtain ⟨a2, t⟩ := Bool.and_eq_true_iff.mp t
  obtain ⟨a3, t⟩ := Bool.and_eq_true_iff.mp t
  obtain ⟨a4, t⟩ := Bool.and_eq_true_iff.mp t
  obtain ⟨a5, a6⟩ := Bool.and_eq_true_iff.mp t
  exact ⟨⟨He.cls_ok a1, of_decide_eq_true a2, of_decide_eq_true a3, of_decide_eq_true a4, of_decide_eq_true a5⟩, of_decide_eq_true a6⟩
/-- .. a value of a built-in type -/
def tIsb (T : String) (d : Str) (b : Bool) (K : PySem.W.Frag) : Bool := decide (PySem.W.kitOne K (.type T) (.ref (He.ga K d)) = some b)
theorem tIsb_ok {T : String} {d : Str} {b : Bool} (t : tIsb T d b K = true) : PySem.W.kitOne K (.type T) (.ref (He.ga K d)) = some b := of_decide_eq_true t
end
end FL

/-! Part Ev: the mirror machine is run by simp: each combinator where it stands on a state. -/
namespace FL
open PySem L2
section
variable {α β : Type} {a : α} {δ : FL.Loc} {μ : Mem} {x : Exc} {s : FL.Slot}
@[simp] theorem ev_b1 {f : α → FL.Loc → Mem → Out β} : (Out.ok a δ μ).bind f = f a δ μ := rfl
@[simp] theorem ev_b2 {f : α → FL.Loc → Mem → Out β} : (Out.exc x δ μ : Out α).bind f = .exc x δ μ := rfl
@[simp] theorem ev_t1 {f : α → FL.Loc → Mem → OutS} : (Out.ok a δ μ).thn f = f a δ μ := rfl
@[simp] theorem ev_t2 {f : α → FL.Loc → Mem → OutS} : (Out.exc x δ μ : Out α).thn f = .exc x δ μ := rfl
@[simp] theorem ev_s1 {k : MS} : (OutS.nx δ μ).seq k = k δ μ := rfl
@[simp] theorem ev_s2 {k : MS} : (OutS.rt s μ).seq k = .rt s μ := rfl
@[simp] theorem ev_s3 {k : MS} : (OutS.bk δ μ).seq k = .bk δ μ := rfl
@[simp] theorem ev_s4 {k : MS} : (OutS.ct δ μ).seq k = .ct δ μ := rfl
@[simp] theorem ev_s5 {k : MS} : (OutS.exc x δ μ).seq k = .exc x δ μ := rfl
@[simp] theorem ev_l1 {k : MS} : (OutS.nx δ μ).loop k = k δ μ := rfl
@[simp] theorem ev_l2 {k : MS} : (OutS.ct δ μ).loop k = k δ μ := rfl
@[simp] theorem ev_l3 {k : MS} : (OutS.bk δ μ).loop k = .nx δ μ := rfl
@[simp] theorem ev_l4 {k : MS} : (OutS.rt s μ).loop k = .rt s μ := rfl
@[simp] theorem ev_l5 {k : MS} : (OutS.exc x δ μ).loop k = .exc x δ μ := rfl
@[simp] theorem ev_f1 : (OutS.nx δ μ).fin = .ok (.fr .non) μ := rfl
@[simp] theorem ev_f2 : (OutS.rt s μ).fin = .ok s μ := rfl
@[simp] theorem ev_f3 : (OutS.exc x δ μ).fin = .exc x μ := rfl
@[simp] theorem ev_c1 : (Out.ok a δ μ).cut = .ok a δ μ := rfl
end
/-! range's ends, closed to the kernel -/
noncomputable def r1K (j : Int) (δ : FL.Loc) (μ : Mem) : Out (List D) := Classical.choose (sealed (if -(2 ^ 62) ≤ j ∧ j < 2 ^ 62 then Out.ok (rangeD 0 j.toNat) δ μ else .bad))
theorem r1K_eq {j : Int} {δ : FL.Loc} {μ : Mem} : r1K j δ μ = if -(2 ^ 62) ≤ j ∧ j < 2 ^ 62 then .ok (rangeD 0 j.toNat) δ μ else .bad := Classical.choose_spec (sealed _)
@[simp] theorem r1K_ok {j : Int} {δ : FL.Loc} {μ : Mem} (h1 : -1000000000 ≤ j) (h2 : j ≤ 1000000000) : r1K j δ μ = .ok (rangeD 0 j.toNat) δ μ := by rw [r1K_eq]; exact if_pos ⟨by omega, by omega⟩
noncomputable def r2K (i j : Int) (δ : FL.Loc) (μ : Mem) : Out (List D) := Classical.choose (sealed (if (-(2 ^ 62) ≤ i ∧ i < 2 ^ 62) ∧ (-(2 ^ 62) ≤ j ∧ j < 2 ^ 62) then Out.ok (rangeD i (j - i).toNat) δ μ else .bad))
theorem r2K_eq {i j : Int} {δ : FL.Loc} {μ : Mem} : r2K i j δ μ = if (-(2 ^ 62) ≤ i ∧ i < 2 ^ 62) ∧ (-(2 ^ 62) ≤ j ∧ j < 2 ^ 62) then .ok (rangeD i (j - i).toNat) δ μ else .bad := Classical.choose_spec (sealed _)
@[simp] theorem r2K_ok {i j : Int} {δ : FL.Loc} {μ : Mem} (h1 : -1000000000 ≤ i) (h2 : i ≤ 1000000000) (h3 : -1000000000 ≤ j) (h4 : j ≤ 1000000000) : r2K i j δ μ = .ok (rangeD i (j - i).toNat) δ μ := by rw [r2K_eq]; exact if_pos ⟨⟨by omega, by omega⟩, by omega, by omega⟩
noncomputable def r3K (i j c : Int) (δ : FL.Loc) (μ : Mem) : Out (List D) := Classical.choose (sealed (if c ≠ 0 ∧ c.natAbs < 1073741824 ∧ Builtin.Range.small i j c = true ∧ 0 ≤ Builtin.Range.rangeSize i j c then Out.ok (rangeC i c (Builtin.Range.rangeSize i j c).toNat) δ μ else .bad))
theorem r3K_eq {i j c : Int} {δ : FL.Loc} {μ : Mem} : r3K i j c δ μ = if c ≠ 0 ∧ c.natAbs < 1073741824 ∧ Builtin.Range.small i j c = true ∧ 0 ≤ Builtin.Range.rangeSize i j c then .ok (rangeC i c (Builtin.Range.rangeSize i j c).toNat) δ μ else .bad := Classical.choose_spec (sealed _)
section
variable {δ : FL.Loc} {μ : Mem} {m n : ME} {t u : MT} {p q : MS} {o oa ob oc : Opn} {os : List Opn} {ms : List ME} {d : D} {ds dds : List D} {i j k : Nat} {f : TgF} {g : D → D → Option FL.Slot}
@[simp] theorem ev_e : (Opn.e m).ev δ μ = (m δ μ).bind fun s δ1 μ1 => .ok (.d s.d) δ1 μ1 := rfl
@[simp] theorem ev_v : (Opn.v i).ev δ μ = (match δ[i]? with | some (some _) => .ok (.i i) δ μ | _ => .bad) := rfl
@[simp] theorem ev_at1 {d : D} : (OR.d d).at δ μ = look μ d := rfl
@[simp] theorem ev_at2 : (OR.i i).at δ μ = (match δ[i]? with | some (some s) => look μ s.d | _ => none) := rfl
@[simp] theorem ev_lk1 : look μ (.obj k) = (μ[k]?).map Own.d := rfl
@[simp] theorem ev_lk2 {i : Int} : look μ (.int i) = some (.int i) := rfl
@[simp] theorem ev_lk3 {x : Tx} : look μ (.str x) = some (.str x) := rfl
@[simp] theorem ev_lk4 {b : Bool} : look μ (.bl b) = some (.bl b) := rfl
@[simp] theorem ev_lk5 : look μ .non = some .non := rfl
@[simp] theorem ev_lk6 {xs : List D} : look μ (.lst xs) = some (.lst xs) := rfl
@[simp] theorem ev_lk7 {xs : List D} : look μ (.tup xs) = some (.tup xs) := rfl
@[simp] theorem ev_lk8 {xs : List D} : look μ (.ro xs) = some (.ro xs) := rfl
@[simp] theorem ev_lk9 {ks : List DK} {xs : List D} : look μ (.dct ks xs) = some (.dct ks xs) := rfl
@[simp] theorem ev_lk10 {x : String} : look μ (.glo x) = some (.glo x) := rfl
@[simp] theorem ev_lk11 {x : String} : look μ (.ty x) = some (.ty x) := rfl
@[simp] theorem ev_lk12 {c a : String} {d : D} : look μ (.exn c a d) = some (.exn c a d) := rfl
@[simp] theorem ev_ats0 : OR.ats δ μ [] = some [] := rfl
@[simp] theorem ev_ats1 {r : OR} {rs : List OR} : OR.ats δ μ (r :: rs) = (match r.at δ μ, OR.ats δ μ rs with | some x, some xs => some (x :: xs) | _, _ => none) := rfl
@[simp] theorem ev_evs0 : evs [] δ μ = .ok [] δ μ := rfl
@[simp] theorem ev_evs1 : evs (o :: os) δ μ = (o.ev δ μ).bind fun r δ1 μ1 => (evs os δ1 μ1).bind fun rs δ2 μ2 => .ok (r :: rs) δ2 μ2 := rfl
@[simp] theorem ev_evA0 : evA [] δ μ = .ok [] δ μ := rfl
@[simp] theorem ev_evA1 : evA (m :: ms) δ μ = (m δ μ).bind fun s δ1 μ1 => (evA ms δ1 μ1).bind fun ds δ2 μ2 => .ok (s.d :: ds) δ2 μ2 := rfl
@[simp] theorem ev_lift1 {s : FL.Slot} : lift (some s) δ μ = .ok s δ μ := rfl
@[simp] theorem ev_dfr : (FL.Slot.fr d).d = d := rfl
@[simp] theorem ev_down {o : Own} : (FL.Slot.own o).d = o.d := rfl
@[simp] theorem ev_owd {xs : List D} : (Own.lst xs).d = .lst xs := rfl
@[simp] theorem ev_owdd {ks : List DK} {xs : List D} : (Own.dct ks xs).d = .dct ks xs := rfl
@[simp] theorem ev_D : mD d δ μ = .ok (.fr d) δ μ := rfl
@[simp] theorem ev_V : mV i δ μ = (match δ[i]? with | some (some s) => .ok (.fr s.d) (δ.set i (some (.fr s.d))) μ | _ => .bad) := rfl
@[simp] theorem ev_Mv : mMv i δ μ = (match δ[i]? with | some (some s) => .ok s (δ.set i none) μ | _ => .bad) := rfl
@[simp] theorem ev_2 : m2 g oa ob δ μ = (oa.ev δ μ).bind fun ra δ1 μ1 => (ob.ev δ1 μ1).bind fun rb δ2 μ2 => match ra.at δ2 μ2, rb.at δ2 μ2 with | some da, some db => lift (g da db) δ2 μ2 | _, _ => .bad := rfl
@[simp] theorem ev_Tb : mTb m δ μ = (m δ μ).bind fun s δ1 μ1 => match s with | .fr (.bl b) => .ok b δ1 μ1 | _ => .bad := rfl
@[simp] theorem ev_Not : mNot t δ μ = (t δ μ).bind fun b δ1 μ1 => .ok (!b) δ1 μ1 := rfl
@[simp] theorem ev_And : mAnd t u δ μ = (t δ μ).bind fun b δ1 μ1 => if b = true then u δ1 μ1 else .ok false δ1 μ1 := rfl
@[simp] theorem ev_Or : mOr t u δ μ = (t δ μ).bind fun b δ1 μ1 => if b = true then .ok true δ1 μ1 else u δ1 μ1 := rfl
@[simp] theorem ev_If : mIf t m n δ μ = (t δ μ).bind fun b δ1 μ1 => if b = true then m δ1 μ1 else n δ1 μ1 := rfl
@[simp] theorem ev_AndV : mAndV m n δ μ = (m δ μ).bind fun s δ1 μ1 => match s with | .fr (.bl true) => n δ1 μ1 | .fr (.bl false) => .ok (.fr (.bl false)) δ1 μ1 | _ => .bad := rfl
@[simp] theorem ev_OrV : mOrV m n δ μ = (m δ μ).bind fun s δ1 μ1 => match s with | .fr (.bl false) => n δ1 μ1 | .fr (.bl true) => .ok (.fr (.bl true)) δ1 μ1 | _ => .bad := rfl
@[simp] theorem ev_NotV : mNotV m δ μ = (m δ μ).bind fun s δ1 μ1 => match s with | .fr (.bl b) => .ok (.fr (.bl (!b))) δ1 μ1 | _ => .bad := rfl
@[simp] theorem ev_Tup : mTup ms δ μ = (evA ms δ μ).bind fun ds δ1 μ1 => if ds.length ≤ 16777216 then .ok (.fr (.tup ds)) δ1 μ1 else .bad := rfl
@[simp] theorem ev_Lst : mLst ms δ μ = (evA ms δ μ).bind fun ds δ1 μ1 => if ds.length ≤ 16777216 then .ok (.own (.lst ds)) δ1 μ1 else .bad := rfl
@[simp] theorem ev_Share : mShare m δ μ = (m δ μ).bind fun s δ1 μ1 => match s with | .own o => .ok (.fr (.obj μ1.length)) δ1 (μ1 ++ [o]) | _ => .bad := rfl
@[simp] theorem ev_C {g : List D → Option FL.Slot} : mC g os δ μ = (evs os δ μ).bind fun rs δ1 μ1 => match OR.ats δ1 μ1 rs with | some ds => lift (g ds) δ1 μ1 | none => .bad := rfl
@[simp] theorem ev_M {T : String} {g : D → List D → Option FL.Slot} : mM T g o os δ μ = (o.ev δ μ).bind fun r δ1 μ1 => match r.at δ1 μ1 with | some d0 => if isTy T d0 = true then (evs os δ1 μ1).bind fun rs δ2 μ2 => match r.at δ2 μ2, OR.ats δ2 μ2 rs with | some d, some ds => lift (g d ds) δ2 μ2 | _, _ => .bad else .bad | none => .bad := rfl
@[simp] theorem ev_Pass : mPass δ μ = .nx δ μ := rfl
@[simp] theorem ev_Seq : mSeq p q δ μ = (p δ μ).seq q := rfl
@[simp] theorem ev_Ex : mEx m δ μ = (m δ μ).thn fun _ δ1 μ1 => .nx δ1 μ1 := rfl
@[simp] theorem ev_Ret : mRet m δ μ = (m δ μ).thn fun s _ μ1 => .rt s μ1 := rfl
@[simp] theorem ev_RetN : mRetN δ μ = .rt (.fr .non) μ := rfl
@[simp] theorem ev_IfS : mIfS t p q δ μ = (t δ μ).thn fun b δ1 μ1 => if b = true then p δ1 μ1 else q δ1 μ1 := rfl
@[simp] theorem ev_Set : mSet i m δ μ = (m δ μ).thn fun s δ1 μ1 => .nx (δ1.set i (some s)) μ1 := rfl
@[simp] theorem ev_NoP : mNoP δ μ = .ok none δ μ := rfl
@[simp] theorem ev_P : mP m δ μ = (m δ μ).bind fun s δ1 μ1 => match s with | .fr (.int i) => .ok (some i) δ1 μ1 | _ => .bad := rfl
@[simp] theorem ev_Sl {g : D → Option Int → Option Int → Option FL.Slot} {lo hi : MM (Option Int)} : mSl g o lo hi δ μ = (o.ev δ μ).bind fun r δ1 μ1 => (lo δ1 μ1).bind fun l δ2 μ2 => (hi δ2 μ2).bind fun h δ3 μ3 => match r.at δ3 μ3 with | some d => lift (g d l h) δ3 μ3 | none => .bad := rfl
@[simp] theorem ev_Mut {T : String} {g : Own → List D → Option (D × Own)} : mMut T g o ms δ μ = (o.ev δ μ).bind fun r δ1 μ1 => match recv δ1 μ1 r with | some (c0, _) => if ownTy T c0 = true then (evA ms δ1 μ1).bind fun ds δ2 μ2 => (match recv δ2 μ2 r with | some (c, w) => (match g c ds with | some (d, c') => .ok (.fr d) (w c').1 (w c').2 | none => .bad) | none => .bad) else .bad | none => .bad := rfl
@[simp] theorem ev_SetI {g : Own → D → D → Option Own} : mSetI g oa ob m δ μ = (m δ μ).thn fun s δ1 μ1 => (oa.ev δ1 μ1).thn fun r δ2 μ2 => (ob.ev δ2 μ2).thn fun ri δ3 μ3 => match recv δ3 μ3 r, ri.at δ3 μ3 with | some (c, w), some di => (match g c di s.d with | some c' => .nx (w c').1 (w c').2 | none => .bad) | _, _ => .bad := rfl
@[simp] theorem ev_Fn {b : MS} : mFn i b ds μ = (b (startD i ds) μ).fin := mFn_eq
@[simp] theorem ev_Call {h : MF} : mCall h ms dds δ μ = (evA ms δ μ).bind fun ds δ1 μ1 => match h (ds ++ dds) μ1 with | .ok s μ2 => .ok s δ1 μ2 | .exc x μ2 => .exc x δ1 μ2 | .bad => .bad := rfl
@[simp] theorem ev_Neg : mNeg m δ μ = (m δ μ).bind fun s δ1 μ1 => match s with | .fr (.int i) => .ok (.fr (.int (-i))) δ1 μ1 | _ => .bad := rfl
@[simp] theorem ev_Raise {c a : String} : mRaise c a m δ μ = (m δ μ).thn fun s δ1 μ1 => .exc ⟨c, a, s.d⟩ δ1 μ1 := rfl
@[simp] theorem ev_Par : mPar i j m n δ μ = (m δ μ).thn fun s δ1 μ1 => (n δ1 μ1).thn fun s' δ2 μ2 => .nx ((δ2.set i (some s)).set j (some s')) μ2 := rfl
@[simp] theorem ev_Asg : mAsg f m δ μ = (m δ μ).thn fun s δ1 μ1 => match f s.d δ1 with | some δ2 => .nx δ2 μ1 | none => .bad := rfl
@[simp] theorem ev_It : mIt m δ μ = (m δ μ).bind fun s δ1 μ1 => match itA s.d with | some ds => .ok ds δ1 μ1 | none => .bad := rfl
@[simp] theorem ev_R1 : mRange1 o δ μ = (evs [o] δ μ).bind fun rs δ1 μ1 => match OR.ats δ1 μ1 rs with | some [.int j] => r1K j δ1 μ1 | _ => .bad := by
  simp only [r1K_eq]; rfl
@[simp] theorem ev_R2 {o' : Opn} : mRange2 o o' δ μ = (evs [o, o'] δ μ).bind fun rs δ1 μ1 => match OR.ats δ1 μ1 rs with | some [.int i, .int j] => r2K i j δ1 μ1 | _ => .bad := by
  simp only [r2K_eq]; rfl
@[simp] theorem ev_R3 {o' o2 : Opn} : mRange3 o o' o2 δ μ = (evs [o, o', o2] δ μ).bind fun rs δ1 μ1 => match OR.ats δ1 μ1 rs with | some [.int i, .int j, .int c] => r3K i j c δ1 μ1 | _ => .bad := by
  simp only [r3K_eq]; rfl
@[simp] theorem ev_For {mi : MM (List D)} : mFor mi f p δ μ = (mi δ μ).thn fun ds δ1 μ1 => forD (turnD f p) ds δ1 μ1 := rfl
@[simp] theorem ev_turn : turnD f p d δ μ = (match f d δ with | some δ' => p δ' μ | none => .bad) := rfl
@[simp] theorem ev_tgV : tgV i d δ = some (δ.set i (some (.fr d))) := rfl
@[simp] theorem ev_Lc {mi : MM (List D)} {vs : List Nat} : mLc mi f t m vs δ μ = (mi δ μ).bind fun ds δ1 μ1 => lcD f t m vs ds [] (wipeD δ1 vs) μ1 := rfl
@[simp] theorem ev_wp0 : wipeD δ [] = δ := rfl
@[simp] theorem ev_wp1 {vs : List Nat} : wipeD δ (i :: vs) = (wipeD δ vs).set i none := rfl
@[simp] theorem ev_yes : mYes δ μ = .ok true δ μ := rfl
@[simp] theorem ev_rc1 {d : D} : recv δ μ (.d d) = (match d with | .obj k => (match μ[k]? with | some c => some (c, fun c' => (δ, μ.set k c')) | none => none) | _ => none) := by cases d <;> rfl
@[simp] theorem ev_rc2 : recv δ μ (.i j) = (match δ[j]? with
    | some (some (.own c)) => some (c, fun c' => (δ.set j (some (.own c')), μ))
    | some (some (.fr (.obj k))) => (match μ[k]? with
      | some c => some (c, fun c' => (δ, μ.set k c'))
      | none => none)
    | _ => none) := by
  cases h : δ[j]? with
  | none => simp [recv, h]
  | some o =>
    cases o with
    | none => simp [recv, h]
    | some s =>
      cases s with
      | own c => simp [recv, h]
      | fr d =>
        cases d <;> first
          | (simp [recv, h]; done)
          | (rename_i k; cases hh : μ[k]? <;> simp [recv, h, hh])
@[simp] theorem ev_ot1 {T : String} {xs : List D} : ownTy T (.lst xs) = (T == "list") := rfl
@[simp] theorem ev_ot2 {T : String} {ks : List DK} {xs : List D} : ownTy T (.dct ks xs) = (T == "dict") := rfl
@[simp] theorem ev_it1 {T : String} {x : Tx} : isTy T (.str x) = (T == "str") := rfl
@[simp] theorem ev_it2 {T : String} {xs : List D} : isTy T (.lst xs) = (T == "list") := rfl
@[simp] theorem ev_ia1 {xs : List D} : itA (.lst xs) = some xs := rfl
@[simp] theorem ev_ia2 {xs : List D} : itA (.tup xs) = some xs := rfl
@[simp] theorem ev_ia3 {x : Tx} : itA (.str x) = some (chars x) := rfl
@[simp] theorem ev_ia4 {xs : List D} : itA (.ro xs) = some xs := rfl
@[simp] theorem ev_lc0 {vs : List Nat} {acc : List D} : lcD f t m vs [] acc δ μ = .ok (.own (.lst acc)) δ μ := rfl
@[simp] theorem ev_for0 {g : D → MS} : forD g [] δ μ = .nx δ μ := rfl
end
/-! ### operators on written kinds -/
section
variable {i j : Int} {x y : Tx} {b c : Bool} {xs ys : List D}
@[simp] theorem ev_addI : gAdd (.int i) (.int j) = some (.fr (.int (i + j))) := rfl
@[simp] theorem ev_addS : gAdd (.str x) (.str y) = if x.length + y.length ≤ 16777216 then some (.fr (.str (x ++ y))) else none := by
  by_cases h : x.length + y.length ≤ 16777216 <;> simp [gAdd, gInt, gAddS, gAddL, gAddT, h]
@[simp] theorem ev_addL : gAdd (.lst xs) (.lst ys) = if xs.length + ys.length ≤ 16777216 then some (.own (.lst (xs ++ ys))) else none := by
  by_cases h : xs.length + ys.length ≤ 16777216 <;> simp [gAdd, gInt, gAddS, gAddL, gAddT, h]
@[simp] theorem ev_subI : gSub (.int i) (.int j) = some (.fr (.int (i - j))) := rfl
@[simp] theorem ev_ltI : gLt (.int i) (.int j) = some (.fr (.bl (decide (i < j)))) := rfl
@[simp] theorem ev_leI : gLe (.int i) (.int j) = some (.fr (.bl (decide (i ≤ j)))) := rfl
@[simp] theorem ev_gtI : gGt (.int i) (.int j) = some (.fr (.bl (decide (j < i)))) := rfl
@[simp] theorem ev_geI : gGe (.int i) (.int j) = some (.fr (.bl (decide (j ≤ i)))) := rfl
@[simp] theorem ev_eqI {n : Bool} : gEq n (.int i) (.int j) = some (.fr (.bl (decide (i = j) != n))) := rfl
@[simp] theorem ev_eqS {n : Bool} : gEq n (.str x) (.str y) = some (.fr (.bl (decide (x = y) != n))) := rfl
@[simp] theorem ev_eqB {n : Bool} : gEq n (.bl b) (.bl c) = some (.fr (.bl (decide (b = c) != n))) := rfl
@[simp] theorem ev_eqNN {n : Bool} : gEq n .non .non = some (.fr (.bl (true != n))) := rfl
@[simp] theorem ev_eqNI {n : Bool} : gEq n .non (.int i) = some (.fr (.bl (false != n))) := rfl
@[simp] theorem ev_eqIN {n : Bool} : gEq n (.int i) .non = some (.fr (.bl (false != n))) := rfl
@[simp] theorem ev_eqNS {n : Bool} : gEq n .non (.str x) = some (.fr (.bl (false != n))) := rfl
@[simp] theorem ev_eqSN {n : Bool} : gEq n (.str x) .non = some (.fr (.bl (false != n))) := rfl
@[simp] theorem ev_lenS : gLen [.str x] = if x.length ≤ 16777216 then some (.fr (.int x.length)) else none := rfl
@[simp] theorem ev_lenL : gLen [.lst xs] = some (.fr (.int xs.length)) := rfl
@[simp] theorem ev_lenT : gLen [.tup xs] = some (.fr (.int xs.length)) := rfl
@[simp] theorem ev_lenR : gLen [.ro xs] = some (.fr (.int xs.length)) := rfl
@[simp] theorem ev_ixL : gIxL (.lst xs) (.int i) = (L2.atI xs i).map .fr := rfl
@[simp] theorem ev_ixT : gIxL (.tup xs) (.int i) = (L2.atI xs i).map .fr := rfl
@[simp] theorem ev_ixR : gIxL (.ro xs) (.int i) = (L2.atI xs i).map .fr := rfl
@[simp] theorem ev_ixS : gIxL (.str x) (.int i) = if x.length ≤ 16777216 then (L2.atI x i).map fun c => .fr (.str [c]) else none := rfl
@[simp] theorem ev_inS {n : Bool} {c : Nat} : gIn n (.str [c]) (.str x) = some (.fr (.bl (decide (c ∈ x) != n))) := rfl
@[simp] theorem ev_isN1 {n : Bool} : gIsN n .non .non = some (.fr (.bl (true != n))) := rfl
@[simp] theorem ev_isN2 {n : Bool} : gIsN n (.int i) .non = some (.fr (.bl (false != n))) := rfl
@[simp] theorem ev_isN3 {n : Bool} : gIsN n (.str x) .non = some (.fr (.bl (false != n))) := rfl
@[simp] theorem ev_isN4 {n : Bool} : gIsN n (.tup xs) .non = some (.fr (.bl (false != n))) := rfl
@[simp] theorem ev_isN5 {n : Bool} : gIsN n (.lst xs) .non = some (.fr (.bl (false != n))) := rfl
@[simp] theorem ev_isN6 {n : Bool} {c a : String} {d : D} : gIsN n (.exn c a d) .non = some (.fr (.bl (false != n))) := rfl
@[simp] theorem ev_isN7 {n : Bool} : gIsN n (.bl b) .non = some (.fr (.bl (false != n))) := rfl
@[simp] theorem ev_app {d : D} : gAppend (.lst xs) [d] = if xs.length < 16777216 then some (.non, .lst (xs ++ [d])) else none := by
  by_cases h : xs.length < 16777216 <;> simp [gAppend, h]
@[simp] theorem ev_slS {lo hi : Option Int} : gSl (.str x) lo hi = if x.length ≤ 16777216 then some (.fr (.str (cutD x lo hi))) else none := by
  by_cases h : x.length ≤ 16777216 <;> simp [gSl, h]
@[simp] theorem ev_slL {lo hi : Option Int} : gSl (.lst xs) lo hi = some (.own (.lst (cutD xs lo hi))) := rfl
@[simp] theorem ev_slR {lo hi : Option Int} : gSl (.ro xs) lo hi = some (.own (.lst (cutD xs lo hi))) := rfl
@[simp] theorem ev_slT {lo hi : Option Int} : gSl (.tup xs) lo hi = some (.fr (.tup (cutD xs lo hi))) := rfl
@[simp] theorem ev_max2 : gMax2 [.int i, .int j] = some (.fr (.int (if j > i then j else i))) := rfl
@[simp] theorem ev_min2 : gMin2 [.int i, .int j] = some (.fr (.int (if j < i then j else i))) := rfl
end
/-! ### what an outcome is -/
def Nx (r : OutS) (P : FL.Loc → Mem → Prop) : Prop := ∃ δ μ, r = .nx δ μ ∧ P δ μ
def Rt (r : OutS) (P : FL.Slot → Mem → Prop) : Prop := ∃ s μ, r = .rt s μ ∧ P s μ
def Ok {α : Type} (r : Out α) (P : α → FL.Loc → Mem → Prop) : Prop := ∃ a δ μ, r = .ok a δ μ ∧ P a δ μ
def OkF (r : OutF) (P : FL.Slot → Mem → Prop) : Prop := ∃ s μ, r = .ok s μ ∧ P s μ
@[simp] theorem Nx_nx {δ : FL.Loc} {μ : Mem} {P : FL.Loc → Mem → Prop} : Nx (.nx δ μ) P ↔ P δ μ :=
  ⟨fun ⟨_, _, e, p⟩ => by cases e; exact p, fun p => ⟨_, _, rfl, p⟩⟩
@[simp] theorem Rt_rt {s : FL.Slot} {μ : Mem} {P : FL.Slot → Mem → Prop} : Rt (.rt s μ) P ↔ P s μ :=
  ⟨fun ⟨_, _, e, p⟩ => by cases e; exact p, fun p => ⟨_, _, rfl, p⟩⟩
@[simp] theorem Ok_ok {α : Type} {a : α} {δ : FL.Loc} {μ : Mem} {P : α → FL.Loc → Mem → Prop} : Ok (.ok a δ μ) P ↔ P a δ μ :=
  ⟨fun ⟨_, _, _, e, p⟩ => by cases e; exact p, fun p => ⟨_, _, _, rfl, p⟩⟩
@[simp] theorem OkF_ok {s : FL.Slot} {μ : Mem} {P : FL.Slot → Mem → Prop} : OkF (.ok s μ) P ↔ P s μ :=
  ⟨fun ⟨_, _, e, p⟩ => by cases e; exact p, fun p => ⟨_, _, rfl, p⟩⟩
theorem Nx.imp {r : OutS} {P P' : FL.Loc → Mem → Prop} (h : Nx r P) (i : ∀ δ μ, P δ μ → P' δ μ) : Nx r P' := let ⟨δ, μ, e, p⟩ := h; ⟨δ, μ, e, i δ μ p⟩
section
variable {δ : FL.Loc} {μ : Mem} {m : ME}
@[simp] theorem ev_Lam {h : (Mem → OutF) → Mem → OutF} {j : Nat} {P : Addr} {q : Str} : mLam h j P q m δ μ = (match μ[j]? with
  | some (.tab P' q') => if P' = P ∧ q' = q then (match h (actOf m δ) μ with
    | .ok s μ' => .ok s δ μ'
    | .exc x μ' => .exc x δ μ'
    | .bad => .bad) else .bad
  | _ => .bad) := rfl
@[simp] theorem ev_act : actOf m δ μ = (match m (hide δ) μ with
  | .ok s _ μ' => .ok s μ'
  | .exc x _ μ' => .exc x μ'
  | .bad => .bad) := rfl
@[simp] theorem ev_Dct0 : mDct0 δ μ = .ok (.own (.dct [] [])) δ μ := rfl
end
/-- what stands at 0 stays -/
theorem Fr.at0 {j : Nat} {μ μ' : Mem} {o : Own} (h : Fr j μ μ') (hj : j ≠ 0) (e : μ[0]? = some o) : μ'[0]? = some o := by rw [h.2 0 (Ne.symm hj)]; exact e
/-- the loop over the first cells of a script -/
theorem cells_range {ns : List Int} {δ : FL.Loc} {μ : Mem} {f : TgF} {m : MS} {P : FL.Loc → Mem → Prop} (h0 : δ[0]? = some (some (.fr (.ro (ns.map .int)))))
    (h : ∀ K : Int, 1 ≤ K → K ≤ 4 → Nx (forD (turnD f m) (rangeD 0 K.toNat) δ μ) P) : Nx (mFor (mRange1 (.e (mC gMax2 [(.e (mD (.int 1))), (.e (mC gMin2 [(.e (mD (.int 4))), (.e (mC gLen [(.v 0)]))]))]))) f m δ μ) P := by
  have hb : 1 ≤ (if 1 < (if (ns.length : Int) < 4 then (ns.length : Int) else 4) then (if (ns.length : Int) < 4 then (ns.length : Int) else 4) else 1) ∧ (if 1 < (if (ns.length : Int) < 4 then (ns.length : Int) else 4) then (if (ns.length : Int) < 4 then (ns.length : Int) else 4) else 1) ≤ 4 := by
    by_cases h4 : (ns.length : Int) < 4
    · rw [if_pos h4]; split <;> omega
    · rw [if_neg h4]; decide
  have e : ∀ n : Int, mC gMin2 [(.e (mD (.int 4))), (.e (mC gLen [(.v 0)]))] δ μ = .ok (.fr (.int (if (ns.length : Int) < 4 then (ns.length : Int) else 4))) δ μ := fun n => by
    simp only [ev_C, ev_evs1, ev_evs0, ev_e, ev_D, ev_b1, ev_v, h0, ev_ats1, ev_ats0, ev_at2, ev_at1, ev_dfr, ev_lk8, ev_lk2, ev_lenR, List.length_map, ev_lift1, ev_min2]
  have e := e 0
  generalize (if (ns.length : Int) < 4 then (ns.length : Int) else 4) = L at e hb
  have e2 : mC gMax2 [(.e (mD (.int 1))), (.e (mC gMin2 [(.e (mD (.int 4))), (.e (mC gLen [(.v 0)]))]))] δ μ = .ok (.fr (.int (if 1 < L then L else 1))) δ μ := by
    rw [ev_C, ev_evs1, ev_e, ev_D, ev_b1, ev_b1, ev_evs1, ev_e, e]
    rfl
  generalize (if 1 < L then L else 1) = K at e2 hb
  have := h K hb.1 hb.2
  have e3 : mRange1 (.e (mC gMax2 [(.e (mD (.int 1))), (.e (mC gMin2 [(.e (mD (.int 4))), (.e (mC gLen [(.v 0)]))]))])) δ μ = .ok (rangeD 0 K.toNat) δ μ := by
    rw [ev_R1, ev_evs1, ev_e, e2]
    exact r1K_ok (by omega) (by omega)
  rw [ev_For, e3, ev_t1]
  exact this
theorem forNx_at {g : D → MS} (I : Nat → FL.Loc → Mem → Prop) : ∀ (ds : List D) (n : Nat) (δ : FL.Loc) (μ : Mem), I n δ μ → (∀ (i : Nat) (d : D) (δ : FL.Loc) (μ : Mem), ds[i]? = some d → I (n + i) δ μ → Nx (g d δ μ) (I (n + i + 1))) → Nx (forD g ds δ μ) (I (n + ds.length))
  | [], n, δ, μ, h0, _ => ⟨δ, μ, rfl, h0⟩
  | d :: ds, n, δ, μ, h0, hs => by
    obtain ⟨δ1, μ1, e, h1⟩ := hs 0 d δ μ rfl h0
    have := forNx_at I ds (n + 1) δ1 μ1 h1 fun i d δ μ hd hi => by
      have := hs (i + 1) d δ μ hd (by rw [show n + (i + 1) = n + 1 + i by omega]; exact hi)
      rw [show n + (i + 1) + 1 = n + 1 + i + 1 by omega] at this
      exact this
    rw [show n + 1 + ds.length = n + (d :: ds).length by rw [List.length_cons]; omega] at this
    show Nx ((g d δ μ).loop (forD g ds)) _
    rw [e]
    exact this
/-- a loop by its invariant -/
theorem forNx {g : D → MS} (I : Nat → FL.Loc → Mem → Prop) {ds : List D} {δ : FL.Loc} {μ : Mem} (h0 : I 0 δ μ) (hs : ∀ (i : Nat) (d : D) (δ : FL.Loc) (μ : Mem), ds[i]? = some d → I i δ μ → Nx (g d δ μ) (I (i + 1))) : Nx (forD g ds δ μ) (I ds.length) := by
  have := forNx_at I ds 0 δ μ h0 fun i d δ μ hd hi => by
    rw [Nat.zero_add] at hi ⊢
    exact hs i d δ μ hd hi
  rwa [Nat.zero_add] at this
theorem range_len (n : Nat) : (rangeD 0 n).length = n := by simp [rangeD]
theorem range_at {n i : Nat} {d : D} (h : (rangeD 0 n)[i]? = some d) : d = .int (i : Nat) ∧ i < n := by
  unfold rangeD at h
  rw [List.getElem?_map] at h
  by_cases hi : i < n
  · rw [List.getElem?_range hi] at h
    cases h
    exact ⟨by simp, hi⟩
  · rw [List.getElem?_eq_none (by simp; omega)] at h
    cases h
theorem source_src {ns : List Int} {k : Int} {μ : Mem} (hl : ns.length ≤ 63) (h0 : 0 ≤ k) (hk : k ≤ 2 ^ 30) :
    ∃ μ1, mSource [.ro (ns.map .int), .int k] μ = .ok (.fr (.obj μ.length)) μ1 ∧ Src μ1 μ.length (3 * k) ∧ ∀ i : Nat, i < μ.length → μ1[i]? = μ[i]? := by
  obtain ⟨c, g, g0, e⟩ := source_spec (μ := μ) hl h0 (by omega)
  exact ⟨_, e, ⟨c, 3 * k, g, by simp, by omega, by omega, g0⟩, fun i hi => List.getElem?_append_left hi⟩
theorem mulB_one {c : Nat} {k : Int} (h1 : 2 ≤ k) (h2 : k ≤ 1000) : gMulB (.str [c]) (.int k) = some (.fr (.str (List.replicate k.toNat c))) := by
  simp [gMulB, gMulA, gMul, gRep, gInt, gRepS, h1, h2]
/-! ### comprehensions, element by element -/
def lc1 (f : TgF) (t : MT) (m : ME) (vs : List Nat) (d : D) (δ : FL.Loc) (μ : Mem) : Out (Option D) := match f d δ with
  | none => .bad
  | some δ' => (t δ' μ).cut.bind fun b δ2 μ2 => if b = true then (m δ2 μ2).cut.bind fun s δ3 μ3 => .ok (some s.d) (wipeD δ3 vs) μ3 else .ok none (wipeD δ2 vs) μ2
theorem lcD_one {f : TgF} {t : MT} {m : ME} {vs : List Nat} {d : D} {ds acc : List D} {δ : FL.Loc} {μ : Mem} : lcD f t m vs (d :: ds) acc δ μ = (lc1 f t m vs d δ μ).bind fun o δ1 μ1 => match o with
    | some e => if acc.length < 16777216 then lcD f t m vs ds (acc ++ [e]) δ1 μ1 else .bad
    | none => lcD f t m vs ds acc δ1 μ1 := by
  rw [lcD_cons]
  unfold lc1
  cases f d δ with
  | none => rfl
  | some δ' =>
    cases h : (t δ' μ).cut with
    | bad => simp only [h]; rfl
    | exc x δ2 μ2 => simp only [h]; rfl
    | ok b δ2 μ2 =>
      simp only [h, ev_b1]
      cases b with
      | false => rfl
      | true =>
        simp only [if_true]
        cases h2 : (m δ2 μ2).cut with
        | bad => rfl
        | exc x δ3 μ3 => rfl
        | ok s δ3 μ3 => rfl
theorem lcD_pure {f : TgF} {t : MT} {m : ME} {vs : List Nat} {δ : FL.Loc} {μ : Mem} (F : D → Option D) : ∀ {ds acc : List D}, (∀ d ∈ ds, lc1 f t m vs d δ μ = .ok (F d) δ μ) → acc.length + ds.length < 16777216 →
    lcD f t m vs ds acc δ μ = .ok (.own (.lst (acc ++ ds.filterMap F))) δ μ
  | [], acc, _, _ => by simp
  | d :: ds, acc, h, hl => by
    rw [List.length_cons] at hl
    rw [lcD_one, h d (List.mem_cons_self ..), ev_b1]
    cases e : F d with
    | none =>
      simp only []
      rw [lcD_pure F (fun d hd => h d (List.mem_cons_of_mem _ hd)) (by omega)]
      simp [e]
    | some x =>
      simp only [show acc.length < 16777216 by omega, if_true]
      rw [lcD_pure F (fun d hd => h d (List.mem_cons_of_mem _ hd)) (by rw [List.length_append, List.length_singleton]; omega)]
      simp [e]
theorem lcD_inv {f : TgF} {t : MT} {m : ME} {vs : List Nat} (P : Nat → List D → FL.Loc → Mem → Prop) : ∀ (ds : List D) (n : Nat) (acc : List D) (δ : FL.Loc) (μ : Mem), P n acc δ μ → acc.length + ds.length < 16777216 →
    (∀ (i : Nat) (d : D) (acc : List D) (δ : FL.Loc) (μ : Mem), ds[i]? = some d → P (n + i) acc δ μ → Ok (lc1 f t m vs d δ μ) fun o δ' μ' => P (n + i + 1) (acc ++ o.toList) δ' μ') →
    Ok (lcD f t m vs ds acc δ μ) fun s δ' μ' => ∃ acc', s = .own (.lst acc') ∧ P (n + ds.length) acc' δ' μ'
  | [], n, acc, δ, μ, h0, _, _ => ⟨_, δ, μ, rfl, acc, rfl, h0⟩
  | d :: ds, n, acc, δ, μ, h0, hl, hs => by
    rw [List.length_cons] at hl
    obtain ⟨o, δ1, μ1, e, h1⟩ := hs 0 d acc δ μ rfl h0
    have hs' : ∀ (i : Nat) (d : D) (acc : List D) (δ : FL.Loc) (μ : Mem), ds[i]? = some d → P (n + 1 + i) acc δ μ → Ok (lc1 f t m vs d δ μ) fun o δ' μ' => P (n + 1 + i + 1) (acc ++ o.toList) δ' μ' := fun i d acc δ μ hd hi => by
      have := hs (i + 1) d acc δ μ hd (by rw [show n + (i + 1) = n + 1 + i by omega]; exact hi)
      rw [show n + (i + 1) + 1 = n + 1 + i + 1 by omega] at this
      exact this
    rw [show n + (d :: ds).length = n + 1 + ds.length by rw [List.length_cons]; omega]
    rw [lcD_one, e, ev_b1]
    cases o with
    | none =>
      have h1 : P (n + 1) acc δ1 μ1 := by simpa using h1
      exact lcD_inv P ds (n + 1) acc δ1 μ1 h1 (by omega) hs'
    | some x =>
      simp only [show acc.length < 16777216 by omega, if_true]
      exact lcD_inv P ds (n + 1) (acc ++ [x]) δ1 μ1 h1 (by rw [List.length_append, List.length_singleton]; omega) hs'
section
variable {δ : FL.Loc} {μ : Mem} {m : ME} {f : TgF} {h : TgsF} {d : D} {ds xs : List D} {n : Nat} {g g' : D → D → Option FL.Slot} {oa ob oc : Opn}
@[simp] theorem ev_tgT : tgT n h (.tup ds) δ = if ds.length = n then h ds δ else none := rfl
@[simp] theorem ev_tgC : tgC f h (d :: ds) δ = (match f d δ with | some δ' => h ds δ' | none => none) := rfl
@[simp] theorem ev_tgN : tgN [] δ = some δ := rfl
@[simp] theorem ev_Enum : mEnum m δ μ = (m δ μ).bind fun s δ1 μ1 => match enA s.d with | some ds => .ok ds δ1 μ1 | none => .bad := rfl
@[simp] theorem ev_enL : enA (.lst xs) = some (enD xs) := rfl
@[simp] theorem ev_enT : enA (.tup xs) = some (enD xs) := rfl
@[simp] theorem ev_tupL : gTuple [.lst xs] = some (.fr (.tup xs)) := rfl
@[simp] theorem ev_tupT : gTuple [.tup xs] = some (.fr (.tup xs)) := rfl
@[simp] theorem ev_Chain : mChain g g' oa ob oc δ μ = (oa.ev δ μ).bind fun ra δ1 μ1 => (ob.ev δ1 μ1).bind fun rb δ2 μ2 => match ra.at δ2 μ2, rb.at δ2 μ2 with
  | some da, some db => (match g da db with
    | some (.fr (.bl true)) => (oc.ev δ2 μ2).bind fun rc δ3 μ3 => (match rb.at δ3 μ3, rc.at δ3 μ3 with
      | some db', some dc => lift (g' db' dc) δ3 μ3
      | _, _ => .bad)
    | some (.fr (.bl false)) => .ok (.fr (.bl false)) δ2 μ2
    | _ => .bad)
  | _, _ => .bad := rfl
end
theorem shaped_intsT (ns : List Int) : SeqAt.shaped (.tuple (ns.map PyData.int)) = true := by
  simp [SeqAt.shaped, PyData.canLay0, PyData.depth, canLay_ints, depth_ints]
theorem eqv_ints : ∀ xs ys : List Int, PyData.eqvAll (xs.map PyData.int) (ys.map PyData.int) = decide (xs = ys)
  | [], [] => rfl
  | [], _ :: _ => rfl
  | _ :: _, [] => rfl
  | x :: xs, y :: ys => by
    simp only [List.map_cons, PyData.eqvAll, eqv_ints xs ys]
    show (decide (x = y) && decide (xs = ys)) = _
    by_cases h1 : x = y <;> by_cases h2 : xs = ys <;> simp [h1, h2]
theorem eq_tints (neg : Bool) (xs ys : List Int) : gEq neg (.tup (xs.map .int)) (.tup (ys.map .int)) = some (tb (decide (xs = ys) != neg)) := by
  have h1 := shaped_intsT xs
  have h2 := shaped_intsT ys
  simp [gEq, eqS, eqP, D.py, pys_ints, h1, h2, PyData.eqv, eqv_ints]
theorem eq_lints (neg : Bool) (xs ys : List Int) : gEq neg (.lst (xs.map .int)) (.lst (ys.map .int)) = some (tb (decide (xs = ys) != neg)) := by
  have h1 := shaped_ints xs
  have h2 := shaped_ints ys
  simp [gEq, eqS, eqP, D.py, pys_ints, h1, h2, PyData.eqv, eqv_ints]
end FL

/-! Part Tx: the texts that the laws about words draw, and their words. -/
namespace FL.S
noncomputable abbrev m__law_next : MF := mNext
noncomputable abbrev m__law_pick : MF := mPick
noncomputable def b__law_gap (δ : FL.Loc) (μ : Mem) : OutS := (mSeq (mSet 1 (mLst [(mD (.str (lit " "))), (mD (.str (lit "  "))), (mD (.str (lit "\n"))), (mD (.str (lit "\t"))), (mD (.str (lit "-"))), (mD (.str (lit "."))), (mD (.str (lit ", "))), (mD (.str (lit "'"))), (mD (.str (lit "_"))), (mD (.str (lit "~!"))), (mD (.str (lit "@#"))), (mD (.str (lit "[]"))), (mD (.str (lit "{|}"))), (mD (.str (lit ":/"))), (mD (.str (lit "\n\n\t ")))]))
    (mRet (mCall m__law_pick [(mV 0), (mV 1)] []))) δ μ
noncomputable def m__law_gap : MF := mFn 2 (b__law_gap)
noncomputable def e1__law_run (δ : FL.Loc) (μ : Mem) : Out FL.Slot := (mCall m__law_pick [(mV 0), (mV 3)] []) δ μ
noncomputable def b__law_run (δ : FL.Loc) (μ : Mem) : OutS := (mSeq (mSet 2 (mCall m__law_pick [(mV 0), (mLst [(mD (.int 1)), (mD (.int 2)), (mD (.int 3)), (mD (.int 5)), (mD (.int 19)), (mD (.int 20)), (mD (.int 21)), (mD (.int 39)), (mD (.int 40)), (mD (.int 41)), (m2 gAdd (.e (mD (.int 1))) (.e (mCall m__law_next [(mV 0), (mV 1)] [])))])] []))
    (mSeq (mSet 3 (mCall m__law_pick [(mV 0), (mLst [(mD (.str (lit "a"))), (mD (.str (lit "ab"))), (mD (.str (lit "abcxyz019"))), (mD (.str (lit "aAbBzZ"))), (mD (.str (lit "AZ09"))), (mD (.str (lit "7")))])] []))
    (mRet (mM "str" gJoin (.e (mD (.str (lit "")))) [(.e (mLc (mRange1 (.e (mC gMin2 [(.v 2), (.v 1)]))) (tgV 4) mYes e1__law_run [4]))])))) δ μ
noncomputable def m__law_run : MF := mFn 5 (b__law_run)
noncomputable def f1__law_text (δ : FL.Loc) (μ : Mem) : OutS := (mSet 2 (m2 gAdd (.e (m2 gAdd (.v 2) (.e (mCall m__law_run [(mV 0), (mD (.int 45))] [])))) (.e (mCall m__law_gap [(mV 0)] [])))) δ μ
noncomputable def b__law_text (δ : FL.Loc) (μ : Mem) : OutS := (mSeq (mSet 2 (mCall m__law_pick [(mV 0), (mLst [(mD (.str (lit ""))), (mD (.str (lit ""))), (mCall m__law_gap [(mV 0)] [])])] []))
    (mSeq (mFor (mRange1 (.e (mCall m__law_next [(mV 0), (m2 gAdd (.v 1) (.e (mD (.int 1))))] []))) (tgV 3) f1__law_text)
    (mRet (mIf (mTb (m2 (gEq false) (.e (mCall m__law_next [(mV 0), (mD (.int 3))] [])) (.e (mD (.int 0))))) (mV 2) (mSl gSl (.v 2) mNoP (mP (mNeg (mD (.int 1))))))))) δ μ
noncomputable def m__law_text : MF := mFn 4 (b__law_text)
noncomputable def e1__law_words (δ : FL.Loc) (μ : Mem) : Out FL.Slot := (mIf (mTb (m2 (gIn false) (.v 6) (.v 1))) (mV 6) (mD (.str (lit " ")))) δ μ
noncomputable def f2__law_words (δ : FL.Loc) (μ : Mem) : OutS := (mEx (mMut "list" gAppend (.v 2) [(mSl gSl (.v 4) (mP (mV 5)) (mP (m2 gAdd (.v 5) (.e (mD (.int 20))))))])) δ μ
noncomputable def f3__law_words (δ : FL.Loc) (μ : Mem) : OutS := (mFor (mRange3 (.e (mD (.int 0))) (.e (mC gLen [(.v 4)])) (.e (mD (.int 20)))) (tgV 5) f2__law_words) δ μ
noncomputable def b__law_words (δ : FL.Loc) (μ : Mem) : OutS := (mSeq (mPar 1 2 (mD (.str (lit "abcdefghijklmnopqrstuvwxyz0123456789"))) (mLst []))
    (mSeq (mSet 3 (mM "str" gJoin (.e (mD (.str (lit "")))) [(.e (mLc (mIt (mM "str" gLower (.v 0) [])) (tgV 6) mYes e1__law_words [6]))]))
    (mSeq (mFor (mIt (mM "str" gWords (.v 3) [])) (tgV 4) f3__law_words)
    (mRet (mMv 2))))) δ μ
noncomputable def m__law_words : MF := mFn 7 (b__law_words)
noncomputable def b_is_text (δ : FL.Loc) (μ : Mem) : OutS := (mRet (mAndV (mC gIsi [(.v 0), (.e (mD (.ty "str")))]) (m2 gLe (.e (mC gLen [(.v 0)])) (.e (mD (.int 400)))))) δ μ
noncomputable def m_is_text : MF := mFn 1 (b_is_text)
noncomputable def f1_split_words (δ : FL.Loc) (μ : Mem) : OutS := (mSeq (mIfS (mTb (m2 (gIn false) (.v 3) (.e (mD (.str (lit "abcdefghijklmnopqrstuvwxyz0123456789")))))) (mSet 2 (m2 gAdd (.v 2) (.v 3)))
    mPass)
    (mIfS (mAnd (mTb (m2 (gEq true) (.v 2) (.e (mD (.str (lit "")))))) (mOr (mTb (m2 (gIn true) (.v 3) (.e (mD (.str (lit "abcdefghijklmnopqrstuvwxyz0123456789")))))) (mTb (m2 (gEq false) (.e (mC gLen [(.v 2)])) (.e (mD (.int 20))))))) (mSeq (mEx (mMut "list" gAppend (.v 1) [(mV 2)]))
    (mSet 2 (mD (.str (lit "")))))
    mPass)) δ μ
noncomputable def b_split_words (δ : FL.Loc) (μ : Mem) : OutS := (mSeq (mPar 1 2 (mLst []) (mD (.str (lit ""))))
    (mSeq (mFor (mIt (mM "str" gLower (.v 0) [])) (tgV 3) f1_split_words)
    (mRet (mIf (mTb (m2 (gEq true) (.v 2) (.e (mD (.str (lit "")))))) (m2 gAdd (.v 1) (.e (mLst [(mV 2)]))) (mMv 1))))) δ μ
noncomputable def m_split_words : MF := mFn 4 (b_split_words)

end FL.S
namespace FL
open PySem L2
/-- signs of a run -/
def AN (c : Nat) : Prop := c < 128 ∧ lo1 c ∈ WS
instance (c : Nat) : Decidable (AN c) := inferInstanceAs (Decidable (_ ∧ _))
def stR (j : Nat) (a b : D) (s : Tx) : FL.Loc := [some (.fr (.obj j)), some (.fr a), some (.fr b), some (.fr (.str s)), none]
theorem run_loop {s : Tx} {j : Nat} {a b : D} (h0 : s ≠ []) (hn : s.length ≤ 2 ^ 24) : ∀ (ds : List D) (acc : List Tx) (μ : Mem) (B : Int), Src μ j B → B + ds.length ≤ 2 ^ 40 → acc.length + ds.length ≤ 1000 →
    ∃ (cs : Tx) (μ' : Mem), lcD (tgV 4) mYes S.e1__law_run [4] ds (acc.map .str) (stR j a b s) μ = .ok (.own (.lst ((acc ++ cs.map fun c => [c]).map .str))) (stR j a b s) μ' ∧
      cs.length = ds.length ∧ (∀ c ∈ cs, c ∈ s) ∧ Src μ' j (B + ds.length) ∧ Fr j μ μ'
  | [], acc, μ, B, h, _, _ => ⟨[], μ, by simp [lcD], rfl, by simp, by simpa using h, .refl⟩
  | d :: ds, acc, μ, B, h, hB, hl => by
    rw [List.length_cons] at hB hl
    obtain ⟨x, μ1, hx, e, hs, hf⟩ := pick_str h (by omega) h0 hn
    obtain ⟨cs, μ2, e2, h1, h2, h3, h4⟩ := run_loop h0 hn ds (acc ++ [[x]]) μ1 (B + 1) hs (by omega) (by rw [List.length_append, List.length_singleton]; omega)
    refine ⟨x :: cs, μ2, ?_, by rw [List.length_cons, List.length_cons, h1], fun c hc => ?_, h3.mono (by rw [List.length_cons]; omega), hf.trans h4⟩
    · have ha : acc.length < 16777216 := by omega
      have step : lcD (tgV 4) mYes S.e1__law_run [4] (d :: ds) (acc.map .str) (stR j a b s) μ = lcD (tgV 4) mYes S.e1__law_run [4] ds ((acc ++ [[x]]).map .str) (stR j a b s) μ1 := by
        rw [lcD_cons]
        simp [S.e1__law_run, stR, e, ha]
      rw [step, e2]
      simp
    · rcases List.mem_cons.mp hc with rfl | hc
      · exact hx
      · exact h2 c hc
theorem run_spec {μ : Mem} {j : Nat} {B most : Int} (h : Src μ j B) (h1 : 1 ≤ most) (h2 : most ≤ 100) (hB : B + 200 ≤ 2 ^ 40) :
    ∃ x μ', S.m__law_run [.obj j, .int most] μ = .ok (.fr (.str x)) μ' ∧ 1 ≤ x.length ∧ (x.length : Int) ≤ most ∧ (∀ c ∈ x, AN c) ∧ Src μ' j (B + most + 3) ∧ Fr j μ μ' := by
  obtain ⟨r1, μ1, e1, r0, r1', s1, f1⟩ := next_spec (n := most) h (by omega) (by omega) (by omega)
  obtain ⟨m, μ2, hm, e2, s2, f2⟩ := pick_lst (xs := [D.int 1, .int 2, .int 3, .int 5, .int 19, .int 20, .int 21, .int 39, .int 40, .int 41, .int (1 + r1)]) s1 (by omega) (by simp) (by simp)
  obtain ⟨n, rfl, n1⟩ : ∃ n : Int, m = .int n ∧ 1 ≤ n := by
    simp only [List.mem_cons, List.not_mem_nil, or_false] at hm
    rcases hm with h | h | h | h | h | h | h | h | h | h | h <;> exact ⟨_, h, by omega⟩
  obtain ⟨t, μ3, ht, e3, s3, f3⟩ := pick_lst (xs := [D.str (lit "a"), .str (lit "ab"), .str (lit "abcxyz019"), .str (lit "aAbBzZ"), .str (lit "AZ09"), .str (lit "7")]) s2 (by omega) (by simp) (by decide)
  obtain ⟨s, rfl, s0, sl, sa⟩ : ∃ s : Tx, t = .str s ∧ s ≠ [] ∧ s.length ≤ 2 ^ 24 ∧ ∀ c ∈ s, AN c := by
    simp only [List.mem_cons, List.not_mem_nil, or_false] at ht
    rcases ht with h | h | h | h | h | h <;> exact ⟨_, h, by decide +kernel, by decide +kernel, by decide +kernel⟩
  have hk : (rangeD 0 (if most < n then most else n).toNat).length = (if most < n then most else n).toNat := by simp [rangeD]
  have hk2 : 1 ≤ (if most < n then most else n).toNat ∧ ((if most < n then most else n).toNat : Int) ≤ most := by split <;> omega
  generalize hK : (if most < n then most else n).toNat = K at hk hk2
  obtain ⟨cs, μ4, e4, c1, c2, s4, f4⟩ := run_loop (a := .int most) (b := .int n) s0 sl (rangeD 0 K) [] μ3 _ s3 (by rw [hk]; omega) (by rw [hk]; simp; omega)
  refine ⟨cs, μ4, ?_, by omega, by omega, fun c hc => sa c (c2 c hc), s4.mono (by rw [hk]; omega), ((f1.trans f2).trans f3).trans f4⟩
  have hsm : -4611686018427387904 ≤ (if most < n then most else n) ∧ (if most < n then most else n) < 4611686018427387904 := by split <;> omega
  have es : strsD (cs.map fun c => D.str [c]) = some (cs.map fun c => [c]) := by
    have := strsD_of (cs.map fun c => [c])
    rw [List.map_map] at this
    exact this
  have ej : joinT [] (cs.map fun c => [c]) = cs := by rw [joinT_nil, flat_ones]
  have el : ((cs.map fun c => [c]).map List.length).sum ≤ 16777216 := by rw [sum_ones]; omega
  simp only [List.map_nil, List.nil_append, List.map_map] at e4
  have e4' : lcD (tgV 4) mYes S.e1__law_run [4] (rangeD 0 K) [] [some (.fr (.obj j)), some (.fr (.int most)), some (.fr (.int n)), some (.fr (.str s)), none] μ3 = _ := e4
  simp [S.m__law_run, S.b__law_run, mFn_eq, mSeq, mSet, mCall, evA, mV, mLst, mD, m2, Opn.ev, OR.at, OR.ats, look, startD, Out.bind, Out.thn, OutS.seq, OutS.fin, Slot.d, Own.d, lift, e1, e2, e3, gAdd, gInt, mRet, mM, isTy, evs, mLc, mRange1, mC, gMin2, hsm, hK, wipeD, lit_nil, e4', stR, gJoin, es, ej]
  have es' : strsD (List.map (D.str ∘ fun c => [c]) cs) = some (cs.map fun c => [c]) := by exact es
  simp only [es', if_pos el, ej]
theorem gap_spec {μ : Mem} {j : Nat} {B : Int} (h : Src μ j B) (hB : B + 10 ≤ 2 ^ 40) :
    ∃ g μ', S.m__law_gap [.obj j] μ = .ok (.fr (.str g)) μ' ∧ g ≠ [] ∧ g.length ≤ 4 ∧ (∀ c ∈ g, c < 128 ∧ lo1 c = c ∧ up1 c = c ∧ c ∉ WS) ∧ Src μ' j (B + 1) ∧ Fr j μ μ' := by
  obtain ⟨t, μ1, ht, e, s1, f1⟩ := pick_lst (xs := [D.str (lit " "), .str (lit "  "), .str (lit "\n"), .str (lit "\t"), .str (lit "-"), .str (lit "."), .str (lit ", "), .str (lit "'"), .str (lit "_"), .str (lit "~!"), .str (lit "@#"), .str (lit "[]"), .str (lit "{|}"), .str (lit ":/"), .str (lit "\n\n\t ")]) h (by omega) (by simp) (by simp)
  obtain ⟨g, rfl, g0, gl, ga⟩ : ∃ g : Tx, t = .str g ∧ g ≠ [] ∧ g.length ≤ 4 ∧ ∀ c ∈ g, c < 128 ∧ lo1 c = c ∧ up1 c = c ∧ c ∉ WS := by
    simp only [List.mem_cons, List.not_mem_nil, or_false] at ht
    rcases ht with h | h | h | h | h | h | h | h | h | h | h | h | h | h | h <;> exact ⟨_, h, by decide +kernel, by decide +kernel, by decide +kernel⟩
  refine ⟨g, μ1, ?_, g0, gl, ga, s1, f1⟩
  simp [S.m__law_gap, S.b__law_gap, startD, e]
def Asc (x : Tx) : Prop := ∀ c ∈ x, c < 128
theorem Asc.app {x y : Tx} (a : Asc x) (b : Asc y) : Asc (x ++ y) := fun c hc => (List.mem_append.mp hc).elim (a c) (b c)
theorem text_loop {μ : Mem} {j : Nat} {B : Int} {x : Tx} {t : D} {s : Option FL.Slot} (h : Src μ j B) (hB : B + 300 ≤ 2 ^ 40) (hx : Asc x) (hl : x.length ≤ 1000) (d : D) :
    ∃ y μ', turnD (tgV 3) S.f1__law_text d [some (.fr (.obj j)), some (.fr t), some (.fr (.str x)), s] μ =
      .nx [some (.fr (.obj j)), some (.fr t), some (.fr (.str y)), some (.fr d)] μ' ∧ Asc y ∧ y.length ≤ x.length + 49 ∧ Src μ' j (B + 60) ∧ Fr j μ μ' := by
  obtain ⟨r, μ1, e1, r1, r2, ra, s1, f1⟩ := run_spec (most := 45) h (by decide) (by decide) (by omega)
  obtain ⟨g, μ2, e2, g0, gl, ga, s2, f2⟩ := gap_spec s1 (by omega)
  have b1 : x.length + r.length ≤ 16777216 := by omega
  have b2 : x.length + (r.length + g.length) ≤ 16777216 := by omega
  refine ⟨x ++ (r ++ g), μ2, ?_, hx.app (Asc.app (fun c hc => (ra c hc).1) fun c hc => (ga c hc).1), by simp; omega, s2.mono (by omega), f1.trans f2⟩
  simp [S.f1__law_text, e1, e2, b1, b2, Nat.add_assoc]
theorem text_spec2 {μ : Mem} {j : Nat} {B : Int} (h : Src μ j B) (hB : B + 1000 ≤ 2 ^ 40) :
    ∃ x μ', S.m__law_text [.obj j, .int 7] μ = .ok (.fr (.str x)) μ' ∧ Asc x ∧ x.length ≤ 347 ∧ Src μ' j (B + 500) ∧ Fr j μ μ' := by
  obtain ⟨g, μ1, e1, g0, gl, ga, s1, f1⟩ := gap_spec h (by omega)
  obtain ⟨t, μ2, ht, e2, s2, f2⟩ := pick_lst (xs := [D.str (lit ""), .str (lit ""), .str g]) s1 (by omega) (by simp) (by simp)
  obtain ⟨x, rfl, xl, xa⟩ : ∃ x : Tx, t = .str x ∧ x.length ≤ 4 ∧ Asc x := by
    simp only [List.mem_cons, List.not_mem_nil, or_false] at ht
    rcases ht with h | h | h
    · exact ⟨_, h, by decide +kernel, fun c hc => by simp [lit_nil] at hc⟩
    · exact ⟨_, h, by decide +kernel, fun c hc => by simp [lit_nil] at hc⟩
    · exact ⟨_, h, gl, fun c hc => (ga c hc).1⟩
  obtain ⟨r, μ3, e3, r0, r1, s3, f3⟩ := next_spec (n := 8) s2 (by omega) (by decide) (by decide)
  have hK : (rangeD 0 r.toNat).length = r.toNat := by simp [rangeD]
  obtain ⟨δ4, μ4, e4, y, s', hδ, ya, yl, s4, f4⟩ := forD_ix (g := turnD (tgV 3) S.f1__law_text)
    (fun i δ μ => ∃ y s, δ = [some (.fr (.obj j)), some (.fr (.int 7)), some (.fr (.str y)), s] ∧ Asc y ∧ y.length ≤ 4 + i * 49 ∧ Src μ j (B + 3 + i * 60) ∧ Fr j μ3 μ) 7 (rangeD 0 r.toNat) 0 (by omega) (fun d hd i δ μ hi ⟨y, s, hδ, ya, yl, hs, hf⟩ => by
      subst hδ
      obtain ⟨z, μ', e, za, zl, s', f'⟩ := text_loop hs (by omega) ya (by omega) d (t := .int 7) (s := s)
      exact ⟨_, μ', e, z, _, rfl, za, by omega, s'.mono (by omega), hf.trans f'⟩) _ μ3 ⟨x, none, rfl, xa, by omega, s3.mono (by omega), .refl⟩
  subst hδ
  obtain ⟨q, μ5, e5, q0, q1, s5, f5⟩ := next_spec (n := 3) s4 (by omega) (by decide) (by decide)
  have ys : y.length ≤ 16777216 := by omega
  have hr : -4611686018427387904 ≤ r ∧ r < 4611686018427387904 := by omega
  have fr := ((((f1.trans f2).trans f3).trans f4).trans f5)
  have fin : ∀ z : Tx, (mRet (mIf (mTb (m2 (gEq false) (.e (mCall mNext [(mV 0), (mD (.int 3))] [])) (.e (mD (.int 0))))) (mV 2) (mSl gSl (.v 2) mNoP (mP (mNeg (mD (.int 1))))))) [some (.fr (.obj j)), some (.fr (.int 7)), some (.fr (.str y)), s'] μ4 = .rt (.fr (.str z)) μ5 →
      S.m__law_text [.obj j, .int 7] μ = .ok (.fr (.str z)) μ5 := by
    intro z hz
    refine fn_rt ?_
    unfold S.b__law_text
    have h1 : mSet 2 (mCall mPick [(mV 0), (mLst [(mD (.str (lit ""))), (mD (.str (lit ""))), (mCall S.m__law_gap [(mV 0)] [])])] []) (startD 4 [.obj j, .int 7]) μ = .nx [some (.fr (.obj j)), some (.fr (.int 7)), some (.fr (.str x)), none] μ2 := by
      simp [mSet, mLst, evA, mD, mCall, mV, startD, Out.bind, Out.thn, Slot.d, Own.d, e1, e2]
    rw [seq_nx h1]
    have e3' : mNext [D.obj j, .int (7 + 1)] μ2 = _ := e3
    have h2 := for_of (mi := mRange1 (.e (mCall mNext [(mV 0), (m2 gAdd (.v 1) (.e (mD (.int 1))))] []))) (δ := [some (.fr (.obj j)), some (.fr (.int 7)), some (.fr (.str x)), none]) (μ := μ2) (ds := rangeD 0 r.toNat) (δ1 := [some (.fr (.obj j)), some (.fr (.int 7)), some (.fr (.str x)), none]) (μ1 := μ3)
      (by simp [mRange1, evs, Opn.ev, m2, OR.at, OR.ats, look, gAdd, gInt, lift, e3, hr, mCall, evA, mV, mD, Out.bind, Slot.d]) e4
    rw [seq_nx h2]
    exact hz
  by_cases hq : q = 0
  · refine ⟨y, μ5, fin y ?_, ya, by omega, s5.mono (by omega), fr⟩
    simp [mRet, mIf, mTb, m2, Opn.ev, mCall, evA, mV, mD, Out.bind, Out.thn, Slot.d, e5, OR.at, look, gEq, eqS, lift, hq]
  · refine ⟨cutD y none (some (-1)), μ5, fin _ ?_, fun c hc => ya c ?_, ?_, s5.mono (by omega), fr⟩
    · simp [mRet, mIf, mTb, m2, Opn.ev, mCall, evA, mV, mD, Out.bind, Out.thn, Slot.d, e5, OR.at, look, gEq, eqS, lift, hq, mSl, mNoP, mP, mNeg, gSl, ys]
    · exact List.mem_of_mem_drop (List.mem_of_mem_take hc)
    · have : (cutD y none (some (-1))).length ≤ y.length := by unfold cutD; rw [List.length_take, List.length_drop]; omega
      omega
end FL

/-! Part Tw: a text cut into words by the law, and by the program. -/
namespace FL
open PySem L2
/-! ### the law's own way to cut a text -/
def sp (c : Nat) : Nat := if c ∈ WS then c else 32
def chunks (x : Tx) : List Tx := (List.range ((x.length + 19) / 20)).map fun i => (x.drop (20 * i)).take 20
theorem chunks_eq {l : Tx} (h1 : 1 ≤ l.length) (h2 : l.length ≤ 20) : ∀ f : List Tx, (∀ p ∈ f, p.length = 20) → chunks (f ++ [l]).flatten = f ++ [l]
  | [], _ => by
    have e : (l.length + 19) / 20 = 1 := by omega
    unfold chunks
    simp [e, List.range_succ, List.take_of_length_le h2]
  | p :: f, h => by
    have hp := h p (List.mem_cons_self ..)
    have ih := chunks_eq h1 h2 f fun q hq => h q (List.mem_cons_of_mem _ hq)
    unfold chunks at ih ⊢
    have hl : ((p :: f ++ [l]).flatten).length = 20 + ((f ++ [l]).flatten).length := by simp [hp]
    rw [hl, show (20 + ((f ++ [l]).flatten).length + 19) / 20 = (((f ++ [l]).flatten).length + 19) / 20 + 1 by omega, List.range_succ_eq_map, List.map_cons, List.map_map]
    have e0 : List.take 20 (List.drop (20 * 0) (p :: f ++ [l]).flatten) = p := by
      simp only [Nat.mul_zero, List.drop_zero, List.cons_append, List.flatten_cons]
      rw [List.take_append_of_le_length (by omega), List.take_of_length_le (by omega)]
    have e1 : List.map ((fun i => List.take 20 (List.drop (20 * i) (p :: f ++ [l]).flatten)) ∘ Nat.succ) (List.range (((f ++ [l]).flatten.length + 19) / 20)) = List.map (fun i => List.take 20 (List.drop (20 * i) (f ++ [l]).flatten)) (List.range (((f ++ [l]).flatten.length + 19) / 20)) := by
      apply List.map_congr_left
      intro i _
      show List.take 20 (List.drop (20 * (i + 1)) (p :: f ++ [l]).flatten) = _
      rw [List.cons_append, List.flatten_cons, show 20 * (i + 1) = p.length + 20 * i by omega, List.drop_append, List.drop_of_length_le (by omega), List.nil_append, Nat.add_sub_cancel_left]
    rw [e0, e1, ih]
    rfl
theorem words_chunks {x : Tx} (hx : ∀ c ∈ x, c ∈ WS) (h0 : x ≠ []) : wordsL x = chunks x := by
  obtain ⟨f, l, e, h1, h2, h3, h4, _⟩ := wordsL_run hx h0
  rw [e, ← h1, chunks_eq h3 h4 f h2]
theorem sp_in {c : Nat} (h : c ∈ WS) : sp c = c := if_pos h
theorem sp_out {c : Nat} (h : c ∉ WS) : sp c = 32 := if_neg h
theorem ws_nosp : ∀ c ∈ WS, Unicode.isSpace c = false := by decide +kernel
structure WI (z : Tx) (g : List Tx) (r : Tx) : Prop where
  ex : ∃ pre, z = pre ++ r ∧ (pre = [] ∨ ∃ q c, pre = q ++ [c] ∧ c ∉ WS) ∧ wordsL pre = g.flatMap chunks
  r : ∀ c ∈ r, c ∈ WS
  g : ∀ w ∈ g, w ≠ [] ∧ ∀ c ∈ w, c ∈ WS
theorem pre_app {pre r : Tx} (h : pre = [] ∨ ∃ q c, pre = q ++ [c] ∧ c ∉ WS) : wordsL (pre ++ r) = wordsL pre ++ wordsL r := by
  rcases h with rfl | ⟨q, c, rfl, hc⟩
  · simp [wordsL_nil]
  · have hg : ∀ d ∈ [c], d ∉ WS := fun d hd => by rw [List.mem_singleton.mp hd]; exact hc
    rw [wordsL_gap hg (by simp), wordsL_gap1 hg (by simp)]
theorem WI.fin {z : Tx} {g : List Tx} {r : Tx} (h : WI z g r) : wordsL z = (TL.wfin (g, r)).flatMap chunks := by
  obtain ⟨pre, rfl, h1, h2⟩ := h.ex
  rw [pre_app h1, h2]
  unfold TL.wfin
  by_cases hr : r = []
  · subst hr; simp [wordsL_nil]
  · simp only [hr, if_false]
    rw [List.flatMap_append, words_chunks h.r hr]
    simp
theorem WI.step {z : Tx} {g : List Tx} {r : Tx} (h : WI z g r) (c : Nat) : WI (z ++ [c]) (TL.wstep (g, r) (sp c)).1 (TL.wstep (g, r) (sp c)).2 := by
  obtain ⟨pre, rfl, h1, h2⟩ := h.ex
  by_cases hc : c ∈ WS
  · rw [sp_in hc]
    have e : TL.wstep (g, r) c = (g, r ++ [c]) := by unfold TL.wstep; rw [ws_nosp c hc]; simp
    rw [e]
    refine ⟨⟨pre, by simp, h1, h2⟩, fun d hd => ?_, h.g⟩
    rcases List.mem_append.mp hd with hd | hd
    · exact h.r d hd
    · rw [List.mem_singleton.mp hd]; exact hc
  · rw [sp_out hc]
    have hs : Unicode.isSpace 32 = true := by decide +kernel
    have hg : ∀ d ∈ [c], d ∉ WS := fun d hd => by rw [List.mem_singleton.mp hd]; exact hc
    by_cases hr : r = []
    · subst hr
      have e : TL.wstep (g, []) 32 = (g, []) := by unfold TL.wstep; rw [hs]; simp
      rw [e]
      refine ⟨⟨pre ++ [c], by simp, .inr ⟨pre, c, rfl, hc⟩, ?_⟩, by simp, h.g⟩
      rw [wordsL_gap1 hg (by simp), h2]
    · have e : TL.wstep (g, r) 32 = (g ++ [r], []) := by unfold TL.wstep; rw [hs]; simp [hr]
      rw [e]
      refine ⟨⟨pre ++ r ++ [c], by simp, .inr ⟨pre ++ r, c, rfl, hc⟩, ?_⟩, by simp, fun w hw => ?_⟩
      · rw [wordsL_gap1 hg (by simp), pre_app h1, h2, List.flatMap_append, words_chunks h.r hr]
        simp
      · rcases List.mem_append.mp hw with hw | hw
        · exact h.g w hw
        · rw [List.mem_singleton.mp hw]; exact ⟨hr, h.r⟩
theorem WI.fold : ∀ (y z : Tx) (g : List Tx) (r : Tx), WI z g r → WI (z ++ y) ((y.map sp).foldl TL.wstep (g, r)).1 ((y.map sp).foldl TL.wstep (g, r)).2
  | [], z, g, r, h => by simpa using h
  | c :: y, z, g, r, h => by
    have := WI.fold y (z ++ [c]) _ _ (h.step c)
    simpa using this
theorem WI.nil : WI [] [] [] := ⟨⟨[], rfl, .inl rfl, rfl⟩, by simp, by simp⟩
theorem split_words_eq (z : Tx) : wordsL z = (TL.wfin ((z.map sp).foldl TL.wstep ([], []))).flatMap chunks := by
  have h := WI.fold z [] [] [] .nil
  rw [List.nil_append] at h
  exact h.fin
end FL
namespace FL
open PySem L2
section
variable {a b c d e f : Option FL.Slot} {μ : Mem}
theorem words_chars : ∀ (y : Tx) (acc : List D), acc.length + y.length < 16777216 →
    lcD (tgV 6) mYes S.e1__law_words [6] (chars y) acc [a, some (.fr (.str WS)), c, d, e, f, none] μ = .ok (.own (.lst (acc ++ y.map fun c => D.str [sp c]))) [a, some (.fr (.str WS)), c, d, e, f, none] μ
  | [], acc, _ => by simp [chars]
  | x :: y, acc, h => by
    rw [List.length_cons] at h
    have ih := words_chars y (acc ++ [D.str [sp x]]) (by rw [List.length_append, List.length_singleton]; omega)
    have ha : acc.length < 16777216 := by omega
    have e0 : lit " " = [32] := by decide +kernel
    rw [show chars (x :: y) = .str [x] :: chars y from rfl, lcD_cons]
    by_cases hx : x ∈ WS
    · simp only [sp_in hx] at ih
      simp [S.e1__law_words, hx, sp_in hx, ha, ih]
    · simp only [sp_out hx] at ih
      simp [S.e1__law_words, hx, sp_out hx, ha, ih, e0]
theorem cut_chunk (x : Tx) (i : Nat) : cutD x (some ((i : Int) * 20)) (some ((i : Int) * 20 + 20)) = (x.drop (20 * i)).take 20 := by
  have h1 : HT.sIx x.length 0 (some ((i : Int) * 20)) = min (20 * i) x.length := by
    have := HT.sIx_nat x.length 0 (20 * i)
    rw [show ((20 * i : Nat) : Int) = (i : Int) * 20 by omega] at this
    exact this
  have h2 : HT.sIx x.length x.length (some ((i : Int) * 20 + 20)) = min (20 * i + 20) x.length := by
    have := HT.sIx_nat x.length x.length (20 * i + 20)
    rw [show ((20 * i + 20 : Nat) : Int) = (i : Int) * 20 + 20 by omega] at this
    exact this
  unfold cutD
  rw [h1, h2]
  by_cases h3 : 20 * i ≤ x.length
  · rw [Nat.min_eq_left h3]
    by_cases h4 : 20 * i + 20 ≤ x.length
    · rw [Nat.min_eq_left h4, show 20 * i + 20 - 20 * i = 20 by omega]
    · rw [Nat.min_eq_right (by omega), List.take_of_length_le (by simp), List.take_of_length_le (by simp; omega)]
  · rw [List.drop_of_length_le (by omega), List.drop_of_length_le (by omega)]
    simp
theorem words_in {run : Tx} (hr : run.length ≤ 16777216) : ∀ (is : List Nat) (acc : List Tx) (s : Option FL.Slot), acc.length + is.length < 16777216 →
    ∃ s', forD (turnD (tgV 5) S.f2__law_words) (is.map fun i => .int (0 + (i : Nat) * 20)) [a, b, some (.own (.lst (acc.map .str))), d, some (.fr (.str run)), s, f] μ =
      .nx [a, b, some (.own (.lst ((acc ++ is.map fun i => (run.drop (20 * i)).take 20).map .str))), d, some (.fr (.str run)), s', f] μ
  | [], acc, s, _ => ⟨s, by simp⟩
  | i :: is, acc, s, h => by
    rw [List.length_cons] at h
    obtain ⟨s', e⟩ := words_in hr is (acc ++ [(run.drop (20 * i)).take 20]) (some (.fr (.int ((i : Int) * 20)))) (by rw [List.length_append, List.length_singleton]; omega)
    refine ⟨s', ?_⟩
    have ha : acc.length < 16777216 := by omega
    rw [List.map_cons, forD_cons]
    simp [S.f2__law_words, hr, ha, cut_chunk] at e ⊢
    exact e
theorem small20 : (20 : Int).natAbs < 1073741824 := by decide
theorem r3_of {o o' o2 : Opn} {δ δ1 : FL.Loc} {μ μ1 : Mem} {rs : List OR} {i j c : Int} (h : evs [o, o', o2] δ μ = .ok rs δ1 μ1) (h2 : OR.ats δ1 μ1 rs = some [.int i, .int j, .int c])
    (hc : c ≠ 0 ∧ c.natAbs < 1073741824 ∧ Builtin.Range.small i j c = true ∧ 0 ≤ Builtin.Range.rangeSize i j c) : mRange3 o o' o2 δ μ = .ok (rangeC i c (Builtin.Range.rangeSize i j c).toNat) δ1 μ1 := by
  unfold mRange3
  rw [h, ev_b1, h2]
  exact if_pos hc
theorem rangeC_ok {n m : Nat} (r1 : Builtin.Range.small 0 n 20 = true) (r2 : Builtin.Range.rangeSize 0 n 20 = (m : Int)) : (20 : Int) ≠ 0 ∧ (20 : Int).natAbs < 1073741824 ∧ Builtin.Range.small 0 n 20 = true ∧ 0 ≤ Builtin.Range.rangeSize 0 n 20 :=
  ⟨by decide, small20, r1, by rw [r2]; exact Int.natCast_nonneg _⟩
theorem range20 {n : Nat} (h : n ≤ 1000000) : Builtin.Range.small 0 n 20 = true ∧ Builtin.Range.rangeSize 0 n 20 = ((n + 19) / 20 : Nat) := by
  have e : Builtin.Range.rangeSize 0 n 20 = ((n + 19) / 20 : Nat) := by
    unfold Builtin.Range.rangeSize
    simp only [show ((20 : Int) > 0) = True by simp, if_true]
    by_cases h0 : (0 : Int) < n
    · rw [if_pos h0]; omega
    · rw [if_neg h0]; omega
  refine ⟨?_, e⟩
  unfold Builtin.Range.small
  rw [e]
  simp [Builtin.Range.rangeFitsLong]
  omega
theorem words_out {N : Nat} (hN : N ≤ 10000) : ∀ (runs : List Tx) (acc : List Tx) (s s2 : Option FL.Slot), acc.length + (runs.flatMap chunks).length ≤ N →
    ∃ s' s2', forD (turnD (tgV 4) S.f3__law_words) (runs.map .str) [a, b, some (.own (.lst (acc.map .str))), d, s, s2, f] μ =
      .nx [a, b, some (.own (.lst ((acc ++ runs.flatMap chunks).map .str))), d, s', s2', f] μ
  | [], acc, s, s2, _ => ⟨s, s2, by simp⟩
  | run :: runs, acc, s, s2, h => by
    rw [List.flatMap_cons, List.length_append] at h
    have hc : (chunks run).length = (run.length + 19) / 20 := by simp [chunks]
    obtain ⟨r1, r2⟩ := range20 (n := run.length) (by omega)
    obtain ⟨t2, e1⟩ := words_in (a := a) (b := b) (d := d) (f := f) (μ := μ) (run := run) (by omega) (List.range ((run.length + 19) / 20)) acc s2 (by rw [List.length_range]; omega)
    obtain ⟨s', s2', e2⟩ := words_out hN runs (acc ++ chunks run) (some (.fr (.str run))) t2 (by rw [List.length_append]; omega)
    refine ⟨s', s2', ?_⟩
    have hl : run.length ≤ 16777216 := by omega
    have er : rangeC 0 20 (((run.length + 19) / 20 : Nat) : Int).toNat = (List.range ((run.length + 19) / 20)).map fun i => D.int (0 + (i : Nat) * 20) := by rw [Int.toNat_natCast]; rfl
    have g := r3_of (o := .e (mD (.int 0))) (o' := .e (mC gLen [(.v 4)])) (o2 := .e (mD (.int 20))) (δ := [a, b, some (.own (.lst (acc.map .str))), d, some (.fr (.str run)), s2, f]) (μ := μ) (rs := [.d (.int 0), .d (.int run.length), .d (.int 20)]) (δ1 := [a, b, some (.own (.lst (acc.map .str))), d, some (.fr (.str run)), s2, f]) (μ1 := μ) (i := 0) (j := run.length) (c := 20) (by simp [hl]) (by simp) (rangeC_ok r1 r2)
    rw [r2, er] at g
    rw [List.map_cons, forD_cons, ev_turn, ev_tgV]
    show (S.f3__law_words [a, b, some (.own (.lst (acc.map .str))), d, some (.fr (.str run)), s2, f] μ).loop _ = _
    unfold S.f3__law_words
    rw [ev_For, g, ev_t1, e1, ev_l1]
    rw [List.flatMap_cons, ← List.append_assoc]
    exact e2
theorem law_words_spec {x : Tx} (ha : ∀ c ∈ x, c < 128) (hl : x.length ≤ 1000) : S.m__law_words [.str x] μ = .ok (.own (.lst ((wordsT x).map .str))) μ := by
  have ha' : x.all (· < 128) = true := List.all_eq_true.mpr fun c hc => decide_eq_true (ha c hc)
  have hl2 : x.length ≤ 5592405 := by omega
  have W := split_words_eq (x.map lo1)
  have wl := words_len x
  unfold wordsT at wl ⊢
  rw [W] at wl ⊢
  obtain ⟨s', s2', e2⟩ := words_out (a := some (.fr (.str x))) (b := some (.fr (.str WS))) (d := some (.fr (.str ((x.map lo1).map sp)))) (f := none) (μ := μ) (N := (TL.wfin (((x.map lo1).map sp).foldl TL.wstep ([], []))).flatMap chunks |>.length) (by omega) (TL.wfin (((x.map lo1).map sp).foldl TL.wstep ([], []))) [] none none (by rw [List.length_nil, Nat.zero_add]; exact Nat.le_refl _)
  have e1 := words_chars (a := some (.fr (.str x))) (c := some (.own (.lst []))) (d := none) (e := none) (f := none) (μ := μ) (x.map lo1) [] (by simp; omega)
  have es : strsD ((x.map lo1).map fun c => D.str [sp c]) = some ((x.map lo1).map fun c => [sp c]) := by
    have := strsD_of ((x.map lo1).map fun c => [sp c])
    rw [List.map_map] at this
    exact this
  have ej : joinT [] ((x.map lo1).map fun c => [sp c]) = (x.map lo1).map sp := by
    rw [joinT_nil, show ((x.map lo1).map fun c => [sp c]) = ((x.map lo1).map sp).map fun c => [c] from (List.map_map (g := fun c => [c]) (f := sp)).symm, flat_ones]
  have el : (((x.map lo1).map fun c => [sp c]).map List.length).sum ≤ 16777216 := by
    rw [show ((x.map lo1).map fun c => [sp c]) = ((x.map lo1).map sp).map fun c => [c] from (List.map_map (g := fun c => [c]) (f := sp)).symm, sum_ones, List.length_map, List.length_map]
    omega
  have gj : gJoin (.str (lit "")) [.lst ((x.map lo1).map fun c => D.str [sp c])] = some (.fr (.str ((x.map lo1).map sp))) := by
    unfold gJoin
    simp only [es, lit_nil, List.length_nil, Nat.zero_mul, Nat.add_zero, el, decide_true, if_true, ej]
  have gl : gLower (.str x) [] = some (.fr (.str (x.map lo1))) := by simp [gLower, ha', hl2]
  have gw : gWords (.str ((x.map lo1).map sp)) [] = some (.own (.lst ((TL.wfin (((x.map lo1).map sp).foldl TL.wstep ([], []))).map .str))) := by
    exact if_pos (by rw [List.length_map, List.length_map]; omega)
  simp only [List.nil_append, List.map_nil] at e1 e2
  simp only [S.m__law_words, ev_Fn, S.b__law_words, startD, ev_Seq, ev_Par, ev_D, ev_Lst, ev_evA0, ev_b1, ev_t1, List.length_nil, Nat.zero_le, if_true, List.map_cons, List.map_nil, List.length_cons, List.replicate, Nat.reduceAdd, Nat.reduceSub, List.cons_append, List.nil_append, List.set_cons_succ, List.set_cons_zero, ev_s1, ev_Set, ev_M, ev_e, ev_dfr, ev_at1, ev_lk3, ev_it1, beq_self_eq_true, ev_evs1, ev_evs0, ev_Lc, ev_It, ev_v, List.getElem?_cons_succ, List.getElem?_cons_zero, ev_at2, ev_ats0, gl, ev_lift1, ev_ia3, ev_ia1, ev_wp0, ev_wp1, ws_eq, e1, ev_down, ev_owd, ev_ats1, ev_lk6, gj, gw, ev_For, e2, ev_Ret, ev_Mv, ev_f2]
end
end FL
namespace FL
open PySem L2
theorem Sh.asc {x : Tx} (h : ∀ c ∈ x, c < 128) : Sh 0 (10 * x.length + 2) (.str x) := by
  have hl := StrLaws.reprText_len (toS x) (fun c hc => by
    have := h c hc
    have e : (16 : Nat) ^ 8 = 4294967296 := by decide
    omega)
  rw [toS_len] at hl
  exact ⟨.str (toS x), rfl, by simp [PyData.showable], by simp [PyData.hasDict], strOk_ascii h, by simp [PyData.depth], hl⟩
theorem Sh.words {ws : List Tx} {n : Nat} (h : ∀ w ∈ ws, (∀ c ∈ w, c < 128) ∧ w.length ≤ n) : Sh 1 (2 + ws.length * (10 * n + 4)) (.lst (ws.map .str)) := by
  have := Sh.lst (d := 0) (n := 10 * n + 2) (xs := ws.map D.str) fun x hx => by
    obtain ⟨w, hw, rfl⟩ := List.mem_map.mp hx
    exact (Sh.asc (h w hw).1).mono (Nat.le_refl _) (by have := (h w hw).2; omega)
  rw [List.length_map] at this
  exact this.mono (by omega) (by rw [show 10 * n + 2 + 2 = 10 * n + 4 by omega]; omega)
section
variable {μ : Mem}
theorem kitB_no : kitB "NoneType" "str" = some false ∧ kitB "bool" "str" = some false ∧ kitB "int" "str" = some false ∧ kitB "list" "str" = some false ∧ kitB "tuple" "str" = some false ∧ kitB "dict" "str" = some false := by
  refine ⟨?_, ?_, ?_, ?_, ?_, ?_⟩ <;> kernel_rfl
/-- a value that is no text -/
def noStr : D → Bool
  | .non | .bl _ | .int _ | .lst _ | .tup _ | .dct _ _ => true
  | _ => false
theorem isi_no {d : D} (h : noStr d = true) : gIsi [d, .ty "str"] = some (tb false) := by
  obtain ⟨h1, h2, h3, h4, h5, h6⟩ := kitB_no
  cases d <;> first | (cases h; done) | skip
  all_goals simp [gIsi, tyN, h1, h2, h3, h4, h5, h6]
theorem isi_str {x : Tx} : gIsi [.str x, .ty "str"] = some (tb true) := by simp [gIsi, tyN, kitB_ss]
theorem is_text_str {x : Tx} (hl : x.length ≤ 16777216) : S.m_is_text [.str x] μ = .ok (.fr (.bl (decide (x.length ≤ 400)))) μ := by
  simp [S.m_is_text, S.b_is_text, startD, isi_str, hl]
  omega
theorem look_no {d : D} (h : noStr d = true) : look μ d = some d := by cases d <;> first | rfl | cases h
theorem is_text_no {d : D} (h : noStr d = true) : S.m_is_text [d] μ = .ok (.fr (.bl false)) μ := by
  simp [S.m_is_text, S.b_is_text, startD, isi_no h, look_no h]
theorem split_sp {x : Tx} (ha : ∀ c ∈ x, c < 128) (hl : x.length ≤ 1000) : S.m_split_words [.str x] μ = .ok (.own (.lst ((wordsT x).map .str))) μ := by
  have ha' : x.all (· < 128) = true := List.all_eq_true.mpr fun c hc => decide_eq_true (ha c hc)
  have hl2 : x.length ≤ 5592405 := by omega
  obtain ⟨s', e⟩ := split_loop (t := .str x) (μ := μ) (x.map lo1) ([], []) none (by simp; omega) (by simp; omega)
  have hlen := foldW_len (x.map lo1) ([], [])
  generalize hw : (x.map lo1).foldl stepW ([], []) = w at e hlen
  obtain ⟨f, r⟩ := w
  have hf : f.length + 1 ≤ 16777216 := by simp at hlen; omega
  have gl : gLower (.str x) [] = some (.fr (.str (x.map lo1))) := by simp [gLower, ha', hl2]
  have e0 : (stW (.str x) ([], []) none) = [some (.fr (.str x)), some (.own (.lst [])), some (.fr (.str [])), none] := rfl
  rw [e0] at e
  have hW : wordsT x = finW (f, r) := by unfold wordsT wordsL; rw [hw]
  have e' : forD (turnD (tgV 3) S.f1_split_words) (chars (x.map lo1)) [some (.fr (.str x)), some (.own (.lst [])), some (.fr (.str [])), none] μ = .nx [some (.fr (.str x)), some (.own (.lst (f.map .str))), some (.fr (.str r)), s'] μ := e
  rw [hW]
  by_cases hr : r = []
  · subst hr
    simp [S.m_split_words, S.b_split_words, startD, lit_nil, gl, e', finW]
  · simp [S.m_split_words, S.b_split_words, startD, lit_nil, gl, e', finW, hr, hf]
end
end FL
namespace FL
open PySem L2
theorem stepW_short {st : List Tx × Tx} (h1 : ∀ w ∈ st.1, w.length ≤ 20 ∧ w ≠ []) (h2 : st.2.length < 20) (c : Nat) : (∀ w ∈ (stepW st c).1, w.length ≤ 20 ∧ w ≠ []) ∧ (stepW st c).2.length < 20 := by
  obtain ⟨f, r⟩ := st
  have h2' : r.length < 20 := h2
  unfold stepW
  by_cases hc : c ∈ WS
  · by_cases hl : (r ++ [c]).length = 20
    · simp only [hc, hl, if_true]
      refine ⟨fun w hw => ?_, by simp⟩
      rcases List.mem_append.mp hw with hw | hw
      · exact h1 w hw
      · rw [List.mem_singleton.mp hw]; exact ⟨by omega, by simp⟩
    · simp only [hc, hl, if_true, if_false]
      refine ⟨h1, ?_⟩
      simp only [List.length_append, List.length_singleton] at hl ⊢
      omega
  · by_cases hr : r = []
    · simp only [hc, hr, if_true, if_false]
      exact ⟨h1, by simp⟩
    · simp only [hc, hr, if_false]
      refine ⟨fun w hw => ?_, by simp⟩
      rcases List.mem_append.mp hw with hw | hw
      · exact h1 w hw
      · rw [List.mem_singleton.mp hw]; exact ⟨by omega, hr⟩
theorem foldW_short : ∀ (y : Tx) (st : List Tx × Tx), (∀ w ∈ st.1, w.length ≤ 20 ∧ w ≠ []) → st.2.length < 20 → (∀ w ∈ (y.foldl stepW st).1, w.length ≤ 20 ∧ w ≠ []) ∧ (y.foldl stepW st).2.length < 20
  | [], _, h1, h2 => ⟨h1, h2⟩
  | c :: y, st, h1, h2 => by
    have := stepW_short h1 h2 c
    exact foldW_short y (stepW st c) this.1 this.2
theorem wordsL_wd {y : Tx} : ∀ w ∈ wordsL y, w.length ≤ 20 ∧ w ≠ [] := fun w hw => by
  have := foldW_short y ([], []) (by simp) (by simp)
  unfold wordsL finW at hw
  by_cases hr : (y.foldl stepW ([], [])).2 = []
  · rw [if_pos hr] at hw
    exact this.1 w hw
  · rw [if_neg hr] at hw
    rcases List.mem_append.mp hw with hw | hw
    · exact this.1 w hw
    · rw [List.mem_singleton.mp hw]; exact ⟨by omega, hr⟩
theorem wordsL_short {y : Tx} : ∀ w ∈ wordsL y, w.length ≤ 20 := fun w hw => (wordsL_wd w hw).1
end FL

/-! Part Q: fractions, in plain words. R: what stands where an exception is raised. -/
namespace FL
open PySem L2
theorem kitB_ii : kitB "int" "int" = some true := by kernel_rfl
theorem kitB_ib : kitB "int" "bool" = some false := by kernel_rfl
theorem kitB_tt : kitB "tuple" "tuple" = some true := by kernel_rfl
noncomputable def bIsInt : MS := (mSeq (mIfS (mOr (mNot (mTb (mC gIsi [(.v 0), (.e (mD (.ty "int")))]))) (mTb (mC gIsi [(.v 0), (.e (mD (.ty "bool")))]))) (mRet (mD (.bl false)))
    mPass)
    (mRet (mAndV (mOrV (m2 (gIsN false) (.v 1) (.e (mD .non))) (m2 gLe (.v 1) (.v 0))) (mOrV (m2 (gIsN false) (.v 2) (.e (mD .non))) (m2 gLe (.v 0) (.v 2))))))
noncomputable def mIsInt : MF := mFn 3 bIsInt
noncomputable def bGcd : MS := (mSeq (mWhile (mTb (m2 gGt (.v 1) (.e (mD (.int 0))))) (mPar 0 1 (mV 1) (m2 gMod (.v 0) (.v 1))))
    (mRet (mV 0)))
noncomputable def mGcd : MF := mFn 2 bGcd
noncomputable def bReduced : MS := (mSeq (mIfS (mTb (m2 gLt (.v 1) (.e (mD (.int 0))))) (mPar 0 1 (m2 gSub (.e (mD (.int 0))) (.v 0)) (m2 gSub (.e (mD (.int 0))) (.v 1)))
    mPass)
    (mSeq (mSet 2 (mCall mGcd [(mC gAbs [(.v 0)]), (mV 1)] []))
    (mRet (mTup [(m2 gDiv (.v 0) (.v 2)), (m2 gDiv (.v 1) (.v 2))]))))
noncomputable def mReduced : MF := mFn 3 bReduced
noncomputable def bIsFr : MS := (mSeq (mIfS (mOr (mNot (mTb (mC gIsi [(.v 0), (.e (mD (.ty "tuple")))]))) (mTb (m2 (gEq true) (.e (mC gLen [(.v 0)])) (.e (mD (.int 2)))))) (mRet (mD (.bl false)))
    mPass)
    (mSeq (mIfS (mOr (mNot (mTb (mCall mIsInt [(m2 gIxL (.v 0) (.e (mD (.int 0)))), (mD .non), (mD .non)] []))) (mNot (mTb (mCall mIsInt [(m2 gIxL (.v 0) (.e (mD (.int 1)))), (mD (.int 1)), (mD .non)] [])))) (mRet (mD (.bl false)))
    mPass)
    (mRet (m2 (gEq false) (.e (mCall mGcd [(mC gAbs [(.e (m2 gIxL (.v 0) (.e (mD (.int 0)))))]), (m2 gIxL (.v 0) (.e (mD (.int 1))))] [])) (.e (mD (.int 1)))))))
noncomputable def mIsFr : MF := mFn 1 bIsFr
noncomputable def bNeed (R : MS) : MS := (mIfS (mNot (mTb (mCall mIsFr [(mV 0)] []))) R
    mPass)
noncomputable def mNeed (R : MS) : MF := mFn 1 (bNeed R)
noncomputable def bFraction (R R' : MS) : MS := (mSeq (mIfS (mOr (mNot (mTb (mCall mIsInt [(mV 0), (mD .non), (mD .non)] []))) (mNot (mTb (mCall mIsInt [(mV 1), (mD .non), (mD .non)] [])))) R
    mPass)
    (mSeq (mIfS (mTb (m2 (gEq false) (.v 1) (.e (mD (.int 0))))) R'
    mPass)
    (mRet (mCall mReduced [(mV 0), (mV 1)] []))))
noncomputable def mFraction (R R' : MS) : MF := mFn 2 (bFraction R R')
noncomputable def bAddF (R : MS) : MS := (mSeq (mEx (mCall (mNeed R) [(mV 0)] []))
    (mSeq (mEx (mCall (mNeed R) [(mV 1)] []))
    (mRet (mCall mReduced [(m2 gAdd (.e (m2 gMulA (.e (m2 gIxL (.v 0) (.e (mD (.int 0))))) (.e (m2 gIxL (.v 1) (.e (mD (.int 1))))))) (.e (m2 gMulA (.e (m2 gIxL (.v 1) (.e (mD (.int 0))))) (.e (m2 gIxL (.v 0) (.e (mD (.int 1)))))))), (m2 gMulA (.e (m2 gIxL (.v 0) (.e (mD (.int 1))))) (.e (m2 gIxL (.v 1) (.e (mD (.int 1))))))] []))))
noncomputable def mAddF (R : MS) : MF := mFn 2 (bAddF R)
noncomputable def bMulF (R : MS) : MS := (mSeq (mEx (mCall (mNeed R) [(mV 0)] []))
    (mSeq (mEx (mCall (mNeed R) [(mV 1)] []))
    (mRet (mCall mReduced [(m2 gMulA (.e (m2 gIxL (.v 0) (.e (mD (.int 0))))) (.e (m2 gIxL (.v 1) (.e (mD (.int 0)))))), (m2 gMulA (.e (m2 gIxL (.v 0) (.e (mD (.int 1))))) (.e (m2 gIxL (.v 1) (.e (mD (.int 1))))))] []))))
noncomputable def mMulF (R : MS) : MF := mFn 2 (bMulF R)
noncomputable def bDivF (R R' : MS) : MS := (mSeq (mEx (mCall (mNeed R) [(mV 0)] []))
    (mSeq (mEx (mCall (mNeed R) [(mV 1)] []))
    (mSeq (mIfS (mTb (m2 (gEq false) (.e (m2 gIxL (.v 1) (.e (mD (.int 0))))) (.e (mD (.int 0))))) R'
    mPass)
    (mRet (mCall mReduced [(m2 gMulA (.e (m2 gIxL (.v 0) (.e (mD (.int 0))))) (.e (m2 gIxL (.v 1) (.e (mD (.int 1)))))), (m2 gMulA (.e (m2 gIxL (.v 0) (.e (mD (.int 1))))) (.e (m2 gIxL (.v 1) (.e (mD (.int 0))))))] [])))))
noncomputable def mDivF (R R' : MS) : MF := mFn 2 (bDivF R R')
noncomputable def bLessF (R : MS) : MS := (mSeq (mEx (mCall (mNeed R) [(mV 0)] []))
    (mSeq (mEx (mCall (mNeed R) [(mV 1)] []))
    (mRet (m2 gLt (.e (m2 gMulA (.e (m2 gIxL (.v 0) (.e (mD (.int 0))))) (.e (m2 gIxL (.v 1) (.e (mD (.int 1))))))) (.e (m2 gMulA (.e (m2 gIxL (.v 1) (.e (mD (.int 0))))) (.e (m2 gIxL (.v 0) (.e (mD (.int 1)))))))))))
noncomputable def mLessF (R : MS) : MF := mFn 2 (bLessF R)

def frD (q : Rat) : D := .tup [.int q.num, .int (q.den : Int)]
def Sz (k : Nat) (q : Rat) : Prop := q.num.natAbs < 2 ^ k ∧ q.den < 2 ^ k
theorem log_lt {n : Int} {k : Nat} (hk : 0 < k) (h : n.natAbs < 2 ^ k) : n.natAbs.log2 < k := by
  by_cases hz : n.natAbs = 0
  · rw [hz]; simpa using hk
  · exact (Nat.log2_lt hz).mpr h
theorem gcd_loop (μ : Mem) : ∀ (b a : Nat), mWhile (mTb (m2 gGt (.v 1) (.e (mD (.int 0))))) (mPar 0 1 (mV 1) (m2 gMod (.v 0) (.v 1))) [some (.fr (.int a)), some (.fr (.int b))] μ = .nx [some (.fr (.int (Nat.gcd b a : Nat))), some (.fr (.int 0))] μ := by
  intro b
  induction b using Nat.strongRecOn with
  | _ b ih =>
    intro a
    rw [mWhile_eq]
    by_cases hb : b = 0
    · subst hb
      simp [mTb, m2, Opn.ev, mD, OR.at, look, Out.bind, Out.thn, dfr, gGt, gGtI, gInt, lift]
    · have h0 : 0 < b := by omega
      have e1 := ih (a % b) (Nat.mod_lt _ h0) b
      have e2 : ((a : Int) % (b : Int)) = ((a % b : Nat) : Int) := by omega
      rw [Nat.gcd_rec b a]
      simp [mTb, m2, Opn.ev, mD, OR.at, look, Out.bind, Out.thn, dfr, gGt, gGtI, gInt, lift, h0, mPar, mV, gMod, OutS.loop]
      rw [e2]
      exact e1
theorem gcd_spec {a b : Nat} {μ : Mem} : mGcd [.int a, .int b] μ = .ok (.fr (.int (Nat.gcd b a : Nat))) μ := by
  refine fn_rt ?_
  unfold bGcd
  have := gcd_loop μ b a
  have e : startD 2 [D.int a, .int b] = [some (.fr (.int a)), some (.fr (.int b))] := rfl
  rw [e, seq_nx this]
  simp [mRet, mV, Out.thn, dfr]
theorem isInt_n {n : Int} {μ : Mem} : mIsInt [.int n, .non, .non] μ = .ok (.fr (.bl true)) μ := by
  simp [mIsInt, bIsInt, mFn_eq, mSeq, mIfS, mOr, mNot, mTb, mC, evs, Opn.ev, mD, OR.at, OR.ats, look, startD, Out.bind, Out.thn, OutS.seq, OutS.fin, dfr, gIsi, tyN, kitB_ii, kitB_ib, lift, mPass, mRet, mAndV, mOrV, m2, gIsN]
theorem isInt_1 {n : Int} {μ : Mem} (h : 1 ≤ n) : mIsInt [.int n, .int 1, .non] μ = .ok (.fr (.bl true)) μ := by
  simp [mIsInt, bIsInt, mFn_eq, mSeq, mIfS, mOr, mNot, mTb, mC, evs, Opn.ev, mD, OR.at, OR.ats, look, startD, Out.bind, Out.thn, OutS.seq, OutS.fin, dfr, gIsi, tyN, kitB_ii, kitB_ib, lift, mPass, mRet, mAndV, mOrV, m2, gIsN, gLe, gLeI, gInt, h]
theorem at20 {a b : D} : L2.atI [a, b] 0 = some a := rfl
theorem at21 {a b : D} : L2.atI [a, b] 1 = some b := rfl
theorem abs_nat (n : Int) : (if n < 0 then -n else n) = (n.natAbs : Int) := by split <;> omega
theorem isFr_spec {q : Rat} {μ : Mem} : mIsFr [frD q] μ = .ok (.fr (.bl true)) μ := by
  have hd : 1 ≤ (q.den : Int) := by have := q.den_pos; omega
  have hg : Nat.gcd q.den q.num.natAbs = 1 := by rw [Nat.gcd_comm]; exact q.reduced
  have e := gcd_spec (a := q.num.natAbs) (b := q.den) (μ := μ)
  rw [hg] at e
  simp [mIsFr, bIsFr, frD, mFn_eq, mSeq, mIfS, mOr, mNot, mTb, mC, evs, Opn.ev, mD, OR.at, OR.ats, look, startD, Out.bind, Out.thn, OutS.seq, OutS.fin, dfr, gIsi, tyN, kitB_tt, lift, m2, gLen, gLen1, gEq, eqS, mPass, mCall, evA, gIxL, at20, at21, isInt_n, isInt_1 hd, mRet, gAbs, abs_nat, e]
theorem need_spec {R : MS} {q : Rat} {μ : Mem} : mNeed R [frD q] μ = .ok (.fr .non) μ := by
  simp [mNeed, bNeed, mFn_eq, mIfS, mNot, mTb, mCall, evA, mV, startD, Out.bind, Out.thn, OutS.fin, dfr, isFr_spec, mPass]
theorem reduced_spec {n d : Int} {μ : Mem} (hd : d ≠ 0) (hl : d.natAbs < 2 ^ 9000) : mReduced [.int n, .int d] μ = .ok (.fr (frD (Rat.divInt n d))) μ := by
  have key : ∀ (n d : Int), 0 < d → d.natAbs < 2 ^ 9000 → (mSeq (mSet 2 (mCall mGcd [(mC gAbs [(.v 0)]), (mV 1)] []))
    (mRet (mTup [(m2 gDiv (.v 0) (.v 2)), (m2 gDiv (.v 1) (.v 2))]))) [some (.fr (.int n)), some (.fr (.int d)), none] μ = .rt (.fr (frD (Rat.divInt n d))) μ := by
    intro n d h0 hl
    have ed : d = (d.toNat : Int) := by omega
    have e := gcd_spec (a := n.natAbs) (b := d.toNat) (μ := μ)
    have hg0 : 0 < Nat.gcd d.toNat n.natAbs := Nat.gcd_pos_of_pos_left _ (by omega)
    have hgl : Nat.gcd d.toNat n.natAbs ≤ d.natAbs := by
      have := Nat.gcd_le_left n.natAbs (show 0 < d.toNat by omega)
      omega
    have hgi : (0 : Int) < (Nat.gcd d.toNat n.natAbs : Nat) := by omega
    have hlog : (Nat.gcd d.toNat n.natAbs).log2 < 9000 := (Nat.log2_lt (by omega)).mpr (by omega)
    have h1 : mSet 2 (mCall mGcd [(mC gAbs [(.v 0)]), (mV 1)] []) [some (.fr (.int n)), some (.fr (.int d)), none] μ = .nx [some (.fr (.int n)), some (.fr (.int d)), some (.fr (.int (Nat.gcd d.toNat n.natAbs : Nat)))] μ := by
      rw [← ed] at e
      simp [mSet, mCall, evA, mC, evs, Opn.ev, OR.at, OR.ats, look, mV, Out.bind, Out.thn, dfr, gAbs, abs_nat, lift, e]
    rw [seq_nx h1]
    have hnum : (Rat.divInt n d).num = n / ((Nat.gcd d.toNat n.natAbs : Nat) : Int) := by
      rw [Rat.num_divInt, Int.sign_eq_one_of_pos h0, Int.one_mul]
      congr 2
      unfold Int.gcd
      congr 1
      omega
    have hden : ((Rat.divInt n d).den : Int) = d / ((Nat.gcd d.toNat n.natAbs : Nat) : Int) := by
      rw [Rat.den_divInt, if_neg (by omega)]
      have e3 : d.gcd n = Nat.gcd d.toNat n.natAbs := by unfold Int.gcd; congr 1; omega
      rw [e3, Int.natCast_ediv]
      congr 1
      omega
    unfold frD
    rw [hnum, hden]
    generalize Nat.gcd d.toNat n.natAbs = g at hg0 hlog
    simp [mRet, mTup, evA, m2, Opn.ev, OR.at, look, Out.bind, Out.thn, dfr, gDiv, gInt, hg0, hlog, lift]
  refine fn_rt ?_
  unfold bReduced
  have e : startD 3 [D.int n, .int d] = [some (.fr (.int n)), some (.fr (.int d)), none] := rfl
  rw [e]
  by_cases hn : d < 0
  · have h1 : mIfS (mTb (m2 gLt (.v 1) (.e (mD (.int 0))))) (mPar 0 1 (m2 gSub (.e (mD (.int 0))) (.v 0)) (m2 gSub (.e (mD (.int 0))) (.v 1))) mPass [some (.fr (.int n)), some (.fr (.int d)), none] μ = .nx [some (.fr (.int (-n))), some (.fr (.int (-d))), none] μ := by
      simp [mIfS, mTb, m2, Opn.ev, mD, OR.at, look, Out.bind, Out.thn, dfr, gLt, gLtI, gInt, lift, hn, mPar, gSub]
    rw [seq_nx h1, key (-n) (-d) (by omega) (by omega), Rat.neg_divInt_neg]
  · have h1 : mIfS (mTb (m2 gLt (.v 1) (.e (mD (.int 0))))) (mPar 0 1 (m2 gSub (.e (mD (.int 0))) (.v 0)) (m2 gSub (.e (mD (.int 0))) (.v 1))) mPass [some (.fr (.int n)), some (.fr (.int d)), none] μ = .nx [some (.fr (.int n)), some (.fr (.int d)), none] μ := by
      simp [mIfS, mTb, m2, Opn.ev, mD, OR.at, look, Out.bind, Out.thn, dfr, gLt, gLtI, gInt, lift, hn, mPass]
    rw [seq_nx h1, key n d (by omega) hl]
theorem divInt_num {n d : Int} (hd : d ≠ 0) : (Rat.divInt n d).num.natAbs ≤ n.natAbs ∧ (Rat.divInt n d).den ≤ d.natAbs := by
  constructor
  · rw [Rat.num_divInt]
    have h1 : (d.sign * n / (d.gcd n : Int)).natAbs ≤ (d.sign * n).natAbs := by
      have := Int.natAbs_ediv_le_natAbs (d.sign * n) (d.gcd n : Int)
      exact this
    have h2 : (d.sign * n).natAbs ≤ n.natAbs := by
      rw [Int.natAbs_mul, Int.natAbs_sign]
      split <;> simp
    exact Nat.le_trans h1 h2
  · rw [Rat.den_divInt, if_neg hd]
    exact Nat.div_le_self _ _
theorem mul_lt_pow {a b j k : Nat} (ha : a < 2 ^ j) (hb : b < 2 ^ k) : a * b < 2 ^ (j + k) := by
  rw [Nat.pow_add]
  exact Nat.mul_lt_mul'' ha hb
theorem Sz.mono {j k : Nat} {q : Rat} (h : Sz j q) (hl : j ≤ k) : Sz k q :=
  ⟨Nat.lt_of_lt_of_le h.1 (Nat.pow_le_pow_right (by decide) hl), Nat.lt_of_lt_of_le h.2 (Nat.pow_le_pow_right (by decide) hl)⟩
theorem add_eq (p q : Rat) : Rat.divInt (p.num * q.den + q.num * p.den) (p.den * q.den) = p + q := by
  have h := Rat.divInt_add_divInt p.num q.num (d₁ := (p.den : Int)) (d₂ := (q.den : Int)) (by have := p.den_pos; omega) (by have := q.den_pos; omega)
  rw [Rat.num_divInt_den, Rat.num_divInt_den] at h
  exact h.symm
theorem mul_eq (p q : Rat) : Rat.divInt (p.num * q.num) (p.den * q.den) = p * q := by
  have h := Rat.divInt_mul_divInt p.num q.num (d₁ := (p.den : Int)) (d₂ := (q.den : Int))
  rw [Rat.num_divInt_den, Rat.num_divInt_den] at h
  exact h.symm
theorem div_eq {p q : Rat} : Rat.divInt (p.num * q.den) (p.den * q.num) = p / q := by
  have h := Rat.divInt_mul_divInt p.num (q.den : Int) (d₁ := (p.den : Int)) (d₂ := q.num)
  rw [Rat.num_divInt_den] at h
  rw [← h, Rat.div_def]
  congr 1
  rw [← Rat.inv_divInt, Rat.num_divInt_den]
theorem Sz.add {j k : Nat} {p q : Rat} (hp : Sz j p) (hq : Sz k q) : Sz (j + k + 1) (p + q) := by
  have h := divInt_num (n := p.num * q.den + q.num * p.den) (d := p.den * q.den) (by have := p.den_pos; have := q.den_pos; exact Int.mul_ne_zero (by omega) (by omega))
  rw [add_eq] at h
  have h1 : (p.num * (q.den : Int)).natAbs < 2 ^ (j + k) := by rw [Int.natAbs_mul]; exact mul_lt_pow hp.1 (by simpa using hq.2)
  have h2 : (q.num * (p.den : Int)).natAbs < 2 ^ (j + k) := by rw [Int.natAbs_mul, Nat.add_comm j k]; exact mul_lt_pow hq.1 (by simpa using hp.2)
  have h3 : ((p.den : Int) * (q.den : Int)).natAbs < 2 ^ (j + k) := by rw [Int.natAbs_mul]; exact mul_lt_pow (by simpa using hp.2) (by simpa using hq.2)
  have h4 : 2 ^ (j + k + 1) = 2 ^ (j + k) + 2 ^ (j + k) := by rw [Nat.pow_succ]; omega
  refine ⟨?_, by omega⟩
  have := Int.natAbs_add_le (p.num * (q.den : Int)) (q.num * (p.den : Int))
  omega
theorem Sz.mul {j k : Nat} {p q : Rat} (hp : Sz j p) (hq : Sz k q) : Sz (j + k) (p * q) := by
  have h := divInt_num (n := p.num * q.num) (d := p.den * q.den) (by have := p.den_pos; have := q.den_pos; exact Int.mul_ne_zero (by omega) (by omega))
  rw [mul_eq] at h
  have h1 : (p.num * q.num).natAbs < 2 ^ (j + k) := by rw [Int.natAbs_mul]; exact mul_lt_pow hp.1 hq.1
  have h3 : ((p.den : Int) * (q.den : Int)).natAbs < 2 ^ (j + k) := by rw [Int.natAbs_mul]; exact mul_lt_pow (by simpa using hp.2) (by simpa using hq.2)
  exact ⟨by omega, by omega⟩
theorem Sz.div {j k : Nat} {p q : Rat} (hp : Sz j p) (hq : Sz k q) (h0 : q.num ≠ 0) : Sz (j + k) (p / q) := by
  have h := divInt_num (n := p.num * q.den) (d := p.den * q.num) (by have := p.den_pos; exact Int.mul_ne_zero (by omega) h0)
  rw [div_eq] at h
  have h1 : (p.num * (q.den : Int)).natAbs < 2 ^ (j + k) := by rw [Int.natAbs_mul]; exact mul_lt_pow hp.1 (by simpa using hq.2)
  have h3 : ((p.den : Int) * q.num).natAbs < 2 ^ (j + k) := by rw [Int.natAbs_mul]; exact mul_lt_pow (by simpa using hp.2) hq.1
  exact ⟨by omega, by omega⟩
theorem log_pos {n : Int} {k : Nat} (h : n.natAbs < 2 ^ k) (hk : k ≤ 4000) : n.natAbs.log2 < 4001 := log_lt (by decide) (Nat.lt_of_lt_of_le h (Nat.pow_le_pow_right (by decide) (by omega)))
theorem log_den {q : Rat} {k : Nat} (h : Sz k q) (hk : k ≤ 4000) : q.den.log2 < 4001 := by
  have := log_pos (n := (q.den : Int)) (k := k) (by simpa using h.2) hk
  simpa using this
theorem add_spec {R : MS} {j k : Nat} {p q : Rat} {μ : Mem} (hp : Sz j p) (hq : Sz k q) (hj : j ≤ 4000) (hk : k ≤ 4000) : mAddF R [frD p, frD q] μ = .ok (.fr (frD (p + q))) μ := by
  have d0 : ((p.den : Int) * (q.den : Int)) ≠ 0 := by have := p.den_pos; have := q.den_pos; exact Int.mul_ne_zero (by omega) (by omega)
  have hs : ((p.den : Int) * (q.den : Int)).natAbs < 2 ^ 9000 := by
    rw [Int.natAbs_mul]
    exact Nat.lt_of_lt_of_le (mul_lt_pow (by simpa using hp.2) (by simpa using hq.2)) (Nat.pow_le_pow_right (by decide) (by omega))
  have e := reduced_spec (μ := μ) (n := p.num * q.den + q.num * p.den) d0 hs
  rw [add_eq] at e
  have l1 := log_pos hp.1 hj
  have l2 := log_den hp hj
  have l3 := log_pos hq.1 hk
  have l4 := log_den hq hk
  have m1 : p.num.natAbs.log2 + q.den.log2 < 1000000 := by omega
  have m2' : q.num.natAbs.log2 + p.den.log2 < 1000000 := by omega
  have m3 : p.den.log2 + q.den.log2 < 1000000 := by omega
  have e0 : startD 2 [frD p, frD q] = [some (.fr (frD p)), some (.fr (frD q))] := rfl
  refine fn_rt ?_
  unfold bAddF
  rw [e0]
  have n1 : mEx (mCall (mNeed R) [(mV 0)] []) [some (.fr (frD p)), some (.fr (frD q))] μ = .nx [some (.fr (frD p)), some (.fr (frD q))] μ := by
    simp [mEx, mCall, evA, mV, Out.bind, Out.thn, dfr, need_spec]
  have n2 : mEx (mCall (mNeed R) [(mV 1)] []) [some (.fr (frD p)), some (.fr (frD q))] μ = .nx [some (.fr (frD p)), some (.fr (frD q))] μ := by
    simp [mEx, mCall, evA, mV, Out.bind, Out.thn, dfr, need_spec]
  rw [seq_nx n1, seq_nx n2]
  simp [mRet, mCall, evA, m2, Opn.ev, mD, OR.at, look, Out.bind, Out.thn, dfr, frD, gIxL, at20, at21, gMulA, gMul, gAdd, gInt, lift, m1, m2', m3, e]
theorem mul_spec {R : MS} {j k : Nat} {p q : Rat} {μ : Mem} (hp : Sz j p) (hq : Sz k q) (hj : j ≤ 4000) (hk : k ≤ 4000) : mMulF R [frD p, frD q] μ = .ok (.fr (frD (p * q))) μ := by
  have d0 : ((p.den : Int) * (q.den : Int)) ≠ 0 := by have := p.den_pos; have := q.den_pos; exact Int.mul_ne_zero (by omega) (by omega)
  have hs : ((p.den : Int) * (q.den : Int)).natAbs < 2 ^ 9000 := by
    rw [Int.natAbs_mul]
    exact Nat.lt_of_lt_of_le (mul_lt_pow (by simpa using hp.2) (by simpa using hq.2)) (Nat.pow_le_pow_right (by decide) (by omega))
  have e := reduced_spec (μ := μ) (n := p.num * q.num) d0 hs
  rw [mul_eq] at e
  have l1 := log_pos hp.1 hj
  have l2 := log_den hp hj
  have l3 := log_pos hq.1 hk
  have l4 := log_den hq hk
  have m1 : p.num.natAbs.log2 + q.num.natAbs.log2 < 1000000 := by omega
  have m3 : p.den.log2 + q.den.log2 < 1000000 := by omega
  have e0 : startD 2 [frD p, frD q] = [some (.fr (frD p)), some (.fr (frD q))] := rfl
  refine fn_rt ?_
  unfold bMulF
  rw [e0]
  have n1 : mEx (mCall (mNeed R) [(mV 0)] []) [some (.fr (frD p)), some (.fr (frD q))] μ = .nx [some (.fr (frD p)), some (.fr (frD q))] μ := by
    simp [mEx, mCall, evA, mV, Out.bind, Out.thn, dfr, need_spec]
  have n2 : mEx (mCall (mNeed R) [(mV 1)] []) [some (.fr (frD p)), some (.fr (frD q))] μ = .nx [some (.fr (frD p)), some (.fr (frD q))] μ := by
    simp [mEx, mCall, evA, mV, Out.bind, Out.thn, dfr, need_spec]
  rw [seq_nx n1, seq_nx n2]
  simp [mRet, mCall, evA, m2, Opn.ev, mD, OR.at, look, Out.bind, Out.thn, dfr, frD, gIxL, at20, at21, gMulA, gMul, gInt, lift, m1, m3, e]
theorem div_spec {R R' : MS} {j k : Nat} {p q : Rat} {μ : Mem} (hp : Sz j p) (hq : Sz k q) (h0 : q.num ≠ 0) (hj : j ≤ 4000) (hk : k ≤ 4000) : mDivF R R' [frD p, frD q] μ = .ok (.fr (frD (p / q))) μ := by
  have d0 : ((p.den : Int) * q.num) ≠ 0 := by have := p.den_pos; exact Int.mul_ne_zero (by omega) h0
  have hs : ((p.den : Int) * q.num).natAbs < 2 ^ 9000 := by
    rw [Int.natAbs_mul]
    exact Nat.lt_of_lt_of_le (mul_lt_pow (by simpa using hp.2) hq.1) (Nat.pow_le_pow_right (by decide) (by omega))
  have e := reduced_spec (μ := μ) (n := p.num * q.den) d0 hs
  rw [div_eq] at e
  have l1 := log_pos hp.1 hj
  have l2 := log_den hp hj
  have l3 := log_pos hq.1 hk
  have l4 := log_den hq hk
  have m1 : p.num.natAbs.log2 + q.den.log2 < 1000000 := by omega
  have m3 : p.den.log2 + q.num.natAbs.log2 < 1000000 := by omega
  have e0 : startD 2 [frD p, frD q] = [some (.fr (frD p)), some (.fr (frD q))] := rfl
  refine fn_rt ?_
  unfold bDivF
  rw [e0]
  have n1 : mEx (mCall (mNeed R) [(mV 0)] []) [some (.fr (frD p)), some (.fr (frD q))] μ = .nx [some (.fr (frD p)), some (.fr (frD q))] μ := by
    simp [mEx, mCall, evA, mV, Out.bind, Out.thn, dfr, need_spec]
  have n2 : mEx (mCall (mNeed R) [(mV 1)] []) [some (.fr (frD p)), some (.fr (frD q))] μ = .nx [some (.fr (frD p)), some (.fr (frD q))] μ := by
    simp [mEx, mCall, evA, mV, Out.bind, Out.thn, dfr, need_spec]
  have n3 : mIfS (mTb (m2 (gEq false) (.e (m2 gIxL (.v 1) (.e (mD (.int 0))))) (.e (mD (.int 0))))) R' mPass [some (.fr (frD p)), some (.fr (frD q))] μ = .nx [some (.fr (frD p)), some (.fr (frD q))] μ := by
    refine if_fp ?_
    simp [mTb, m2, Opn.ev, mD, OR.at, look, Out.bind, dfr, frD, gIxL, at20, gEq, eqS, lift]
    exact fun z => h0 (by rw [z]; rfl)
  rw [seq_nx n1, seq_nx n2, seq_nx n3]
  simp [mRet, mCall, evA, m2, Opn.ev, mD, OR.at, look, Out.bind, Out.thn, dfr, frD, gIxL, at20, at21, gMulA, gMul, gInt, lift, m1, m3, e]
theorem less_spec {R : MS} {j k : Nat} {p q : Rat} {μ : Mem} (hp : Sz j p) (hq : Sz k q) (hj : j ≤ 4000) (hk : k ≤ 4000) : mLessF R [frD p, frD q] μ = .ok (.fr (.bl (decide (p < q)))) μ := by
  have l1 := log_pos hp.1 hj
  have l2 := log_den hp hj
  have l3 := log_pos hq.1 hk
  have l4 := log_den hq hk
  have m1 : p.num.natAbs.log2 + q.den.log2 < 1000000 := by omega
  have m3 : q.num.natAbs.log2 + p.den.log2 < 1000000 := by omega
  have e0 : startD 2 [frD p, frD q] = [some (.fr (frD p)), some (.fr (frD q))] := rfl
  refine fn_rt ?_
  unfold bLessF
  rw [e0]
  have n1 : mEx (mCall (mNeed R) [(mV 0)] []) [some (.fr (frD p)), some (.fr (frD q))] μ = .nx [some (.fr (frD p)), some (.fr (frD q))] μ := by
    simp [mEx, mCall, evA, mV, Out.bind, Out.thn, dfr, need_spec]
  have n2 : mEx (mCall (mNeed R) [(mV 1)] []) [some (.fr (frD p)), some (.fr (frD q))] μ = .nx [some (.fr (frD p)), some (.fr (frD q))] μ := by
    simp [mEx, mCall, evA, mV, Out.bind, Out.thn, dfr, need_spec]
  have hd : decide (p < q) = decide (p.num * (q.den : Int) < q.num * (p.den : Int)) := by
    by_cases h : p < q
    · rw [decide_eq_true h, decide_eq_true ((Rat.lt_iff p q).mp h)]
    · rw [decide_eq_false h, decide_eq_false fun z => h ((Rat.lt_iff p q).mpr z)]
  rw [seq_nx n1, seq_nx n2, hd]
  simp [mRet, mCall, evA, m2, Opn.ev, mD, OR.at, look, Out.bind, Out.thn, dfr, frD, gIxL, at20, at21, gMulA, gMul, gInt, lift, m1, m3, gLt, gLtI]
theorem fraction_spec {R R' : MS} {n d : Int} {μ : Mem} (hd : d ≠ 0) (hl : d.natAbs < 2 ^ 9000) : mFraction R R' [.int n, .int d] μ = .ok (.fr (frD (Rat.divInt n d))) μ := by
  have e := reduced_spec (μ := μ) (n := n) hd hl
  have e0 : startD 2 [D.int n, .int d] = [some (.fr (.int n)), some (.fr (.int d))] := rfl
  refine fn_rt ?_
  unfold bFraction
  rw [e0]
  have n1 : mIfS (mOr (mNot (mTb (mCall mIsInt [(mV 0), (mD .non), (mD .non)] []))) (mNot (mTb (mCall mIsInt [(mV 1), (mD .non), (mD .non)] [])))) R mPass [some (.fr (.int n)), some (.fr (.int d))] μ = .nx [some (.fr (.int n)), some (.fr (.int d))] μ := by
    refine if_fp ?_
    simp [mOr, mNot, mTb, mCall, evA, mV, mD, Out.bind, dfr, isInt_n]
  have n2 : mIfS (mTb (m2 (gEq false) (.v 1) (.e (mD (.int 0))))) R' mPass [some (.fr (.int n)), some (.fr (.int d))] μ = .nx [some (.fr (.int n)), some (.fr (.int d))] μ := by
    refine if_fp ?_
    simp [mTb, m2, Opn.ev, mD, OR.at, look, Out.bind, dfr, gEq, eqS, lift, hd]
  rw [seq_nx n1, seq_nx n2]
  simp [mRet, mCall, evA, mV, Out.bind, Out.thn, dfr, e]
/-! ### fractions, and lists of them, compared -/
def pyFr (q : Rat) : PyData := .tuple [.int q.num, .int (q.den : Int)]
theorem py_fr (q : Rat) : D.py (frD q) = some (pyFr q) := by simp [frD, D.py, D.pys, pyFr]
theorem eqv_fr (p q : Rat) : PyData.eqv (pyFr p) (pyFr q) = decide (p = q) := by
  have h : (p = q) ↔ (p.num = q.num ∧ (p.den : Int) = q.den) := by
    constructor
    · rintro rfl; exact ⟨rfl, rfl⟩
    · rintro ⟨h1, h2⟩; exact Rat.ext h1 (by omega)
  simp only [pyFr, PyData.eqv, PyData.eqvAll]
  by_cases e : p = q
  · subst e; simp
  · have : ¬ (p.num = q.num ∧ (p.den : Int) = q.den) := fun z => e (h.mpr z)
    rw [decide_eq_false e]
    by_cases e1 : p.num = q.num
    · have e2 : ¬ (p.den : Int) = q.den := fun z => this ⟨e1, z⟩
      simp [e1]
      omega
    · simp [e1]
theorem shaped_fr (q : Rat) : SeqAt.shaped (pyFr q) = true := by simp [SeqAt.shaped, pyFr, PyData.canLay0, PyData.canLayAll0, PyData.depth, PyData.depthAll]
theorem eq_fr (neg : Bool) (p q : Rat) : gEq neg (frD p) (frD q) = some (tb (decide (p = q) != neg)) := by
  have h : eqS (frD p) (frD q) = none := rfl
  simp [gEq, h, eqP, py_fr, shaped_fr, eqv_fr]
theorem pys_frs (qs : List Rat) : D.pys (qs.map frD) = some (qs.map pyFr) := by
  induction qs with
  | nil => rfl
  | cons q qs ih => simp [D.pys, py_fr, ih]
theorem shaped_frs (qs : List Rat) : SeqAt.shaped (.list (qs.map pyFr)) = true := by
  have h1 : PyData.canLayAll0 (qs.map pyFr) = true := by
    induction qs with
    | nil => simp [PyData.canLayAll0]
    | cons q qs ih => simp [PyData.canLayAll0, pyFr, PyData.canLay0, ih]
  have h2 : PyData.depthAll (qs.map pyFr) ≤ 1 := by
    clear h1
    induction qs with
    | nil => simp [PyData.depthAll]
    | cons q qs ih => simp [PyData.depthAll, pyFr, PyData.depth, ih]
  have h3 : PyData.depth (.list (qs.map pyFr)) ≤ 64 := by simp only [PyData.depth]; omega
  simp [SeqAt.shaped, PyData.canLay0, h1, h3]
theorem eq_frs_nil (neg : Bool) (qs : List Rat) : gEq neg (.lst (qs.map frD)) (.lst []) = some (tb (decide (qs = []) != neg)) := by
  have h := shaped_frs qs
  have h0 := shaped_frs []
  simp only [List.map_nil] at h0
  have e : PyData.eqvAll (qs.map pyFr) [] = decide (qs = []) := by cases qs <;> simp [PyData.eqvAll]
  simp [gEq, eqS, eqP, D.py, pys_frs, D.pys, h, h0, PyData.eqv, e]
end FL

/-! Part Z: products of primes that are drawn; fractions in lowest terms; texts of numbers. -/
namespace FL
open PySem L2
noncomputable def bProduct : MS := (mSeq (mSet 2 (mD (.int 1)))
    (mSeq (mFor (mIt (mV 1)) (tgV 3) (mFor (mRange1 (.e (mCall mPick [(mV 0), (mLst [(mD (.int 0)), (mD (.int 0)), (mD (.int 1)), (mD (.int 1)), (mD (.int 2)), (mD (.int 3)), (mD (.int 9))])] []))) (tgV 4) (mSet 2 (m2 gMulA (.v 2) (.v 3)))))
    (mRet (mV 2))))
noncomputable def mProduct : MF := mFn 5 bProduct
/-- a number made of some primes alone -/
def Of (ps : List Nat) (f : Nat) : Prop := ∀ m : Nat, (∀ p ∈ ps, Nat.Coprime p m) → Nat.Coprime f m
theorem Of.mul {ps : List Nat} {f p : Nat} (h : Of ps f) (hp : p ∈ ps) : Of ps (f * p) := fun m hm => Nat.Coprime.mul_left (h m hm) (hm p hp)
theorem prod_in {ps : List Nat} {j : Nat} {d1 : D} {p : Nat} (hp : p ∈ ps) (p1 : 1 ≤ p) (p2 : p < 32) {μ : Mem} : ∀ (ds : List D) (e f : Nat) (s : Option FL.Slot), e + 5 * ds.length ≤ 1000 → 1 ≤ f → f < 2 ^ e → Of ps f →
    ∃ (f' : Nat) (s' : Option FL.Slot), forD (turnD (tgV 4) (mSet 2 (m2 gMulA (.v 2) (.v 3)))) ds [some (.fr (.obj j)), some (.fr d1), some (.fr (.int f)), some (.fr (.int p)), s] μ = .nx [some (.fr (.obj j)), some (.fr d1), some (.fr (.int f')), some (.fr (.int p)), s'] μ ∧ 1 ≤ f' ∧ f' < 2 ^ (e + 5 * ds.length) ∧ Of ps f'
  | [], e, f, s, _, h1, h2, h3 => ⟨f, s, rfl, h1, h2, h3⟩
  | d :: ds, e, f, s, he, h1, h2, h3 => by
    rw [List.length_cons] at he
    have hlog : f.log2 + p.log2 < 1000000 := by
      have a := (Nat.log2_lt (show f ≠ 0 by omega)).mpr h2
      have b := (Nat.log2_lt (show p ≠ 0 by omega)).mpr (show p < 2 ^ 5 from p2)
      omega
    have hf : f * p < 2 ^ (e + 5) := mul_lt_pow h2 p2
    obtain ⟨f', s', e1, g1, g2, g3⟩ := prod_in hp p1 p2 ds (e + 5) (f * p) (some (.fr d)) (by omega) (Nat.mul_pos h1 p1) hf (h3.mul hp)
    refine ⟨f', s', ?_, g1, by rw [List.length_cons, show e + 5 * (ds.length + 1) = e + 5 + 5 * ds.length by omega]; exact g2, g3⟩
    have step : turnD (tgV 4) (mSet 2 (m2 gMulA (.v 2) (.v 3))) d [some (.fr (.obj j)), some (.fr d1), some (.fr (.int f)), some (.fr (.int p)), s] μ = .nx [some (.fr (.obj j)), some (.fr d1), some (.fr (.int (f * p : Nat))), some (.fr (.int p)), some (.fr d)] μ := by
      simp [turnD, tgV, mSet, m2, Opn.ev, OR.at, look, Out.bind, Out.thn, dfr, gMulA, gMul, gInt, lift, hlog]
    rw [forD_cons, step]
    exact e1
theorem prod_out {ps : List Nat} {j : Nat} {d1 : D} : ∀ (qs : List Nat), (∀ p ∈ qs, p ∈ ps ∧ 1 ≤ p ∧ p < 32) → ∀ (e f : Nat) (s s2 : Option FL.Slot) (μ : Mem) (B : Int), e + 45 * qs.length ≤ 1000 → Src μ j B → B + 100 + qs.length ≤ 2 ^ 40 → qs.length ≤ 10 → 1 ≤ f → f < 2 ^ e → Of ps f →
    ∃ (f' : Nat) (s' s2' : Option FL.Slot) (μ' : Mem), forD (turnD (tgV 3) (mFor (mRange1 (.e (mCall mPick [(mV 0), (mLst [(mD (.int 0)), (mD (.int 0)), (mD (.int 1)), (mD (.int 1)), (mD (.int 2)), (mD (.int 3)), (mD (.int 9))])] []))) (tgV 4) (mSet 2 (m2 gMulA (.v 2) (.v 3))))) (qs.map fun p : Nat => D.int (p : Int)) [some (.fr (.obj j)), some (.fr d1), some (.fr (.int f)), s, s2] μ = .nx [some (.fr (.obj j)), some (.fr d1), some (.fr (.int f')), s', s2'] μ' ∧ 1 ≤ f' ∧ f' < 2 ^ (e + 45 * qs.length) ∧ Of ps f' ∧ Src μ' j (B + qs.length) ∧ Fr j μ μ'
  | [], _, e, f, s, s2, μ, B, _, hs, _, _, h1, h2, h3 => ⟨f, s, s2, μ, rfl, h1, h2, h3, by simpa using hs, .refl⟩
  | p :: qs, hq, e, f, s, s2, μ, B, he, hs, hB, hl, h1, h2, h3 => by
    rw [List.length_cons] at he hl hB
    obtain ⟨hp, p1, p2⟩ := hq p (List.mem_cons_self ..)
    obtain ⟨c, μ1, hc, e1, s1, f1⟩ := pick_lst (xs := [D.int 0, .int 0, .int 1, .int 1, .int 2, .int 3, .int 9]) hs (by omega) (by simp) (by simp)
    obtain ⟨n, rfl, n0, n9⟩ : ∃ n : Int, c = .int n ∧ 0 ≤ n ∧ n ≤ 9 := by
      simp only [List.mem_cons, List.not_mem_nil, or_false] at hc
      rcases hc with h | h | h | h | h | h | h <;> exact ⟨_, h, by decide, by decide⟩
    have hlen : (rangeD 0 n.toNat).length = n.toNat := by simp [rangeD]
    obtain ⟨f2, s3, e2, g1, g2, g3⟩ := prod_in (j := j) (d1 := d1) (μ := μ1) hp p1 p2 (rangeD 0 n.toNat) e f s2 (by omega) h1 h2 h3
    have g2' : f2 < 2 ^ (e + 45) := Nat.lt_of_lt_of_le g2 (Nat.pow_le_pow_right (by decide) (by omega))
    obtain ⟨f', s', s2', μ2, e3, k1, k2, k3, k4, k5⟩ := prod_out qs (fun q hq' => hq q (List.mem_cons_of_mem _ hq')) (e + 45) f2 (some (.fr (.int p))) s3 μ1 (B + 1) (by omega) s1 (by omega) (by omega) g1 g2' g3
    refine ⟨f', s', s2', μ2, ?_, k1, by rw [List.length_cons, show e + 45 * (qs.length + 1) = e + 45 + 45 * qs.length by omega]; exact k2, k3, k4.mono (by rw [List.length_cons]; omega), f1.trans k5⟩
    have hr : -4611686018427387904 ≤ n ∧ n < 4611686018427387904 := by omega
    have step : turnD (tgV 3) (mFor (mRange1 (.e (mCall mPick [(mV 0), (mLst [(mD (.int 0)), (mD (.int 0)), (mD (.int 1)), (mD (.int 1)), (mD (.int 2)), (mD (.int 3)), (mD (.int 9))])] []))) (tgV 4) (mSet 2 (m2 gMulA (.v 2) (.v 3)))) (.int p) [some (.fr (.obj j)), some (.fr d1), some (.fr (.int f)), s, s2] μ = .nx [some (.fr (.obj j)), some (.fr d1), some (.fr (.int f2)), some (.fr (.int p)), s3] μ1 := by
      show mFor _ _ _ [some (.fr (.obj j)), some (.fr d1), some (.fr (.int f)), some (.fr (.int p)), s2] μ = _
      refine for_of (ds := rangeD 0 n.toNat) (δ1 := [some (.fr (.obj j)), some (.fr d1), some (.fr (.int f)), some (.fr (.int p)), s2]) (μ1 := μ1) ?_ e2
      simp [mRange1, evs, Opn.ev, mCall, evA, mV, mLst, mD, Out.bind, dfr, down, e1, OR.at, OR.ats, look, hr]
    rw [List.map_cons, forD_cons, step]
    exact e3
theorem prod_spec {ps : List Nat} {μ : Mem} {j : Nat} {B : Int} (hq : ∀ p ∈ ps, 1 ≤ p ∧ p < 32) (hl : ps.length = 4) (h : Src μ j B) (hB : B + 200 ≤ 2 ^ 40) :
    ∃ (f : Nat) (μ' : Mem), mProduct [.obj j, .lst (ps.map fun p : Nat => D.int (p : Int))] μ = .ok (.fr (.int f)) μ' ∧ 1 ≤ f ∧ f < 2 ^ 181 ∧ Of ps f ∧ Src μ' j (B + 4) ∧ Fr j μ μ' := by
  obtain ⟨f, s, s2, μ1, e, h1, h2, h3, h4, h5⟩ := prod_out (ps := ps) (j := j) (d1 := .lst (ps.map fun p : Nat => D.int (p : Int))) ps (fun p hp => ⟨hp, hq p hp⟩) 1 1 none none μ B (by omega) h (by omega) (by omega) (by decide) (by decide) (fun m _ => Nat.coprime_one_left m)
  rw [hl] at h2 h4
  refine ⟨f, μ1, fn_rt ?_, h1, h2, h3, h4, h5⟩
  unfold bProduct
  have n1 : mSet 2 (mD (.int 1)) (startD 5 [.obj j, .lst (ps.map fun p : Nat => D.int (p : Int))]) μ = .nx [some (.fr (.obj j)), some (.fr (.lst (ps.map fun p : Nat => D.int (p : Int)))), some (.fr (.int 1)), none, none] μ := by simp [mSet, mD, startD, Out.thn]
  have n2 := for_of (mi := mIt (mV 1)) (δ := [some (.fr (.obj j)), some (.fr (.lst (ps.map fun p : Nat => D.int (p : Int)))), some (.fr (.int 1)), none, none]) (μ := μ) (ds := ps.map fun p : Nat => D.int (p : Int)) (δ1 := [some (.fr (.obj j)), some (.fr (.lst (ps.map fun p : Nat => D.int (p : Int)))), some (.fr (.int 1)), none, none]) (μ1 := μ) (by simp [mIt, mV, Out.bind, dfr, itA]) e
  rw [seq_nx n1, seq_nx n2]
  simp [mRet, mV, Out.thn, dfr]
theorem mk_fr {n d : Int} (hd : 0 < d) (hc : n.natAbs.gcd d.natAbs = 1) : ∃ q : Rat, q.num = n ∧ (q.den : Int) = d := ⟨⟨n, d.toNat, by omega, by rw [show d.toNat = d.natAbs by omega]; exact hc⟩, rfl, by show ((d.toNat : Nat) : Int) = d; omega⟩
theorem gMulA_ii {a b : Int} (ha : a.natAbs < 2 ^ 200) (hb : b.natAbs < 2 ^ 200) : gMulA (.int a) (.int b) = some (.fr (.int (a * b))) := by
  have l1 := log_pos ha (by decide)
  have l2 := log_pos hb (by decide)
  have hm : a.natAbs.log2 + b.natAbs.log2 < 1000000 := by omega
  simp [gMulA, gMul, gInt, hm]
theorem gAdd_ii (a b : Int) : gAdd (.int a) (.int b) = some (.fr (.int (a + b))) := by simp [gAdd, gInt]
theorem ab_mul {a b : Int} {j k : Nat} (ha : a.natAbs < 2 ^ j) (hb : b.natAbs < 2 ^ k) : (a * b).natAbs < 2 ^ (j + k) := by
  rw [Int.natAbs_mul]
  exact mul_lt_pow ha hb
theorem ab_add {a b : Int} {k : Nat} (ha : a.natAbs < 2 ^ k) (hb : b.natAbs < 2 ^ k) : (a + b).natAbs < 2 ^ (k + 1) := by
  rw [Nat.pow_succ]
  omega
theorem ab_up {a : Int} {j k : Nat} (ha : a.natAbs < 2 ^ j) (h : j ≤ k) : a.natAbs < 2 ^ k := Nat.lt_of_lt_of_le ha (Nat.pow_le_pow_right (by decide) h)
/-- a fraction that is made of a common factor and two numbers without one -/
theorem fraction_low {R R' : MS} {μ : Mem} {n d c N Dd : Int} (hd : 0 < d) (hc : n.natAbs.gcd d.natAbs = 1) (c0 : c ≠ 0) (hN : N = n * c) (hD : Dd = d * c) (hl : Dd.natAbs < 2 ^ 9000) :
    mFraction R R' [.int N, .int Dd] μ = .ok (.fr (.tup [.int n, .int d])) μ := by
  subst hN hD
  have e := fraction_spec (R := R) (R' := R') (μ := μ) (n := n * c) (d := d * c) (Int.mul_ne_zero (by omega) c0) hl
  obtain ⟨q, h1, h2⟩ := mk_fr hd hc
  have e2 : Rat.divInt (n * c) (d * c) = q := by
    rw [Rat.divInt_mul_right c0, ← h1, ← h2]
    exact Rat.num_divInt_den q
  rw [e2] at e
  rw [e]
  unfold frD
  rw [h1, h2]
theorem pair_same (neg : Bool) (n d : Int) : gEq neg (.tup [.int n, .int d]) (.tup [.int n, .int d]) = some (tb (true != neg)) := by
  have h : D.py (.tup [.int n, .int d]) = some (.tuple [.int n, .int d]) := by simp [D.py, D.pys]
  have c : PyData.canLay0 (.tuple [.int n, .int d]) = true := by simp [PyData.canLay0, PyData.canLayAll0]
  have s : SeqAt.shaped (.tuple [.int n, .int d]) = true := by simp [SeqAt.shaped, PyData.canLay0, PyData.canLayAll0, PyData.depth, PyData.depthAll]
  simp [gEq, eqS, eqP, h, s, SeqAt.eqv_refl _ c]
theorem ofS_len (s : String) : (Str.ofString s).length = s.toList.length := by
  rw [ofS_lit, toS_len]
  simp [lit]
theorem int_len {i : Int} {k : Nat} (hk : 1 ≤ k) (h : i.natAbs < 10 ^ k) : (PyData.shown (.int i)).length ≤ k + 1 := by
  show (Str.ofString (toString i)).length ≤ _
  rw [ofS_len]
  cases i with
  | ofNat n =>
    have := PyProof.Rows.digits10_le hk (show n < 10 ^ k from h)
    show (Nat.repr n).toList.length ≤ _
    simp [Nat.repr]
    omega
  | negSucc n =>
    have := PyProof.Rows.digits10_le hk (show n + 1 < 10 ^ k from h)
    show ("-" ++ Nat.repr (n + 1)).toList.length ≤ _
    simp [Nat.repr]
    omega
theorem Sh.intB {i : Int} (h : i.natAbs < 2 ^ 200) : Sh 0 202 (.int i) := by
  have h1 : i.natAbs < 10 ^ 200 := Nat.lt_of_lt_of_le h (Nat.pow_le_pow_left (by decide) 200)
  have h2 := int_len (by decide) h1
  have h3 : i.natAbs.log2 < 1920 := by
    by_cases hz : i.natAbs = 0
    · rw [hz]; decide +kernel
    · exact Nat.lt_of_lt_of_le ((Nat.log2_lt hz).mpr h) (by decide)
  exact ⟨.int i, rfl, by simp [PyData.showable, h3], by simp [PyData.hasDict], by simp [PyData.canLay0], by simp [PyData.depth], by omega⟩
end FL

/-! Part Ti: what is a word, a name, a key. -/
namespace FL.S
noncomputable def e1_is_made_of (δ : FL.Loc) (μ : Mem) : Out FL.Slot := (m2 (gIn false) (.v 3) (.v 1)) δ μ
noncomputable def b_is_made_of (δ : FL.Loc) (μ : Mem) : OutS := (mRet (mAndV (mC gIsi [(.v 0), (.e (mD (.ty "str")))]) (mAndV (mChain gLe gLe (.e (mD (.int 1))) (.e (mC gLen [(.v 0)])) (.v 2)) (mC gAll [(.e (mLc (mIt (mV 0)) (tgV 3) mYes e1_is_made_of [3]))])))) δ μ
noncomputable def m_is_made_of : MF := mFn 4 (b_is_made_of)
noncomputable def b_is_word (δ : FL.Loc) (μ : Mem) : OutS := (mRet (mCall m_is_made_of [(mV 0), (mD (.str (lit "abcdefghijklmnopqrstuvwxyz0123456789"))), (mD (.int 20))] [])) δ μ
noncomputable def m_is_word : MF := mFn 1 (b_is_word)

end FL.S
namespace FL
open PySem L2
section
variable {μ : Mem}
theorem all_chars {x s : Tx} {a b c : Option FL.Slot} (hl : x.length < 16777216) : lcD (tgV 3) mYes S.e1_is_made_of [3] (chars x) [] [a, some (.fr (.str s)), c, none] μ = .ok (.own (.lst ((x.map fun c => decide (c ∈ s)).map .bl))) [a, some (.fr (.str s)), c, none] μ := by
  have h := lcD_pure (f := tgV 3) (t := mYes) (m := S.e1_is_made_of) (vs := [3]) (δ := [a, some (.fr (.str s)), c, none]) (μ := μ) (fun d => match d with | .str [c] => some (.bl (decide (c ∈ s))) | _ => none) (ds := chars x) (acc := []) (fun d hd => by
    obtain ⟨c, _, rfl⟩ := List.mem_map.mp hd
    simp [lc1, S.e1_is_made_of]) (by simp [chars]; exact hl)
  rw [h]
  simp [chars, List.filterMap_map, Function.comp_def]
/-- a text of 1 to n signs, all among s -/
def Made (x s : Tx) (n : Int) : Prop := 1 ≤ x.length ∧ (x.length : Int) ≤ n ∧ ∀ c ∈ x, c ∈ s
instance (x s : Tx) (n : Int) : Decidable (Made x s n) := inferInstanceAs (Decidable (_ ∧ _))
theorem made_str {x s : Tx} {n : Int} (hl : x.length < 16777216) : S.m_is_made_of [.str x, .str s, .int n] μ = .ok (.fr (.bl (decide (Made x s n)))) μ := by
  have h := all_chars (μ := μ) (x := x) (s := s) (a := some (.fr (.str x))) (c := some (.fr (.int n))) (b := none) hl
  have hb := blsD_of (x.map fun c => decide (c ∈ s))
  have hl' : x.length ≤ 16777216 := by omega
  have ga : gAll [.lst ((x.map fun c => decide (c ∈ s)).map .bl)] = some (.fr (.bl (x.all fun c => decide (c ∈ s)))) := by
    simp only [gAll, hb, Option.map_some]
    simp [List.all_map, Function.comp_def]
  by_cases h1 : (1 : Int) ≤ x.length
  · by_cases h2 : (x.length : Int) ≤ n
    · have e : decide (Made x s n) = x.all fun c => decide (c ∈ s) := by
        by_cases h3 : ∀ c ∈ x, c ∈ s
        · rw [decide_eq_true (show Made x s n from ⟨by omega, h2, h3⟩)]
          exact (List.all_eq_true.mpr fun c hc => decide_eq_true (h3 c hc)).symm
        · rw [decide_eq_false (fun z : Made x s n => h3 z.2.2)]
          refine (Bool.eq_false_iff.mpr fun z => h3 fun c hc => ?_).symm
          exact of_decide_eq_true (List.all_eq_true.mp z c hc)
      rw [e]
      generalize List.map D.bl (List.map (fun c => decide (c ∈ s)) x) = L at h ga
      simp [S.m_is_made_of, S.b_is_made_of, startD, isi_str, hl', h1, h2, h, ga]
    · rw [decide_eq_false (fun z : Made x s n => h2 z.2.1)]
      simp [S.m_is_made_of, S.b_is_made_of, startD, isi_str, hl', h1, h2]
  · rw [decide_eq_false (fun z : Made x s n => h1 (by have := z.1; omega))]
    simp [S.m_is_made_of, S.b_is_made_of, startD, isi_str, hl', h1]
theorem made_no {d : D} {s : Tx} {n : Int} (h : noStr d = true) : S.m_is_made_of [d, .str s, .int n] μ = .ok (.fr (.bl false)) μ := by
  simp [S.m_is_made_of, S.b_is_made_of, startD, isi_no h, look_no h]
abbrev Wd (x : Tx) : Prop := Made x WS 20
theorem word_str {x : Tx} (hl : x.length < 16777216) : S.m_is_word [.str x] μ = .ok (.fr (.bl (decide (Wd x)))) μ := by
  have h := made_str (μ := μ) (x := x) (s := WS) (n := 20) hl
  simp [S.m_is_word, S.b_is_word, startD, ws_eq, h]
theorem word_no {d : D} (h : noStr d = true) : S.m_is_word [d] μ = .ok (.fr (.bl false)) μ := by
  have h := made_no (μ := μ) (s := WS) (n := 20) h
  simp [S.m_is_word, S.b_is_word, startD, ws_eq, h]
theorem wordsT_wd {x : Tx} : ∀ w ∈ wordsT x, Wd w := fun w hw => by
  have h1 := wordsL_wd w hw
  have h2 := List.length_pos_iff.mpr h1.2
  exact ⟨h2, by omega, wordsL_mem w hw⟩
end
end FL

/-! Part St: sets of texts: set(list of texts), sorted(set of texts). -/
namespace FL
open PySem PySem.Spec PyProof.Rows L2
open PySem.Froz (SD sObj TxOk addTx tailTx is_str add_ok add_x)

/-- the texts that a payload holds -/
def inD (D : SD) : List Str := D.1.toList.map fun e => strOf e.2
theorem tail_in (ep : Nat) (es : Array (Int × Value)) (t : SetTable) (b : Bool) : (inD (tailTx ep es t b)).Perm (es.toList.map fun e => strOf e.2) := by
  unfold tailTx
  split
  · exact (relayAll_perm _ _ _).map _
  · exact List.Perm.refl _
theorem tail_ris {ep : Nat} {es : Array (Int × Value)} {t : SetTable} {b : Bool} (r : Ris t.place.toList) : Ris (tailTx ep es t b).2.2.place.toList := by
  unfold tailTx
  split
  · exact relayAll_ris _ _ _
  · exact r
theorem tail_led (ep : Nat) (es : Array (Int × Value)) (t : SetTable) (b : Bool) : (tailTx ep es t b).2.2.led = t.led := by
  unfold tailTx
  split
  · exact relayAll_led _ _ _
  · rfl
theorem inD_add (D : SD) (k : Str) (u : Tok) (h : Int) : (inD (addTx h (.str k u) D)).Perm (k :: inD D) := by
  have hp := (layNew_perm D.2.2 D.1 h (.str k u)).map fun e => strOf e.2
  rw [Array.toList_push, List.map_append] at hp
  exact (tail_in ..).trans (hp.trans (List.perm_append_singleton _ _))
theorem ris_add (D : SD) (h : Int) (v : Value) (r : Ris D.2.2.place.toList) : Ris (addTx h v D).2.2.place.toList := by
  have one := layNew_ris D.2.2 D.1 h v r
  refine tail_ris ?_
  split <;> exact one
theorem led_add (D : SD) (h : Int) (v : Value) : (addTx h v D).2.2.led = D.2.2.led := by
  refine (tail_led ..).trans (Eq.trans ?_ (layNew_led D.2.2 D.1 h v))
  split <;> rfl
/-- the set of texts at a -/
structure TxSet (P : Program) (w : World) (h : Heap) (a : Addr) (l : List Str) : Prop where
  ob : ∃ D : SD, h.get? a = some (sObj "set" D) ∧ TxOk P w D l ∧ (inD D).Perm l ∧ Ris D.2.2.place.toList ∧ (w.params.followText "set-order" = true ∨ D.2.2.led = true)
  nd : l.Nodup
  few : l.length < scanBound
def insS (l : List Str) (k : Str) : List Str := if k ∈ l then l else k :: l
theorem insS_len (l : List Str) (k : Str) : (insS l k).length ≤ l.length + 1 := by
  unfold insS
  split
  · exact Nat.le_succ _
  · exact Nat.le_refl _
theorem insS_nd {l : List Str} {k : Str} (h : l.Nodup) : (insS l k).Nodup := by
  unfold insS
  split
  · exact h
  · rename_i no
    exact List.nodup_cons.mpr ⟨no, h⟩
theorem TxSet.at {P : Program} {w : World} {h h' : Heap} {a : Addr} {l : List Str} (R : TxSet P w h a l) (k : ∀ o, h.get? a = some o → h'.get? a = some o) : TxSet P w h' a l :=
  let ⟨⟨D, g, r⟩, nd, few⟩ := R
  ⟨⟨D, k _ g, r⟩, nd, few⟩
section
variable {P : Program} {w : World} {A : Around} {E : Value → Shared → Prop} {s : Shared} {a : Addr} {l : List Str} {k : Str} {u : Tok}
theorem add_had {D : SD} {T : String} {Q : Bool → Shared → Prop} (g : s.heap.get? a = some (sObj T D)) (F : TxOk P w D l) (hk : k ∈ l) (hb : l.length < scanBound) (h : Q false s) :
    wpAny (model P w) A (setAddHashed a (.str k u) (hashStr w k)) Q E s := by
  obtain ⟨es, ep, t⟩ := D
  have fit : t.fits es.size = true := F.fit
  have els : ElemsOf (strKind P w) es.toList := F.el
  have data : (sObj T (es, ep, t)).data = .set es ep t := rfl
  have big : es.size < scanBound := by have z : es.size = l.length := F.sz; omega
  unfold setAddHashed setAddHashedIn
  refine wpAny_holding (wpAny_bind (wpAny_setState_of g data fit ?_))
  dsimp only
  rw [byScan_of (x := .str k u) rfl big els]
  simp only [↓reduceIte]
  unfold setAddByScan
  refine wpAny_bind (wpAny_bind (wpAny_rule (wpAny_bind (wpAny_setScan_of (knd := strKind P w) (k := k) (is_str k u) g data fit els ?_))))
  obtain ⟨e, he, q⟩ := (F.mem k).mp hk
  cases fi : List.findIdx? (fun e => (strKind P w).is k e.2) es.toList with
  | none => exact absurd q (by rw [List.findIdx?_eq_none_iff.mp fi e he]; exact Bool.false_ne_true)
  | some j => exact wpAny_pure (wpAny_pure h)
/-- found.add(k), hashed -/
theorem add_any {Q : Bool → Shared → Prop} (R : TxSet P w s.heap a l) (room : l.length + 1 < scanBound)
    (h : ∀ b h', Heap.SameBut a s.heap h' → TxSet P w h' a (insS l k) → Q b { s with heap := h' }) : wpAny (model P w) A (setAddHashed a (.str k u) (hashStr w k)) Q E s := by
  obtain ⟨⟨D, g, F, pm, r, ld⟩, nd, few⟩ := R
  by_cases hk : k ∈ l
  · have e : insS l k = l := if_pos hk
    rw [e] at h
    exact add_had g F hk few (h false s.heap (Heap.SameBut.refl a s.heap) ⟨⟨D, g, F, pm, r, ld⟩, nd, few⟩)
  · have e : insS l k = k :: l := if_neg hk
    rw [e] at h
    refine add_x g F hk room (h true _ (Heap.SameBut.update s.heap a _) ⟨⟨addTx (hashStr w k) (.str k u) D, PySem.Froz.get_upd _ g rfl, add_ok u F, (inD_add D k u _).trans (pm.cons k), ris_add D _ _ r, ?_⟩, List.nodup_cons.mpr ⟨hk, nd⟩, room⟩)
    rw [led_add]
    exact ld
end
section
variable {prog : Program} {w : World} {A : Around} {R : Result → Shared → Prop} {I : Addr} {fp wr : List Addr} {G : Array GenState → Array GenState → Prop} {n : Nat} {P : Nat → Value → Prop} {St : Nat → Shared → Prop}
theorem fold_len : ∀ (ys l : List Str), (ys.foldl insS l).length ≤ l.length + ys.length
  | [], l => Nat.le_refl _
  | y :: ys, l => by
    have a := fold_len ys (insS l y)
    have b := insS_len l y
    rw [List.foldl_cons, List.length_cons]
    omega
theorem upd_loop (W : WalksS prog w A.in1 I fp wr G n P St) {S : Addr} (out : S ∉ fp) {xs : List Str} (hx : xs.length = n) (hv : ∀ i v, P i v → ∃ x t, xs[i]? = some x ∧ v = .str x t) (hb : n + 1 < scanBound) :
    ∀ (m i : Nat) (s : Shared), n - i = m → i ≤ n → St i s → TxSet prog w s.heap S ((xs.take i).foldl insS []) →
      (∀ s', Moved (S :: wr) G s s' → TxSet prog w s'.heap S (xs.foldl insS []) → R (.ok (.ret .none)) s') →
      codeAny (model prog w) A (.builtin "set.update.loop" ⟨[.ref S, .ref I], []⟩) R s := by
  have out' : S ∉ wr := fun z => out (W.sub _ z)
  have more : ∀ b ∈ wr, b ∈ S :: wr := fun b z => List.mem_cons_of_mem _ z
  intro m
  induction m with
  | zero =>
    intro i s hm hi st T fin
    have full : xs.take i = xs := List.take_of_length_le (by omega)
    rw [full] at T
    have last : i = n := by omega
    subst last
    refine codeAny_builtin F.entry_set_update_loop (A := A) ?_
    rw [Around.under_plainId F.plain_set_update_loop _]
    show wpAny _ A.in1 (pyNext (.ref I) >>= _) _ _ s
    exact wpAny_bind (W.done s _ _ st fun s' mv => wpAny_pure (fin s' (mv.mono more) (T.at fun o z => mv.heap S o out' z)))
  | succ m ih =>
    intro i s hm hi st T fin
    have lt : i < n := by omega
    refine codeAny_builtin F.entry_set_update_loop (A := A) ?_
    rw [Around.under_plainId F.plain_set_update_loop _]
    show wpAny _ A.in1 (pyNext (.ref I) >>= _) _ _ s
    refine wpAny_bind (W.item i s _ _ lt st fun v s' hP st' mv => ?_)
    obtain ⟨x, t, hxi, rfl⟩ := hv i v hP
    have T' := T.at fun o z => mv.heap S o out' z
    show wpAny _ A.in1 (holding [Value.str x t] (setAdd S (.str x t)) >>= _) _ _ s'
    refine wpAny_bind (wpAny_holding ?_)
    unfold setAdd
    refine wpAny_holding (wpAny_bind ((strKind prog w).pyHash (k := x) (is_str x t) ?_))
    have room : ((xs.take i).foldl insS []).length + 1 < scanBound := by
      have z := fold_len (xs.take i) []
      have z2 := List.length_take_le i xs
      simp only [List.length_nil] at z
      omega
    refine add_any (s := { s' with toks := s'.toks + 1 }) T' room fun b h' same T2 => ?_
    have e2 : (xs.take (i + 1)).foldl insS [] = insS ((xs.take i).foldl insS []) x := by
      rw [List.take_add_one, hxi, List.foldl_append]
      rfl
    rw [← e2] at T2
    refine wpAny_pure ⟨plainId_quiet F.plain_set_update_loop _, ih (i + 1) _ (by omega) lt (W.frame _ s' _ _ st' (Nat.le_succ _) fun c hc o z => ?_) T2 fun s2 mv2 T3 => ?_⟩
    · exact (same.2 c fun e => out (e ▸ hc)).trans z
    · exact fin s2 (Moved.trans W.gtrans ((mv.mono more).then_heap (Nat.le_succ _) fun c o hc z => (same.2 c fun e => hc (by rw [e]; exact List.mem_cons_self ..)).trans z) mv2) T3
end
/-! ### set(xs) -/
/-- a new set -/
def newD (w : World) : SD := (#[], 0, .fresh 0 0 (!w.params.followText "set-order"))
theorem newD_ok {P : Program} {w : World} {h : Heap} {a : Addr} (e : h.get? a = some (sObj "set" (newD w))) : TxSet P w h a [] := by
  refine ⟨⟨newD w, e, .nil rfl, List.Perm.refl _, List.Pairwise.nil, ?_⟩, List.nodup_nil, by decide⟩
  show _ ∨ (!w.params.followText "set-order") = true
  cases w.params.followText "set-order"
  · exact .inr rfl
  · exact .inl rfl
theorem strs_nth : ∀ {us : List Value} {xs : List Str}, StrsAre us xs → ∀ (i : Nat) (v : Value), us[i]? = some v → ∃ x t, xs[i]? = some x ∧ v = .str x t
  | _, _, .nil, i, v, h => by simp at h
  | _, _, .cons x t r, 0, v, h => by
    simp only [List.getElem?_cons_zero, Option.some.injEq] at h
    exact ⟨x, t, rfl, h.symm⟩
  | _, _, .cons x t r, i + 1, v, h => by
    simp only [List.getElem?_cons_succ] at h ⊢
    exact strs_nth r i v h
section
variable {P : Program} {w : World} {A : Around} {E : Value → Shared → Prop} {s : Shared}
set_option maxHeartbeats 4000000 in
theorem set_texts {l : Addr} {its : Array Value} {xs : List Str} {Q : Value → Shared → Prop} (hh : A.handled = none) (hl : s.heap.IsList l its) (hx : StrsAre its.toList xs) (hb : xs.length + 1 < scanBound)
    (q : ∀ (h' : Heap) (tk : Nat), TxSet P w h' s.heap.objs.size (xs.foldl insS []) → (∀ b o, s.heap.get? b = some o → h'.get? b = some o) → Q (.ref s.heap.objs.size) { s with heap := h', toks := tk }) :
    wpAny (model P w) A (call (.type "set") [.ref l]) Q E s := by
  have cnt : its.size = xs.length := by
    have z := StrsAre.length hx
    rwa [Array.length_toList] at z
  obtain ⟨c, tl, mro⟩ := F.called_set.mro
  have made := F.called_set.made
  have sub := F.called_set.sub
  refine wpAny_call (codeAny_of_tree (show wpAny _ _ (callAny (.type "set") _) _ _ _ from ?_))
  refine wpAny_pure ⟨Code.quiet_builtin _ (by decide +kernel), codeAny_builtin F.entry_type_call (R := _) ?_⟩
  rw [Around.under_plain (weight_type_call_type "set" [Value.ref l] []) rfl]
  have g1 := F.called_set.notType
  have g2 := F.called_set.canCreate
  have g3 := F.typeCall_set_1 (Value.ref l)
  repeat (any_goals first | assumption | wp_step)
  refine codeAny_mono (code_set_led1 (.ref l) (E := E) (Q₁ := fun v s1 => v = .ref s.heap.objs.size ∧ s1 = { s with heap := s.heap.push (sObj "set" (newD w)) }) ⟨rfl, rfl⟩) fun r s1 hr => ?_
  cases r with
  | error e => exact hr
  | ok fl =>
    cases fl with
    | ret v =>
      obtain ⟨rfl, rfl⟩ := hr
      have at_ : (s.heap.push (sObj "set" (newD w))).get? s.heap.objs.size = some (sObj "set" (newD w)) := Heap.get?_push_size _ rfl
      have ty : Shared.TypeIs { s with heap := s.heap.push (sObj "set" (newD w)) } (.ref s.heap.objs.size) "set" := ⟨_, at_, rfl⟩
      have i1 := F.called_set.init.lookup
      have i2 := F.called_set.init.bind (.ref s.heap.objs.size)
      repeat (any_goals first | assumption | wp_step)
      refine codeAny_mono (codeAny_call_builtin (R := wants (fun v s2 => v = .none ∧ ∃ h' tk, s2 = { s with heap := h', toks := tk } ∧ TxSet P w h' s.heap.objs.size (xs.foldl insS []) ∧
          (∀ b o, s.heap.get? b = some o → h'.get? b = some o)) E) F.called_set.init.plain F.entry_set_init (check_set_init_1 ty ?_)) fun r2 s2 hr2 => ?_
      · obtain ⟨ol, e1, e2, nl, e3⟩ := hl
        obtain ⟨oc, od, ob, os⟩ := ol
        simp only at e2 e3
        subst e2; subst e3
        have lat : (s.heap.push (sObj "set" (newD w))).get? l = some { cls := .type "list", dict := od, data := .seq its nl, slots := os } := Heap.get?_push_of_some _ e1
        have f1 := F.sub_list_set
        have f2 := F.sub_list_frozenset
        have f3 : (Value.type "list" == Value.type "dict") = false := by decide
        have isl : (s.heap.push (sObj "set" (newD w))).IsList l its := ⟨_, lat, rfl, nl, rfl⟩
        unfold Builtin.«set.__init__» noKeywords Builtin.Frozenset.updateFrom
        generalize hp : pyIter = piter
        wp_walk
        subst hp
        refine wpAny_pyIter_list isl (wpAny_bind (wpAny_runValue ?_))
        have below : l < s.heap.objs.size := Heap.lt_size e1
        have z1 : (s.heap.push (sObj "set" (newD w))).objs.size = s.heap.objs.size + 1 := Heap.size_push ..
        have nI : l ≠ (s.heap.push (sObj "set" (newD w))).objs.size := by rw [z1]; exact Nat.ne_of_lt (Nat.lt_succ_of_lt below)
        have nS : s.heap.objs.size ∉ [(s.heap.push (sObj "set" (newD w))).objs.size, l] := by
          rw [z1]
          intro z
          rcases List.mem_cons.mp z with z | z
          · exact absurd z (Nat.ne_of_lt (Nat.lt_succ_self _))
          · exact absurd (List.mem_singleton.mp z).symm (Nat.ne_of_lt below)
        refine upd_loop ((Walks.list (A := A.in1.in1.in1) (by simp [hh]) _ l nI its).toS) nS (xs := xs) cnt.symm (fun i v e => strs_nth hx i v (by rw [Array.getElem?_toList]; exact e)) (by rw [cnt]; exact hb) (its.size - 0) 0 _ rfl (Nat.zero_le _)
          ?place ?first fun s3 mv T => ?_
        case place => exact ⟨⟨_, Heap.get?_push_size _ rfl, rfl, rfl⟩, isl.push _⟩
        case first => exact newD_ok (Heap.get?_push_of_some _ at_)
        obtain ⟨h3, g3, d3, t3, o3⟩ := s3
        have eg : g3 = s.gens := mv.gens
        have ed : d3 = s.drawn := mv.drawn
        have eo : o3 = s.os := mv.os
        subst eg; subst ed; subst eo
        show wpAny _ _ _ _ _ _
        refine wpAny_pure ?_
        show wpAny _ _ (ret Value.none) _ _ _
        refine wpAny_pure ⟨rfl, h3, t3, rfl, T, fun b o e => mv.heap b o ?_ (Heap.get?_push_of_some _ (Heap.get?_push_of_some _ e))⟩
        have lo := Heap.lt_size e
        intro z
        rcases List.mem_cons.mp z with z | z
        · exact absurd z (Nat.ne_of_lt lo)
        · have z := List.mem_singleton.mp z
          rw [z1] at z
          exact absurd z (Nat.ne_of_lt (Nat.lt_succ_of_lt lo))
      · cases r2 with
        | error e => exact hr2
        | ok fl2 =>
          cases fl2 with
          | ret v2 =>
            obtain ⟨rfl, h3, t3, rfl, T, kp⟩ := hr2
            repeat (any_goals first | assumption | wp_step)
            exact q h3 t3 T kp
          | _ => exact hr2.elim
    | _ => exact hr.elim
end
end FL

/-! Part Su: sorted(set(texts)). -/
namespace FL
open PySem PySem.Spec PyProof.Rows L2 SrtO
open PySem.Froz (SD sObj TxOk addTx tailTx is_str add_ok add_x)
/-! ### texts sorted -/
def ltS (v u : Value) : Bool := decide ((strOf v).cps.toList < (strOf u).cps.toList)
theorem swo_str : Swo ltS := by
  refine ⟨fun x y h => ?_, fun x y z h1 h2 => ?_⟩
  · have a := of_decide_eq_true (p := (strOf x).cps.toList < (strOf y).cps.toList) h
    exact decide_eq_false (p := (strOf y).cps.toList < (strOf x).cps.toList) (List.lt_asymm a)
  · have a := of_decide_eq_false (p := (strOf y).cps.toList < (strOf x).cps.toList) h1
    have b := of_decide_eq_false (p := (strOf z).cps.toList < (strOf y).cps.toList) h2
    exact decide_eq_false (p := (strOf z).cps.toList < (strOf x).cps.toList) (List.not_lt.mpr (List.le_trans (List.not_lt.mp a) (List.not_lt.mp b)))
section
variable {P : Program} {w : World} {A : Around} {E : Value → Shared → Prop} {s : Shared} {a : Addr}
theorem str_cmp {vs : List Value} {xs : List Str} (hx : StrsAre vs xs) : Cmp P w A s oneType' (fun p => p.1 ∈ vs) (lt2 ltS) := by
  intro p q hp hq
  obtain ⟨x, t, e⟩ := hx.all _ hp
  obtain ⟨y, u, e'⟩ := hx.all _ hq
  show wpAny (model P w) A (keyLt' oneType' p.1 q.1) (fun r s' => s' = s ∧ r = ltS p.1 q.1) (fun _ _ => False) s
  rw [e, e', keyLt'_oneType]
  exact oneLt_str ⟨rfl, rfl⟩
theorem strs_sortable {vs : List Value} {xs : List Str} (hx : StrsAre vs xs) (two : 2 ≤ vs.length) : SortableO P w A s a vs ltS := by
  intro h' _
  refine ⟨oneType', fun Q E q => ?_, str_cmp hx⟩
  match vs, hx, two with
  | v :: u :: rest, hx, _ =>
    rw [keyKind_strs hx]
    exact wpAny_pure q
  | [], _, h => exact absurd h (by decide)
  | [v], _, h => exact absurd h (by simp)
/-- sorted(found) -/
theorem sorted_texts {l : List Str} {Q : Value → Shared → Prop} (R : TxSet P w s.heap a l) (hh : A.handled = none)
    (q : ∀ s' p (out : Array Value) (c : Nat) (ys : List Str), (∀ b o, s.heap.get? b = some o → s'.heap.get? b = some o) → s'.gens = s.gens → s'.os = s.os → s.heap.objs.size ≤ p →
      s'.heap.get? p = some (seqObj "list" out c) → StrsAre out.toList ys → ys.Perm l → ys.Pairwise (fun x y => ¬ y.cps.toList < x.cps.toList) → Q (.ref p) s') :
    wpAny (model P w) A (call (.builtin "sorted") [.ref a]) Q E s := by
  obtain ⟨⟨D, g, F, pm, r, ld⟩, nd, few⟩ := R
  obtain ⟨es, ep, t⟩ := D
  have sz : es.size = l.length := F.sz
  refine Calls.call_function_entry kind_sorted plain_sorted entry_sorted (args_sorted1 _) ?_
  unfold Builtin.«sorted»
  refine wpAny_bind (m := checkCount "sorted" 1 1 _) (wpAny_pure ?_)
  refine wpAny_bind (collect_set (A := A.in1) (es := es) (ep := ep) (t := t) hh ⟨_, g, rfl, rfl⟩ F.fit (by omega) r ld fun s1 vs k1 z1 g1 o1 pv => ?_)
  have all : ∀ v ∈ vs, ∃ x t, v = .str x t := fun v hv => by
    obtain ⟨e, he, rfl⟩ := List.mem_map.mp (pv.mem_iff.mp hv)
    obtain ⟨⟨k, hk, _⟩, _⟩ := F.el e he
    obtain ⟨t, e2⟩ := Value.isStrOf_shape hk
    exact ⟨k, t, e2⟩
  have hx := strsAre_map vs all
  have len : vs.length = l.length := by rw [pv.length_eq, List.length_map, Array.length_toList, sz]
  have line : vs.length ≤ sizeLine := by rw [len]; exact fits_of_scanBound few
  have pn : (vs.map strOf).Perm l := by
    have z := pv.map strOf
    rw [List.map_map] at z
    exact z.trans pm
  refine wpAny_bind (wpAny_newList ?_ line)
  have hoL : (s1.heap.push (seqObj "list" vs.toArray 0)).get? s1.heap.objs.size = some (seqObj "list" vs.toArray 0) := Heap.get?_push_size _ rfl
  refine wpAny_bind (wpAny_holding (wpAny_call_entry slot_list_sort ⟨_, hoL, rfl⟩ entry_list_sort (list_sort_ord swo_str hoL line (fun two => strs_sortable hx two) fun out hs hb => ⟨_, rfl, ?_⟩) (args_list_sort _)))
  obtain ⟨c, hc⟩ := sortedHeap_at (vs := vs) (out := out.toArray) hoL
  refine wpAny_pure ⟨_, rfl, q _ s1.heap.objs.size out.toArray c (out.map strOf) (fun b u e => ?_) g1 o1 z1 hc (strsAre_map out fun v hv => all v (hb.perm.mem_iff.mp hv)) ((hb.perm.map strOf).trans pn) ?_⟩
  · have z := k1 b u e
    have lo := Heap.lt_size z
    show (sortedHeap (s1.heap.push (seqObj "list" vs.toArray 0)) s1.heap.objs.size vs out.toArray).get? b = some u
    rw [sortedHeap_old (Nat.ne_of_lt lo) (by rw [size_push']; exact Nat.lt_succ_of_lt lo)]
    exact Heap.get?_push_of_some _ z
  · exact List.pairwise_map.mpr (hs.imp fun {x y} h => of_decide_eq_false (p := (strOf y).cps.toList < (strOf x).cps.toList) h)
end
/-! ### as rules -/
/-- the set of the texts l at a -/
def SetSO (P : Program) (w : World) (a : Addr) (l : List Str) : HO := .ext fun h => TxSet P w h a l
theorem setSO_new {w : World} {P : Program} {H : Hp} {h : Heap} {a : Addr} {l : List Str} (R : TxSet P w h a l) : ObjOk P w H h a (SetSO P w a l) := by
  have ⟨⟨D, g, _⟩, _, _⟩ := R
  exact ⟨R, ⟨_, g⟩, fun h1 h2 p k => TxSet.at p k⟩
/-- set(xs), xs a list of texts -/
def rSetS (K : PySem.W.Frag) (P : Program) (w : World) : List V → Hp → VK → Prop := fun xs H Q => ∃ (l : Addr) (ys : List Str), xs = [V.ref l] ∧ SqL K H l (ys.map V.str) ∧ ys.length + 1 < scanBound ∧
  ∀ a, H a = none → Q (.ref a) (upd H a (SetSO P w a (ys.foldl insS [])))
/-- sorted(found), found a set of texts -/
def rSortS (P : Program) (w : World) : List V → Hp → VK → Prop := fun xs H Q => ∃ (a : Addr) (l : List Str), xs = [V.ref a] ∧ H a = some (SetSO P w a l) ∧
  ∀ (ys : List Str) (p : Addr), ys.Perm l → ys.Nodup → ys.Pairwise (fun x y => ¬ y.cps.toList < x.cps.toList) → H p = none → Q (.ref p) (upd H p (.lst (ys.map V.str)))
theorem vals_strs : ∀ {us : List Value} {xs : List Str}, StrsAre us xs → Vals (xs.map V.str) us
  | _, _, .nil => .nil
  | _, _, .cons x t r => .cons ⟨t, rfl⟩ (vals_strs r)
section
variable {X : Cx}
theorem cr_setS (hc : X.calm = true) : CallR X (.type "set") (rSetS X.K X.prog X.w) := by
  intro pins s σ H xs us Q I r h
  obtain ⟨l, ys, rfl, hl, few, q⟩ := h
  rw [Vals.ref1 r]
  obtain ⟨its, rv, pl, hz⟩ := I.list hl
  refine set_texts (P := X.prog) (w := X.w) (xs := ys) (I.ok.hd hc) pl.isList (by simpa using strsAre_of rv) few fun h' tk T kp => ?_
  exact ⟨.ref s.heap.objs.size, upd H s.heap.objs.size (SetSO X.prog X.w s.heap.objs.size (ys.foldl insS [])), I.laid (t' := tk) kp (Nat.le_refl _) (setSO_new T), rfl, q _ (I.hok.fresh (Nat.le_refl _))⟩
theorem cr_sortS (hc : X.calm = true) : CallR X (.builtin "sorted") (rSortS X.prog X.w) := by
  intro pins s σ H xs us Q I r h
  obtain ⟨a, l, rfl, ha, q⟩ := h
  have R : TxSet X.prog X.w s.heap a l := (I.hok a _ ha).1
  rw [Vals.ref1 r]
  refine sorted_texts R (I.ok.hd hc) fun s' p out c ys kp g o lo at_ hx pm pw => ?_
  have line : (ys.map V.str).length ≤ sizeLine := by
    rw [List.length_map, pm.length_eq]
    exact fits_of_scanBound R.few
  have free : H p = none := I.hok.fresh lo
  have J : Inv X pins σ (upd H p (.lst (ys.map V.str))) { s with heap := s'.heap, gens := s'.gens, drawn := s'.drawn, toks := s'.toks } :=
    I.call (ch := []) (Un.laid kp lo free) (I.hok.laid kp lo ⟨line, out.toList, c, vals_strs hx, at_⟩) (by rw [g]; exact I.bare) (fun _ z => nomatch z)
  have same : s' = { s with heap := s'.heap, gens := s'.gens, drawn := s'.drawn, toks := s'.toks } := by
    cases s'
    cases s
    cases o
    rfl
  rw [same]
  exact ⟨.ref p, _, J, rfl, q ys p pm (pm.nodup_iff.mpr R.nd) pw free⟩
end
/-! ### sorted(set(xs)) in trees -/
def txOf : D → Tx
  | .str x => x
  | _ => []
def isTx : D → Bool
  | .str _ => true
  | _ => false
def insT (l : List Tx) (k : Tx) : List Tx := if k ∈ l then l else k :: l
/-- the different texts, sorted -/
def sortT (xs : List Tx) : List Tx := (xs.foldl insT []).mergeSort fun a b => decide (¬ b < a)
def gSS : List D → Option Slot
  | [.lst xs] => if xs.all isTx = true ∧ xs.length < 4000 then some (.own (.lst ((sortT (xs.map txOf)).map .str))) else none
  | _ => none
theorem ins_toS (l : List Tx) (k : Tx) : insS (l.map toS) (toS k) = (insT l k).map toS := by
  unfold insS insT
  have inj : toS k ∈ l.map toS ↔ k ∈ l := by
    constructor
    · intro h
      obtain ⟨y, hy, e⟩ := List.mem_map.mp h
      have e : y = k := by simpa [toS] using congrArg (fun s : Str => s.cps.toList) e
      exact e ▸ hy
    · exact fun h => List.mem_map.mpr ⟨k, h, rfl⟩
  by_cases h : k ∈ l
  · rw [if_pos h, if_pos (inj.mpr h)]
  · rw [if_neg h, if_neg (fun z => h (inj.mp z))]
    rfl
theorem fold_toS : ∀ (xs l : List Tx), (xs.map toS).foldl insS (l.map toS) = (xs.foldl insT l).map toS
  | [], l => rfl
  | x :: xs, l => by
    rw [List.map_cons, List.foldl_cons, ins_toS, fold_toS xs]
    rfl
theorem tx_map : ∀ {xs : List D}, xs.all isTx = true → xs = (xs.map txOf).map .str
  | [], _ => rfl
  | x :: xs, h => by
    rw [List.all_cons, Bool.and_eq_true] at h
    cases x <;> first | (exact absurd h.1 Bool.false_ne_true) | skip
    rw [List.map_cons, List.map_cons, ← tx_map h.2]
    rfl
theorem rep_strs {K : PySem.W.Frag} {mg : Str → Option Value} {F : Hp} {ρ : List Addr} : ∀ {xs : List Tx} {vs : List V}, RepL K mg F ρ vs (xs.map .str) → vs = (xs.map toS).map V.str
  | [], _, .nil => rfl
  | x :: xs, _, .cons h t => by
    cases h
    rw [rep_strs t]
    rfl
theorem sortT_perm (xs : List Tx) : (sortT xs).Perm (xs.foldl insT []) := List.mergeSort_perm _ _
theorem sortT_le (xs : List Tx) : (sortT xs).Pairwise fun a b => ¬ b < a := by
  have := List.pairwise_mergeSort (le := fun a b : Tx => decide (¬ b < a)) (fun a b c h1 h2 => by
    have h1 := of_decide_eq_true h1
    have h2 := of_decide_eq_true h2
    exact decide_eq_true (List.not_lt.mpr (List.le_trans (List.not_lt.mp h1) (List.not_lt.mp h2)))) (fun a b => by
    by_cases h : b < a
    · simp [h, List.not_lt.mpr (List.le_of_lt h)]
    · simp [h]) (xs.foldl insT [])
  exact this.imp fun {a b} h => of_decide_eq_true h
theorem sortT_uniq {xs ys : List Tx} (hp : ys.Perm (xs.foldl insT [])) (h : ys.Pairwise fun a b => ¬ b < a) : ys = sortT xs :=
  (hp.trans (sortT_perm xs).symm).eq_of_pairwise (le := fun a b => ¬ b < a) (fun a b _ _ h1 h2 => List.le_antisymm (List.not_lt.mp h1) (List.not_lt.mp h2)) h (sortT_le xs)
theorem fold_insT : ∀ (xs l : List Tx) (k : Tx), k ∈ xs.foldl insT l ↔ k ∈ l ∨ k ∈ xs
  | [], l, k => by simp
  | x :: xs, l, k => by
    rw [List.foldl_cons, fold_insT xs]
    unfold insT
    split
    · rename_i h
      constructor
      · rintro (z | z)
        · exact .inl z
        · exact .inr (List.mem_cons_of_mem _ z)
      · rintro (z | z)
        · exact .inl z
        · rcases List.mem_cons.mp z with rfl | z
          · exact .inl h
          · exact .inr z
    · simp only [List.mem_cons]
      constructor
      · rintro ((z | z) | z)
        · exact .inr (.inl z)
        · exact .inl z
        · exact .inr (.inr z)
      · rintro (z | z | z)
        · exact .inl (.inr z)
        · exact .inl (.inl z)
        · exact .inr z
theorem mem_sortT {xs : List Tx} {k : Tx} : k ∈ sortT xs ↔ k ∈ xs := by
  rw [(sortT_perm xs).mem_iff, fold_insT]
  simp
theorem nd_insT : ∀ (xs l : List Tx), l.Nodup → (xs.foldl insT l).Nodup
  | [], l, h => h
  | x :: xs, l, h => by
    rw [List.foldl_cons]
    refine nd_insT xs _ ?_
    unfold insT
    split
    · exact h
    · rename_i no
      exact List.nodup_cons.mpr ⟨no, h⟩
theorem sortT_nd (xs : List Tx) : (sortT xs).Nodup := (sortT_perm xs).nodup_iff.mpr (nd_insT xs [] List.nodup_nil)
theorem foldT_len : ∀ (xs l : List Tx), (xs.foldl insT l).length ≤ l.length + xs.length
  | [], l => Nat.le_refl _
  | x :: xs, l => by
    have a := foldT_len xs (insT l x)
    have b : (insT l x).length ≤ l.length + 1 := by
      unfold insT
      split
      · exact Nat.le_succ _
      · exact Nat.le_refl _
    rw [List.foldl_cons, List.length_cons]
    omega
theorem sortT_len (xs : List Tx) : (sortT xs).length ≤ xs.length := by
  have a := foldT_len xs []
  rw [(sortT_perm xs).length_eq]
  simpa using a
section
variable {X : Cx} {W : WX} {k : Nat} {N : List Str} {sc : Scope} {e : Expr} {os : List Opn} {pos p pos' p' : Pos}
def rSS (X : Cx) : List V → Hp → VK → Prop := fun xs H Q => rSetS X.K X.prog X.w xs H fun v H1 => rSortS X.prog X.w [v] H1 Q
theorem j_ss : RLJ X (rSS X) gSS := by
  intro Z F ρ μ δ σ H xs ds s Q S bs e q
  unfold gSS at e
  split at e
  · rename_i ys
    by_cases hc : ys.all isTx = true ∧ ys.length < 4000
    · rw [if_pos hc] at e
      cases e
      obtain ⟨v, rfl, bv⟩ := bs.one
      obtain ⟨a, vs, rfl, hH, rl⟩ := bv.lst S
      have hy := tx_map hc.1
      rw [hy] at rl
      have hv := rep_strs rl
      subst hv
      refine ⟨a, (ys.map txOf).map toS, rfl, .of hH, by rw [List.length_map, List.length_map]; unfold scanBound; omega, fun b hb => ?_⟩
      refine ⟨b, _, rfl, upd_same, fun zs p pm nd pw free => ?_⟩
      rw [show ([] : List Str) = ([] : List Tx).map toS from rfl, fold_toS] at pm
      obtain ⟨zt, p1, p2⟩ := perm_back pm
      subst p2
      have pz : zt.Pairwise fun a b => ¬ b < a := by
        have z := List.pairwise_map.mp pw
        exact z.imp fun {a b} h => by simpa [toS] using h
      have ez : zt = sortT (ys.map txOf) := sortT_uniq p1 pz
      subst ez
      have S1 := S.laid (o := SetSO X.prog X.w b (((ys.map txOf).map toS).foldl insS [])) hb
      obtain ⟨S2, vr⟩ := vr_newL S1 free (RepL.ofStrs (K := X.K) (mg := X.mg) (F := F) (ρ := ρ) (sortT (ys.map txOf)))
      exact q _ _ F .refl S2 vr
    · rw [if_neg hc] at e; cases e
  · cases e
/-- sorted(set(xs)) -/
theorem Cs.ss (C : Cs X W k N sc) (h1 : glC sc "sorted" = true) (m1 : X.mg "sorted" = none) (h2 : glC sc "set" = true) (m2 : X.mg "set" = none) (ha : JOs X W [e] os)
    (he : starEach [e] X.env = (false, eval e X.env) :: starEach [] X.env := by rfl)
    (he2 : starEach [.Call (.Name "set" p') [e] [] pos'] X.env = (false, eval (.Call (.Name "set" p') [e] [] pos') X.env) :: starEach [] X.env := by rfl) :
    JE X W (.Call (.Name "sorted" p) [.Call (.Name "set" p') [e] [] pos'] [] pos) (mC gSS os) :=
  (pe_callB (cr_sortS C.calm) (C.gl h1).1 m1 rfl (pa_cons (pe_callTy (cr_setS C.calm) (C.gl h2).1 m2 rfl ha (by decide) (by decide) he rfl) pa_nil he2) (by decide) (by decide) he2 rfl).imp (mC_read j_ss)
end
end FL

/-! Part Sv: sorted of ints (lists, tuples, keys of a dict); list(range(n)). -/
namespace FL
open PySem PySem.Spec PyProof.Rows L2 SrtO
section
variable {P : Program} {w : World} {A : Around} {E : Value → Shared → Prop} {s : Shared}
theorem collect_tup {l : Addr} {vs : List Value} {Q : List Value → Shared → Prop} (hl : s.heap.IsTuple l vs.toArray) (hsz : vs.length ≤ sizeLine)
    (q : Q vs { s with heap := (s.heap.push (seqObj "list" #[] 0)).update s.heap.objs.size (Obj.mapSeq fun b => b ++ vs.toArray) }) : wpAny (model P w) A (collect (.ref l)) Q E s := by
  obtain ⟨o, g, c, n, dt⟩ := id hl
  unfold collect
  refine wpAny_bind (wpAny_runValue (codeAny_builtin (A := A) entry_proto_collect' ?_))
  show wpAny _ _ (do again (.builtin "list.__iadd__" ⟨[← newList [], Value.ref l], []⟩)) _ _ s
  refine wpAny_bind (wpAny_newList (wpAny_pure ⟨Code.quiet_builtin _ (by decide +kernel), codeAny_builtin (R := _) entry_list_iadd' ?_⟩))
  show wpAny _ _ (Builtin.List.listExtendWith (Value.ref s.heap.objs.size) (Value.ref l) (Value.ref s.heap.objs.size)) _ _ { s with heap := s.heap.push (seqObj "list" #[] 0) }
  unfold Builtin.List.listExtendWith
  have g1 : (s.heap.push (seqObj "list" #[] 0)).get? l = some o := Heap.get?_push_of_some _ g
  have g2 : (s.heap.push (seqObj "list" #[] 0)).get? s.heap.objs.size = some (seqObj "list" #[] 0) := Heap.get?_push_size _ rfl
  refine wpAny_bind (wpAny_typeOf (T := "tuple") ⟨o, g1, c⟩ ?_)
  rw [if_pos (by rw [show (Value.type "tuple" == Value.type "tuple") = true from rfl]; simp)]
  refine wpAny_bind (listItems_at g1 dt (wpAny_bind (listItems_at (xs := #[]) (n := 0) g2 rfl ?_)))
  rw [if_neg (by simp)]
  refine wpAny_bind (listUpdate_at (xs := #[]) (n := 0) g2 rfl ?_ (Nat.zero_le _) (by show (#[] ++ vs.toArray).size ≤ sizeLine + 1; simp only [Array.size_append, List.size_toArray, List.length_nil]; omega))
  refine wpAny_pure ?_
  refine wpAny_bind (wpAny_load (get?_update_seq g2 _) ?_)
  show wpAny _ _ (pure ((#[] : Array Value) ++ vs.toArray).toList) Q E _
  rw [show ((#[] : Array Value) ++ vs.toArray).toList = vs by simp]
  exact wpAny_pure q
/-- sorted(t), t a tuple of ints -/
theorem sorted_tupI {l : Addr} {vs : List Value} {ns : List Int} {Q : Value → Shared → Prop} (hl : s.heap.IsTuple l vs.toArray) (hI : IntsAre vs ns) (line : vs.length ≤ sizeLine)
    (q : ∀ h' p (out : List Value) (c : Nat), (∀ b o, s.heap.get? b = some o → h'.get? b = some o) → s.heap.objs.size ≤ p → h'.get? p = some (seqObj "list" out.toArray c) → IntsAre out (out.map iv) → (out.map iv).Perm ns → (out.map iv).Pairwise (· ≤ ·) →
      Q (.ref p) { s with heap := h' }) : wpAny (model P w) A (call (.builtin "sorted") [.ref l]) Q E s := by
  refine Calls.call_function_entry (id := "sorted") kind_sorted plain_sorted entry_sorted (args_sorted1 (.ref l)) ?_
  unfold Builtin.«sorted»
  refine wpAny_bind (m := checkCount "sorted" 1 1 _) (wpAny_pure (wpAny_bind (collect_tup hl line ?_)))
  refine wpAny_bind (wpAny_newList ?_ line)
  have z1 : ((s.heap.push (seqObj "list" #[] 0)).update s.heap.objs.size (Obj.mapSeq fun b => b ++ vs.toArray)).objs.size = s.heap.objs.size + 1 := by rw [Heap.size_update, size_push']
  have kp : ∀ b o, s.heap.get? b = some o → ((s.heap.push (seqObj "list" #[] 0)).update s.heap.objs.size (Obj.mapSeq fun b => b ++ vs.toArray)).get? b = some o := fun b o e => by
    rw [Heap.get?_update_ne _ _ _ _ (Nat.ne_of_lt (Heap.lt_size e))]
    exact Heap.get?_push_of_some _ e
  generalize (s.heap.push (seqObj "list" #[] 0)).update s.heap.objs.size (Obj.mapSeq fun b => b ++ vs.toArray) = h1 at z1 kp ⊢
  show wpAny (model P w) _ _ _ _ { s with heap := h1.push (seqObj "list" vs.toArray 0) }
  have g : (h1.push (seqObj "list" vs.toArray 0)).get? h1.objs.size = some (seqObj "list" vs.toArray 0) := Heap.get?_push_size _ rfl
  refine wpAny_bind (wpAny_holding (wpAny_call_entry (id := "list.sort") slot_list_sort ⟨_, g, rfl⟩ entry_list_sort (list_sort_ord swo_int g line (fun two => ints_sortable hI two) fun out hs hb => ⟨_, rfl, ?_⟩) (args_list_sort _)))
  obtain ⟨k1, k2, k3⟩ := ints_out hI hs hb
  obtain ⟨c, hc⟩ := sortedHeap_at (vs := vs) (out := out.toArray) g
  refine wpAny_pure ⟨_, rfl, q _ h1.objs.size out c (fun b o e => ?_) (by rw [z1]; exact Nat.le_succ _) hc k1 k2 k3⟩
  have z := kp b o e
  have lo := Heap.lt_size z
  rw [sortedHeap_old (Nat.ne_of_lt lo) (by rw [size_push']; exact Nat.lt_succ_of_lt lo)]
  exact Heap.get?_push_of_some _ z
end
def rSortT (K : PySem.W.Frag) : List V → Hp → VK → Prop := fun xs H Q => ∃ (a : Addr) (ns : List Int), xs = [V.ref a] ∧ SqT K H a (ns.map V.int) ∧
  ∀ (ys : List Int) (p : Addr), ys.Perm ns → ys.Pairwise (· ≤ ·) → H p = none → Q (.ref p) (upd H p (.lst (ys.map V.int)))
abbrev rSortD : List V → Hp → VK → Prop := fun xs H Q => ∃ (a : Addr) (kvs : List (Key × V)) (ks : List Int), xs = [.ref a] ∧ Rd H a (.dK kvs) ∧ kvs.map (·.1) = ks.map Sum.inl ∧ ks.length < 64 ∧
    ∀ (ys : List Int) (p : Addr), ys.Perm ks → ys.Pairwise (· ≤ ·) → H p = none → Q (.ref p) (upd H p (.lst (ys.map V.int)))
section
variable {X : Cx}
theorem cr_sortT : CallR X (.builtin "sorted") (rSortT X.K) := by
  intro pins s σ H xs us Q I r h
  obtain ⟨a, ns, rfl, ht, q⟩ := h
  rw [Vals.ref1 r]
  obtain ⟨its, rv, pl, hz⟩ := I.tuple ht
  have line : its.length ≤ sizeLine := by rw [← rv.length]; exact hz
  obtain ⟨o, e1, e2, n, e3⟩ := pl
  refine sorted_tupI ⟨o, e1, e2, n, e3⟩ rv.ints line fun h' p out c kp lo at_ k1 k2 k3 => ?_
  have len : ((out.map iv).map V.int).length ≤ sizeLine := by
    rw [List.length_map, k2.length_eq]
    rw [List.length_map] at hz
    exact hz
  exact ⟨.ref p, upd H p (.lst ((out.map iv).map V.int)), I.laid (t' := s.toks) kp lo ⟨len, out, c, vals_of_ints k1, at_⟩, rfl, q _ _ k2 k3 (I.hok.fresh lo)⟩
end
/-! ### in trees -/
def inOf : D → Int
  | .int n => n
  | _ => 0
def isIn : D → Bool
  | .int _ => true
  | _ => false
def kiOf : DK → Int
  | .i n => n
  | _ => 0
def isKi : DK → Bool
  | .i _ => true
  | _ => false
def sortI (ns : List Int) : List Int := ns.mergeSort fun a b => decide (a ≤ b)
theorem sortI_perm (ns : List Int) : (sortI ns).Perm ns := List.mergeSort_perm _ _
theorem sortI_le (ns : List Int) : (sortI ns).Pairwise (· ≤ ·) := by
  have := List.pairwise_mergeSort (le := fun a b : Int => decide (a ≤ b)) (fun a b c h1 h2 => by
    have h1 := of_decide_eq_true h1
    have h2 := of_decide_eq_true h2
    exact decide_eq_true (by omega)) (fun a b => by
    by_cases h : a ≤ b
    · simp [h]
    · have : b ≤ a := by omega
      simp [this]) ns
  exact this.imp fun {a b} h => of_decide_eq_true h
theorem sortI_uniq {ns ys : List Int} (hp : ys.Perm ns) (h : ys.Pairwise (· ≤ ·)) : ys = sortI ns :=
  (hp.trans (sortI_perm ns).symm).eq_of_pairwise (le := fun a b : Int => a ≤ b) (fun a b _ _ h1 h2 => by omega) h (sortI_le ns)
theorem in_map : ∀ {xs : List D}, xs.all isIn = true → xs = (xs.map inOf).map .int
  | [], _ => rfl
  | x :: xs, h => by
    rw [List.all_cons, Bool.and_eq_true] at h
    cases x <;> first | (exact absurd h.1 Bool.false_ne_true) | skip
    rw [List.map_cons, List.map_cons, ← in_map h.2]
    rfl
theorem ki_map : ∀ {ks : List DK}, ks.all isKi = true → ks.map DK.key = (ks.map kiOf).map Sum.inl
  | [], _ => rfl
  | x :: xs, h => by
    rw [List.all_cons, Bool.and_eq_true] at h
    cases x <;> first | (exact absurd h.1 Bool.false_ne_true) | skip
    rw [List.map_cons, ki_map h.2]
    rfl
def gSortL : List D → Option Slot
  | [.lst xs] => if xs.all isIn = true then some (.own (.lst ((sortI (xs.map inOf)).map .int))) else none
  | _ => none
def gSortT : List D → Option Slot
  | [.tup xs] => if xs.all isIn = true then some (.own (.lst ((sortI (xs.map inOf)).map .int))) else none
  | _ => none
def gSortD : List D → Option Slot
  | [.dct ks _] => if ks.all isKi = true ∧ ks.length < 64 then some (.own (.lst ((sortI (ks.map kiOf)).map .int))) else none
  | _ => none
def gSortedI : List D → Option Slot := fun x => ((gSortL x).or (gSortT x)).or (gSortD x)
abbrev rSortedA (X : Cx) : List V → Hp → VK → Prop := fun xs H Q => (rSortedI X.K xs H Q ∨ rSortT X.K xs H Q) ∨ rSortD xs H Q
section
variable {X : Cx} {W : WX} {k : Nat} {N : List Str} {sc : Scope} {e : Expr} {os : List Opn} {o : Opn} {pos p pos' p' : Pos}
theorem o_sortedA (hc : X.calm = true) : CallR X (.builtin "sorted") (rSortedA X) := (cr_sortedI.or cr_sortT).or (call_sortedDI hc)
theorem new_ints {Z F : Hp} {ρ : List Addr} {μ : Mem} {δ : FL.Loc} {σ : L2.St} {H : Hp} {q : VK} {ns ys : List Int} {p : Addr} (S : Sim X.K X.mg Z F ρ μ δ σ H)
    (h : ∀ v H' F', Le Z F F' → Sim X.K X.mg Z F' ρ μ δ σ H' → VR X.K X.mg Z F' ρ δ σ H' v (.own (.lst ((sortI ns).map .int))) → q v H') (pm : ys.Perm ns) (pw : ys.Pairwise (· ≤ ·)) (free : H p = none) : q (.ref p) (upd H p (.lst (ys.map V.int))) := by
  rw [sortI_uniq pm pw]
  obtain ⟨S2, vr⟩ := vr_newL S free (RepL.ofInts (K := X.K) (mg := X.mg) (F := F) (ρ := ρ) (sortI ns))
  exact h _ _ F .refl S2 vr
theorem j_sortedA : RLJ X (rSortedA X) gSortedI := by
  refine RLJ.or (RLJ.or ?_ ?_) ?_
  · intro Z F ρ μ δ σ H xs ds s Q S bs e q
    unfold gSortL at e
    split at e
    · rename_i ys
      by_cases hc : ys.all isIn = true
      · rw [if_pos hc] at e
        cases e
        obtain ⟨v, rfl, bv⟩ := bs.one
        obtain ⟨a, vs, rfl, hH, rl⟩ := bv.lst S
        rw [in_map hc] at rl
        have ev := rl.ints
        subst ev
        exact ⟨a, ys.map inOf, rfl, .of hH, fun zs p pm pw free => new_ints S q pm pw free⟩
      · rw [if_neg hc] at e; cases e
    · cases e
  · intro Z F ρ μ δ σ H xs ds s Q S bs e q
    unfold gSortT at e
    split at e
    · rename_i ys
      by_cases hc : ys.all isIn = true
      · rw [if_pos hc] at e
        cases e
        obtain ⟨v, rfl, bv⟩ := bs.one
        obtain ⟨a, vs, rfl, hH, rl⟩ := bv.tup S
        rw [in_map hc] at rl
        have ev := rl.ints
        subst ev
        exact ⟨a, ys.map inOf, rfl, hH, fun zs p pm pw free => new_ints S q pm pw free⟩
      · rw [if_neg hc] at e; cases e
    · cases e
  · intro Z F ρ μ δ σ H xs ds s Q S bs e q
    unfold gSortD at e
    split at e
    · rename_i ks ws
      by_cases hc : ks.all isKi = true ∧ ks.length < 64
      · rw [if_pos hc] at e
        cases e
        obtain ⟨v, rfl, bv⟩ := bs.one
        obtain ⟨a, vs, rfl, hH, hl, rl⟩ := bv.dct S
        refine ⟨a, _, ks.map kiOf, rfl, hH, ?_, by rw [List.length_map]; exact hc.2, fun zs p pm pw free => new_ints S q pm pw free⟩
        rw [List.map_fst_zip (by rw [List.length_map]; omega)]
        exact ki_map hc.1
      · rw [if_neg hc] at e; cases e
    · cases e
/-- list(range(n)) -/
def mLR (m : ME) : ME := fun δ μ => (m δ μ).bind fun s δ1 μ1 => match s with
  | .fr (.int n) => if 0 ≤ n ∧ n ≤ 16777216 then .ok (.own (.lst (rangeD 0 n.toNat))) δ1 μ1 else .bad
  | _ => .bad
theorem je_lr {m : ME} (hc : X.calm = true) (hg : Gl X "list") (hm : X.mg "list" = none) (hg2 : Gl X "range") (hm2 : X.mg "range" = none) (he : JE X W e m)
    (n1 : starEach [e] X.env = (false, eval e X.env) :: starEach [] X.env := by rfl)
    (n2 : starEach [.Call (.Name "range" p') [e] [] pos'] X.env = (false, eval (.Call (.Name "range" p') [e] [] pos') X.env) :: starEach [] X.env := by rfl) :
    JE X W (.Call (.Name "list" p) [.Call (.Name "range" p') [e] [] pos'] [] pos) (mLR m) := by
  refine (pe_listRg hc hg hm (prg_1 hg2 hm2 he n1) n2).imp fun σ H Q ⟨Z, F, ρ, μ, δ, S, q⟩ => ⟨Z, F, ρ, μ, δ, S, (FinE.bind q).imp fun s δ1 μ1 H1 F1 ρ1 l lr S1 ⟨_, _, _, z⟩ v rv => ?_⟩
  match s, z, rv with
  | .fr (.int n), z, rv =>
    have z : FinE X W Z F1 ρ1 σ _ (if 0 ≤ n ∧ n ≤ 16777216 then Out.ok (Slot.own (Own.lst (rangeD 0 n.toNat))) δ1 μ1 else .bad) := z
    by_cases c : 0 ≤ n ∧ n ≤ 16777216
    · rw [if_pos c] at z
      have hv : Rep X.K X.mg F1 ρ1 v (.int n) := rv.r
      cases hv
      refine ⟨n, rfl, .of_le (by decide) (by omega) (by decide) c.1, fun a free => ?_⟩
      have e1 : rgV 0 n = ((List.range n.toNat).map fun i => (0 : Int) + (i : Nat)).map V.int := by
        unfold rgV
        rw [Int.sub_zero, List.map_map]
        rfl
      have e2 : rangeD 0 n.toNat = ((List.range n.toNat).map fun i => (0 : Int) + (i : Nat)).map D.int := by
        unfold rangeD
        rw [List.map_map]
        rfl
      rw [e1]
      rw [e2] at z
      obtain ⟨S2, vr⟩ := vr_newL S1 free (RepL.ofInts (K := X.K) (mg := X.mg) (F := F1) (ρ := ρ1) _)
      exact z _ F1 ρ1 .refl .refl S2 _ vr
    · rw [if_neg c] at z; exact z.elim
  | .own _, z, _ => exact z.elim
  | .fr .non, z, _ | .fr (.bl _), z, _ | .fr (.str _), z, _ | .fr (.lst _), z, _ | .fr (.tup _), z, _ | .fr (.ro _), z, _ | .fr (.dct _ _), z, _ | .fr (.obj _), z, _ | .fr (.glo _), z, _ | .fr (.ty _), z, _ | .fr (.exn _ _ _), z, _ | .fr (.ins _ _ _), z, _ | .fr .unk, z, _ => exact z.elim
theorem Cs.lr {m : ME} (C : Cs X W k N sc) (h1 : glC sc "list" = true) (m1 : X.mg "list" = none) (h2 : glC sc "range" = true) (m2 : X.mg "range" = none) (he : JE X W e m)
    (n1 : starEach [e] X.env = (false, eval e X.env) :: starEach [] X.env := by rfl)
    (n2 : starEach [.Call (.Name "range" p') [e] [] pos'] X.env = (false, eval (.Call (.Name "range" p') [e] [] pos') X.env) :: starEach [] X.env := by rfl) :
    JE X W (.Call (.Name "list" p) [.Call (.Name "range" p') [e] [] pos'] [] pos) (mLR m) := je_lr C.calm (C.gl h1).1 m1 (C.gl h2).1 m2 he n1 n2
end
end FL

/-! Part Pl: the places of words in a row, laid into a dict. -/
namespace FL
open PySem L2
/-- the places of a word in a row that begins at n -/
def plc (w : Tx) : Nat → List Tx → List Int
  | _, [] => []
  | n, x :: xs => if x = w then (n : Int) :: plc w (n + 1) xs else plc w (n + 1) xs
theorem plc_at {w : Tx} : ∀ {xs : List Tx} {n : Nat} {i : Int}, i ∈ plc w n xs ↔ ∃ k : Nat, i = ((n + k : Nat) : Int) ∧ xs[k]? = some w
  | [], n, i => by simp [plc]
  | x :: xs, n, i => by
    have ih := plc_at (w := w) (xs := xs) (n := n + 1) (i := i)
    have tail : (∃ k : Nat, i = ((n + 1 + k : Nat) : Int) ∧ xs[k]? = some w) → ∃ k : Nat, i = ((n + k : Nat) : Int) ∧ (x :: xs)[k]? = some w := fun ⟨k, e, h⟩ => ⟨k + 1, by rw [e]; omega, by simpa using h⟩
    by_cases hx : x = w
    · simp only [plc, hx, if_true, List.mem_cons]
      constructor
      · rintro (rfl | h)
        · exact ⟨0, rfl, rfl⟩
        · have z := tail (ih.mp h)
          rw [hx] at z
          exact z
      · rintro ⟨k, e, h⟩
        cases k with
        | zero => exact .inl (by rw [e]; rfl)
        | succ k => exact .inr (ih.mpr ⟨k, by rw [e]; omega, by simpa using h⟩)
    · simp only [plc, hx, if_false]
      constructor
      · exact fun h => tail (ih.mp h)
      · rintro ⟨k, e, h⟩
        cases k with
        | zero => exact absurd (by simpa using h) hx
        | succ k => exact ih.mpr ⟨k, by rw [e]; omega, by simpa using h⟩
theorem plc_inc {w : Tx} : ∀ {xs : List Tx} {n : Nat}, (plc w n xs).Pairwise (· < ·)
  | [], n => by simp [plc]
  | x :: xs, n => by
    have ih := plc_inc (w := w) (xs := xs) (n := n + 1)
    by_cases hx : x = w
    · simp only [plc, hx, if_true]
      refine List.pairwise_cons.mpr ⟨fun i hi => ?_, ih⟩
      obtain ⟨k, e, _⟩ := plc_at.mp hi
      omega
    · simp only [plc, hx, if_false]
      exact ih
theorem plc_count {w : Tx} : ∀ {xs : List Tx} {n : Nat}, (plc w n xs).length = xs.count w
  | [], n => by simp [plc]
  | x :: xs, n => by
    have ih := plc_count (w := w) (xs := xs) (n := n + 1)
    by_cases hx : x = w <;> simp [plc, hx, ih]
theorem plc_len (w : Tx) (n : Nat) (xs : List Tx) : (plc w n xs).length ≤ xs.length := by
  rw [plc_count]; exact List.count_le_length
theorem plc_sorted {w : Tx} {xs : List Tx} {n : Nat} : sortI (plc w n xs) = plc w n xs := (sortI_uniq (List.Perm.refl _) (plc_inc.imp fun h => Int.le_of_lt h)).symm
/-- the places of all words of S -/
def keysW (W S : List Tx) : List Int := S.flatMap fun w => plc w 0 W
theorem keys_nd {W : List Tx} {S : List Tx} (hS : S.Nodup) : (keysW W S).Nodup := by
  unfold keysW
  refine List.pairwise_flatMap.mpr ⟨fun w _ => plc_inc.imp fun {a b} h => by omega, ?_⟩
  refine hS.imp fun {v w} ne i hi j hj e => ne ?_
  obtain ⟨k, e1, h1⟩ := plc_at.mp hi
  obtain ⟨l, e2, h2⟩ := plc_at.mp hj
  have : k = l := by omega
  subst this
  rw [h1] at h2
  exact Option.some.inj h2
theorem keys_at {W S : List Tx} {i : Int} : i ∈ keysW W S ↔ ∃ w ∈ S, ∃ k : Nat, i = (k : Int) ∧ W[k]? = some w := by
  unfold keysW
  rw [List.mem_flatMap]
  constructor
  · rintro ⟨w, hw, h⟩
    obtain ⟨k, e, h⟩ := plc_at.mp h
    exact ⟨w, hw, k, by omega, h⟩
  · rintro ⟨w, hw, k, e, h⟩
    exact ⟨w, hw, plc_at.mpr ⟨k, by omega, h⟩⟩
def upto (n : Nat) : List Int := (List.range n).map fun i => (0 : Int) + (i : Nat)
theorem upto_le (n : Nat) : (upto n).Pairwise (· ≤ ·) := by
  unfold upto
  exact List.pairwise_map.mpr (List.pairwise_lt_range.imp fun h => by omega)
theorem upto_nd (n : Nat) : (upto n).Nodup := by
  unfold upto
  exact List.pairwise_map.mpr (List.pairwise_lt_range.imp fun h => by omega)
theorem keys_perm {W S : List Tx} (hS : S.Nodup) (hc : ∀ w ∈ W, w ∈ S) : (keysW W S).Perm (upto W.length) := by
  refine (List.perm_ext_iff_of_nodup (keys_nd hS) (upto_nd _)).mpr fun i => ?_
  rw [keys_at]
  unfold upto
  rw [List.mem_map]
  constructor
  · rintro ⟨w, _, k, e, h⟩
    exact ⟨k, List.mem_range.mpr (List.getElem?_eq_some_iff.mp h).1, by omega⟩
  · rintro ⟨k, hk, e⟩
    have hk := List.mem_range.mp hk
    exact ⟨W[k], hc _ (List.getElem_mem hk), k, by omega, List.getElem?_eq_getElem hk⟩
theorem keys_sorted {W S : List Tx} (hS : S.Nodup) (hc : ∀ w ∈ W, w ∈ S) : sortI (keysW W S) = upto W.length := (sortI_uniq (keys_perm hS hc).symm (upto_le _)).symm
/-- the dict -/
def lay (W S : List Tx) : List (DK × D) := S.flatMap fun w => (plc w 0 W).map fun p => (DK.i p, D.str w)
theorem lay_keys (W S : List Tx) : (lay W S).map (·.1) = (keysW W S).map DK.i := by
  unfold lay keysW
  induction S with
  | nil => rfl
  | cons w S ih => simp only [List.flatMap_cons, List.map_append, ih, List.map_map]; rfl
theorem lay_len (W S : List Tx) : (lay W S).length = (keysW W S).length := by
  have := congrArg List.length (lay_keys W S)
  simpa using this
theorem lay_get {W S : List Tx} (hc : ∀ w ∈ W, w ∈ S) {k : Nat} (hk : k < W.length) : getA (lay W S) (.i (k : Int)) = some (.str W[k]) := by
  unfold getA
  cases h : (lay W S).find? fun p => decide (p.1 = DK.i (k : Int)) with
  | none =>
    have := List.find?_eq_none.mp h (DK.i (k : Int), D.str W[k]) (by
      unfold lay
      refine List.mem_flatMap.mpr ⟨W[k], hc _ (List.getElem_mem hk), List.mem_map.mpr ⟨(k : Int), plc_at.mpr ⟨k, by omega, List.getElem?_eq_getElem hk⟩, rfl⟩⟩)
    simp at this
  | some p =>
    have h1 := List.find?_some h
    have h2 := List.mem_of_find?_eq_some h
    have h1 := of_decide_eq_true h1
    unfold lay at h2
    obtain ⟨w, hw, h3⟩ := List.mem_flatMap.mp h2
    obtain ⟨i, hi, rfl⟩ := List.mem_map.mp h3
    obtain ⟨l, e, hl⟩ := plc_at.mp hi
    have h1 : i = (k : Int) := DK.i.inj h1
    have : l = k := by omega
    subst this
    rw [List.getElem?_eq_getElem hk] at hl
    cases hl
    rfl
theorem put_new {kds : List (DK × D)} {k : DK} {d : D} (h : k ∉ kds.map (·.1)) : putA kds k d = kds ++ [(k, d)] := by
  unfold putA
  rw [if_neg]
  intro z
  obtain ⟨p, hp, e⟩ := List.any_eq_true.mp z
  exact h (List.mem_map.mpr ⟨p, hp, of_decide_eq_true e⟩)
theorem zip_dct (kds : List (DK × D)) : (kds.map (·.1)).zip (kds.map (·.2)) = kds := by
  induction kds with
  | nil => rfl
  | cons p r ih => simp only [List.map_cons, List.zip_cons_cons, ih]
theorem set_new {kds : List (DK × D)} {i : Int} {d : D} (h : DK.i i ∉ kds.map (·.1)) (hl : kds.length < 16777216) : gSetD (dctO kds) (.int i) d = some (dctO (kds ++ [(DK.i i, d)])) := by
  unfold gSetD dctO dkey
  dsimp only
  rw [zip_dct, if_pos hl, put_new h]
theorem get_dct {kds : List (DK × D)} {i : Int} {d : D} (h : getA kds (.i i) = some d) : gGetD (.dct (kds.map (·.1)) (kds.map (·.2))) (.int i) = some (.fr d) := by
  unfold gGetD dkey
  dsimp only
  rw [zip_dct, h]
  rfl
theorem sorted_lay {W S : List Tx} (hS : S.Nodup) (hc : ∀ w ∈ W, w ∈ S) (hl : W.length < 64) : gSortedI [.dct ((lay W S).map (·.1)) ((lay W S).map (·.2))] = some (.own (.lst ((upto W.length).map .int))) := by
  have e : gSortD [.dct ((lay W S).map (·.1)) ((lay W S).map (·.2))] = some (.own (.lst ((upto W.length).map .int))) := by
    unfold gSortD
    dsimp only
    have n : (keysW W S).length = W.length := by
      have := (keys_perm hS hc).length_eq
      rw [this]
      simp [upto]
    rw [if_pos]
    · rw [lay_keys, List.map_map, show kiOf ∘ DK.i = id from rfl, List.map_id, keys_sorted hS hc]
    · refine ⟨?_, by rw [List.length_map, lay_len, n]; exact hl⟩
      rw [lay_keys, List.all_eq_true]
      intro k hk
      obtain ⟨i, _, rfl⟩ := List.mem_map.mp hk
      rfl
  show ((gSortL _).or (gSortT _)).or (gSortD _) = _
  rw [e]
  rfl
/-! ### the words of drawn texts, more closely -/
/-- a text ends ahead of a new word -/
def Ends (y : Tx) : Prop := y = [] ∨ ∃ q c, y = q ++ [c] ∧ lo1 c ∉ WS
theorem words_more {y r g : Tx} (hy : Ends y) (hr : ∀ c ∈ r, lo1 c ∈ WS) (r0 : r ≠ []) (hg : ∀ c ∈ g, lo1 c ∉ WS) (g0 : g ≠ []) : wordsT (y ++ (r ++ g)) = wordsT y ++ wordsL (r.map lo1) ∧ Ends (y ++ (r ++ g)) := by
  constructor
  · unfold wordsT
    rw [← List.append_assoc, List.map_append, List.map_append, wordsL_gap1 (fun c hc => ?_) (by simpa using g0)]
    · refine pre_app ?_
      rcases hy with rfl | ⟨q, c, rfl, hc⟩
      · exact .inl rfl
      · exact .inr ⟨q.map lo1, lo1 c, by simp, hc⟩
    · obtain ⟨d, hd, rfl⟩ := List.mem_map.mp hc
      exact hg d hd
  · obtain ⟨f, c, rfl⟩ : ∃ f c, g = f ++ [c] := ⟨g.dropLast, g.getLast g0, (List.dropLast_concat_getLast g0).symm⟩
    exact .inr ⟨y ++ (r ++ f), c, by simp, hg c (List.mem_append_right _ (List.mem_singleton.mpr rfl))⟩
theorem run_words {r : Tx} (hr : ∀ c ∈ r, lo1 c ∈ WS) (r0 : r ≠ []) (hl : r.length ≤ 45) : (wordsL (r.map lo1)).length ≤ 3 ∧ (wordsL (r.map lo1)).flatten.length ≤ 45 := by
  obtain ⟨f, l, e1, e2, e3, e4, e5, e6⟩ := wordsL_run (x := r.map lo1) (fun c hc => by obtain ⟨d, hd, rfl⟩ := List.mem_map.mp hc; exact hr d hd) (by simpa using r0)
  rw [e1]
  constructor
  · rw [List.length_append, List.length_singleton, e6, List.length_map]; omega
  · rw [e2, List.length_map]; exact hl
theorem words_cut {q : Tx} {c : Nat} (h : lo1 c ∉ WS) : wordsT (q ++ [c]) = wordsT q := by
  unfold wordsT
  rw [List.map_append]
  exact wordsL_gap1 (fun d hd => by
    rw [List.map_cons, List.map_nil, List.mem_singleton] at hd
    rw [hd]; exact h) (by simp)
end FL

/-! Part Ty: drawn texts, with how many words they have. -/
namespace FL
open PySem L2
/-- a drawn text of i runs -/
structure Drawn (i : Nat) (y : Tx) : Prop where
  asc : Asc y
  len : y.length ≤ 4 + i * 49
  many : (wordsT y).length ≤ 3 * i
  all : (wordsT y).flatten.length ≤ 45 * i
theorem drawn_loop {μ : Mem} {j i : Nat} {B : Int} {x : Tx} {t : D} {s : Option FL.Slot} (h : Src μ j B) (hB : B + 300 ≤ 2 ^ 40) (hx : Drawn i x) (hi : i ≤ 7) (he : Ends x) (d : D) :
    ∃ y μ', turnD (tgV 3) S.f1__law_text d [some (.fr (.obj j)), some (.fr t), some (.fr (.str x)), s] μ =
      .nx [some (.fr (.obj j)), some (.fr t), some (.fr (.str y)), some (.fr d)] μ' ∧ Drawn (i + 1) y ∧ Ends y ∧ Src μ' j (B + 60) ∧ Fr j μ μ' := by
  obtain ⟨r, μ1, e1, r1, r2, ra, s1, f1⟩ := run_spec (most := 45) h (by decide) (by decide) (by omega)
  obtain ⟨g, μ2, e2, g0, gl, ga, s2, f2⟩ := gap_spec s1 (by omega)
  have hl := hx.len
  have b1 : x.length + r.length ≤ 16777216 := by omega
  have b2 : x.length + (r.length + g.length) ≤ 16777216 := by omega
  have r0 : r ≠ [] := fun z => by rw [z] at r1; simp at r1
  obtain ⟨w1, w2⟩ := words_more (r := r) (g := g) he (fun c hc => (ra c hc).2) r0 (fun c hc => by rw [(ga c hc).2.1]; exact (ga c hc).2.2.2) g0
  obtain ⟨n1, n2⟩ := run_words (r := r) (fun c hc => (ra c hc).2) r0 (by omega)
  have m1 := hx.many
  have m2 := hx.all
  refine ⟨x ++ (r ++ g), μ2, ?_, ⟨hx.asc.app (Asc.app (fun c hc => (ra c hc).1) fun c hc => (ga c hc).1), by simp; omega, by rw [w1, List.length_append]; omega, by rw [w1, List.flatten_append, List.length_append]; omega⟩, w2, s2.mono (by omega), f1.trans f2⟩
  simp [S.f1__law_text, e1, e2, b1, b2, Nat.add_assoc]
theorem drawn_gap {g : Tx} (ga : ∀ c ∈ g, c < 128 ∧ lo1 c = c ∧ up1 c = c ∧ c ∉ WS) (g0 : g ≠ []) (gl : g.length ≤ 4) : Drawn 0 g ∧ Ends g := by
  have w : wordsT g = [] := by
    unfold wordsT
    have := wordsL_gap0 (g := g.map lo1) (y := []) (fun c hc => by
      obtain ⟨d, hd, rfl⟩ := List.mem_map.mp hc
      rw [(ga d hd).2.1]; exact (ga d hd).2.2.2) (by simpa using g0)
    rwa [List.append_nil] at this
  refine ⟨⟨fun c hc => (ga c hc).1, gl, by rw [w]; exact Nat.zero_le _, by rw [w]; exact Nat.zero_le _⟩, ?_⟩
  obtain ⟨f, c, rfl⟩ : ∃ f c, g = f ++ [c] := ⟨g.dropLast, g.getLast g0, (List.dropLast_concat_getLast g0).symm⟩
  have hc := ga c (List.mem_append_right _ (List.mem_singleton.mpr rfl))
  exact .inr ⟨f, c, rfl, by rw [hc.2.1]; exact hc.2.2.2⟩
theorem drawn_nil : Drawn 0 [] ∧ Ends [] := ⟨⟨fun c hc => by simp at hc, by decide, by decide, by decide⟩, .inl rfl⟩
theorem text_spec3 {μ : Mem} {j : Nat} {B : Int} (h : Src μ j B) (hB : B + 1000 ≤ 2 ^ 40) :
    ∃ x μ', S.m__law_text [.obj j, .int 7] μ = .ok (.fr (.str x)) μ' ∧ Drawn 7 x ∧ Src μ' j (B + 500) ∧ Fr j μ μ' := by
  obtain ⟨g, μ1, e1, g0, gl, ga, s1, f1⟩ := gap_spec h (by omega)
  obtain ⟨t, μ2, ht, e2, s2, f2⟩ := pick_lst (xs := [D.str (lit ""), .str (lit ""), .str g]) s1 (by omega) (by simp) (by simp)
  obtain ⟨x, rfl, xd, xe⟩ : ∃ x : Tx, t = .str x ∧ Drawn 0 x ∧ Ends x := by
    simp only [List.mem_cons, List.not_mem_nil, or_false] at ht
    rcases ht with h | h | h
    · exact ⟨_, h, by rw [lit_nil]; exact drawn_nil⟩
    · exact ⟨_, h, by rw [lit_nil]; exact drawn_nil⟩
    · exact ⟨_, h, drawn_gap ga g0 gl⟩
  obtain ⟨r, μ3, e3, r0, r1, s3, f3⟩ := next_spec (n := 8) s2 (by omega) (by decide) (by decide)
  have hK : (rangeD 0 r.toNat).length = r.toNat := by simp [rangeD]
  obtain ⟨δ4, μ4, e4, y, s', hδ, yd, ye, s4, f4⟩ := forNx (g := turnD (tgV 3) S.f1__law_text)
    (fun i δ μ => ∃ y s, δ = [some (.fr (.obj j)), some (.fr (.int 7)), some (.fr (.str y)), s] ∧ Drawn i y ∧ Ends y ∧ Src μ j (B + 3 + i * 60) ∧ Fr j μ3 μ) (ds := rangeD 0 r.toNat) (δ := [some (.fr (.obj j)), some (.fr (.int 7)), some (.fr (.str x)), none]) (μ := μ3)
    ⟨x, none, rfl, xd, xe, s3.mono (by omega), .refl⟩ (fun i d δ μ hd ⟨y, s, hδ, yd, ye, hs, hf⟩ => by
      subst hδ
      have hi := (List.getElem?_eq_some_iff.mp hd).1
      rw [hK] at hi
      obtain ⟨z, μ', e, zd, ze, s', f'⟩ := drawn_loop hs (by omega) yd (by omega) ye d (t := .int 7) (s := s)
      exact ⟨_, μ', e, z, _, rfl, zd, ze, s'.mono (by omega), hf.trans f'⟩)
  subst hδ
  rw [hK] at yd s4
  obtain ⟨q, μ5, e5, q0, q1, s5, f5⟩ := next_spec (n := 3) s4 (by omega) (by decide) (by decide)
  have yl := yd.len
  have y7 : Drawn 7 y := ⟨yd.asc, by omega, by have := yd.many; omega, by have := yd.all; omega⟩
  have ys : y.length ≤ 16777216 := by omega
  have hr : -4611686018427387904 ≤ r ∧ r < 4611686018427387904 := by omega
  have fr := ((((f1.trans f2).trans f3).trans f4).trans f5)
  have hF : mFor (mRange1 (.e (mCall mNext [(mV 0), (m2 gAdd (.v 1) (.e (mD (.int 1))))] []))) (tgV 3) S.f1__law_text [some (.fr (.obj j)), some (.fr (.int 7)), some (.fr (.str x)), none] μ2 = .nx [some (.fr (.obj j)), some (.fr (.int 7)), some (.fr (.str y)), s'] μ4 :=
    for_of (ds := rangeD 0 r.toNat) (δ1 := [some (.fr (.obj j)), some (.fr (.int 7)), some (.fr (.str x)), none]) (μ1 := μ3) (by
      have e3' : mNext [D.obj j, .int (7 + 1)] μ2 = _ := e3
      simp [mRange1, evs, Opn.ev, m2, OR.at, OR.ats, look, gAdd, gInt, lift, e3, hr, mCall, evA, mV, mD, Out.bind, Slot.d]) e4
  have fin : ∀ z : Tx, (mRet (mIf (mTb (m2 (gEq false) (.e (mCall mNext [(mV 0), (mD (.int 3))] [])) (.e (mD (.int 0))))) (mV 2) (mSl gSl (.v 2) mNoP (mP (mNeg (mD (.int 1))))))) [some (.fr (.obj j)), some (.fr (.int 7)), some (.fr (.str y)), s'] μ4 = .rt (.fr (.str z)) μ5 →
      S.m__law_text [.obj j, .int 7] μ = .ok (.fr (.str z)) μ5 := by
    intro z hz
    refine fn_rt ?_
    unfold S.b__law_text
    have h1 : mSet 2 (mCall mPick [(mV 0), (mLst [(mD (.str (lit ""))), (mD (.str (lit ""))), (mCall S.m__law_gap [(mV 0)] [])])] []) (startD 4 [.obj j, .int 7]) μ = .nx [some (.fr (.obj j)), some (.fr (.int 7)), some (.fr (.str x)), none] μ2 := by
      simp [mSet, mLst, evA, mD, mCall, mV, startD, Out.bind, Out.thn, Slot.d, Own.d, e1, e2]
    rw [seq_nx h1, seq_nx hF]
    exact hz
  by_cases hq : q = 0
  · refine ⟨y, μ5, fin y ?_, y7, s5.mono (by omega), fr⟩
    simp [mRet, mIf, mTb, m2, Opn.ev, mCall, evA, mV, mD, Out.bind, Out.thn, Slot.d, e5, OR.at, look, gEq, eqS, lift, hq]
  · obtain ⟨z, hz, zd⟩ : ∃ z, cutD y none (some (-1)) = z ∧ Drawn 7 z := by
      rcases ye with rfl | ⟨f, c, rfl, hc⟩
      · exact ⟨[], by simp [cutD], ⟨fun c hc => by simp at hc, by decide, by decide, by decide⟩⟩
      · refine ⟨f, cut_last f c, ⟨fun d hd => y7.asc d (List.mem_append_left _ hd), ?_, ?_, ?_⟩⟩
        · have := y7.len; rw [List.length_append] at this; omega
        · have := y7.many; rwa [words_cut hc] at this
        · have := y7.all; rwa [words_cut hc] at this
    refine ⟨z, μ5, fin _ ?_, zd, s5.mono (by omega), fr⟩
    simp [mRet, mIf, mTb, m2, Opn.ev, mCall, evA, mV, mD, Out.bind, Out.thn, Slot.d, e5, OR.at, look, gEq, eqS, lift, hq, mSl, mNoP, mP, mNeg, gSl, ys, hz]
end FL

/-! Part Cw: what the generator's texts about classes lean on: tables of attributes, tests, calls by the text's facts. -/
namespace FL
open PySem PySem.Spec PyProof.Rows L2 LamX
/-- an expression that is never reached -/
def mBadE : ME := fun _ _ => .bad
theorem je_never {X : Cx} {W : WX} {e : Expr} : JE X W e mBadE := ⟨fun _ _ _ _ _ _ ⟨_, _, _, _, _, _, q⟩ => q.elim⟩

abbrev pM (c m : String) : FnP := (Str.ofString c, some (Str.ofString m))
/-- a class function's promise, its scope written out -/
theorem fnG_cs {P : Program} {w : World} {K : PySem.W.Frag} {mg : Str → Option Value} {base : Heap} {k n : Nat} {f cda cc Dc : Addr} {x qual : Str} {st : Stmt} {fd : FuncData} {N ps : List Str} {m : MS} {dV : Value} {sc : Scope} (F : FdC K x qual st f fd dV cda cc Dc) (S : ClsScope N ps sc) (hsc : defScope st = sc) (hn : ps.length = n)
    (hbody : ∀ (X : Cx) (W : WX), X.prog = P → X.w = w → X.K = K → X.mg = mg → X.base = base → Cd X W k N sc → (∀ p0, SupP X.prog X.K X.mg f cda cc Dc p0 sc N → SupT X f cda cc Dc p0) → JWb X W (defBody st) (defBody st) m) : FnG P w K mg base (L2.CX P w) (k + 1) f fd ps (spM K mg (mFn N.length m) n) := by
  subst hsc
  exact fnG_c F S hn fun X W h1 h2 h3 h4 h5 C Z => hbody X W h1 h2 h3 h4 h5 C fun p0 h => h.t C Z

/-! ### where a def's parts are -/
def kvAd (K : PySem.W.Frag) (p : FnP) : Value := match K.lookup (fAdF K p) with
  | some ⟨_, _, .func fd, _⟩ => fd.kwdefaults
  | _ => .none
def ccAd (K : PySem.W.Frag) (p : FnP) : Addr := match K.lookup (fAdF K p) with
  | some ⟨_, _, .func fd, _⟩ => (match fd.closure with
    | [(_, c)] => c
    | _ => 0)
  | _ => 0
/-- a def of a class that says super(), as the top has left it -/
structure FdK (K : PySem.W.Frag) (x qual : Str) (st : Stmt) (f : Addr) (kV : Value) (cda cc : Addr) (fd : FuncData) : Prop where
  ex : ∃ (oc : Value) (od : Option Addr) (doc pm : Value) (an : Option Addr) (ct : Value) (osl : Array (Option Value)),
    fd = PySem.W.ksFn x qual (defArgs st) (defBody st) (defScope st) .none kV doc pm an (.ref cda) ct cc ∧ K.lookup f = some { cls := oc, dict := od, data := .func fd, slots := osl }
  cd : PySem.W.codeIn K (.ref cda) qual = true
section
variable {fs : List (PySem.W.Frag → Bool)} {ds : List Dsc} {ts : Mks} {K : PySem.W.Frag}
theorem HkSays.fk (c : HkSays fs ds ts K) (i : Nat) {d : Dsc} (h : ds[i]? = some d) (hc : d.clo = ([("__class__" : Str)] : List Str)) : ∃ fd, FdK K d.x d.qual d.st (fAdF K d.p) (kvAd K d.p) (codeAd K d.p) (ccAd K d.p) fd := by
  obtain ⟨oc, od, osl, kV, doc, pm, an, cdv, ct, clo, e1, e2, e3⟩ := c.fn i h
  rw [hc] at e1
  match clo, e1 with
  | [(y, cc)], e1 =>
    have e1 : y = ("__class__" : Str) := (List.cons.inj (show [y] = ([("__class__" : Str)] : List Str) from e1)).1
    subst e1
    cases cdv with
    | ref cda =>
      have k1 : kvAd K d.p = kV := by unfold kvAd; rw [e2]
      have k2 : ccAd K d.p = cc := by unfold ccAd; rw [e2]
      have k3 : codeAd K d.p = cda := by unfold codeAd; rw [e2]
      rw [k1, k2, k3]
      exact ⟨_, ⟨oc, od, doc, pm, an, ct, osl, rfl, e2⟩, e3⟩
    | _ => cases e3
/-- a def that makes a lambda -/
theorem HkSays.fl (c : HkSays fs ds ts K) (i : Nat) {d : Dsc} (h : ds[i]? = some d) (hc : d.clo = []) : ∃ fd, FdL K d.x d.qual d.st (fAdF K d.p) fd .none (codeAd K d.p) := by
  obtain ⟨oc, od, osl, kV, doc, pm, an, cdv, ct, clo, e1, e2, e3⟩ := c.fn i h
  rw [hc] at e1
  have e1 : clo = [] := List.map_eq_nil_iff.mp e1
  subst e1
  cases cdv with
  | ref cda =>
    have k3 : codeAd K d.p = cda := by unfold codeAd; rw [e2]
    rw [k3]
    exact ⟨_, oc, od, kV, doc, pm, an, ct, osl, rfl, e2, e3⟩
  | _ => cases e3
end
/-- the cell and the code of a def that says super() -/
def tCell (c m file : Str) (K : PySem.W.Frag) : Bool := (match K.lookup (ccAd K (c, some m)) with
  | some ⟨_, _, .cell (some v), _⟩ => decide (v = .ref (He.ga K c))
  | _ => false) && ((match K.lookup (codeAd K (c, some m)) with
  | some ⟨_, _, .fields vs, _⟩ => (match (vs[2]? : Option Value) with
    | some (Value.str f _) => file == f
    | _ => false)
  | _ => false) && ((PySem.W.clsIn K (He.ga K c)).isSome && decide (PySem.W.nsIn K cStatics "thirdparty.any" = some none)))
structure CellOk (K : PySem.W.Frag) (cda cc D : Addr) (file : Str) : Prop where
  cell : ∃ cl cld csl, K.lookup cc = some { cls := cl, dict := cld, data := .cell (some (.ref D)), slots := csl }
  code : ∃ ccl cdd vs ccs fl tf, K.lookup cda = some { cls := ccl, dict := cdd, data := .fields vs, slots := ccs } ∧ vs[2]? = some (.str fl tf) ∧ (file == fl) = true
  clsD : ∃ cdD, PySem.W.clsIn K D = some cdD
  any : PySem.W.nsIn K cStatics "thirdparty.any" = some none
theorem tCell_ok {K : PySem.W.Frag} {c m file : Str} (h : tCell c m file K = true) : CellOk K (codeAd K (c, some m)) (ccAd K (c, some m)) (He.ga K c) file := by
  obtain ⟨h1, h⟩ := Bool.and_eq_true_iff.mp h
  obtain ⟨h2, h⟩ := Bool.and_eq_true_iff.mp h
  obtain ⟨h3, h4⟩ := Bool.and_eq_true_iff.mp h
  refine ⟨?_, ?_, Option.isSome_iff_exists.mp h3, of_decide_eq_true h4⟩
  · split at h1
    · rename_i cl cld v csl e
      have h1 := of_decide_eq_true h1
      subst h1
      exact ⟨_, _, _, e⟩
    · cases h1
  · split at h2
    · rename_i ccl cdd vs ccs e
      split at h2
      · rename_i f tf e2
        exact ⟨_, _, _, _, _, _, e, e2, h2⟩
      · cases h2
    · cases h2
theorem FdK.fc {K : PySem.W.Frag} {x qual : Str} {st : Stmt} {f : Addr} {kV : Value} {cda cc D : Addr} {fd : FuncData} {file : Str} (F : FdK K x qual st f kV cda cc fd) (C : CellOk K cda cc D file) : FdC K x qual st f fd .none cda cc D :=
  let ⟨oc, od, doc, pm, an, ct, osl, h1, h2⟩ := F.ex
  ⟨⟨oc, od, kV, doc, pm, an, ct, osl, h1, h2⟩, F.cd, C.cell⟩
theorem supP_of {P : Program} {mg : Str → Option Value} {K : PySem.W.Frag} {x qual p0 : Str} {st : Stmt} {f : Addr} {kV : Value} {cda cc D : Addr} {fd : FuncData} {N : List Str} {sc : Scope} (F : FdK K x qual st f kV cda cc fd) (C : CellOk K cda cc D P.main.file) (sup : mg "super" = none) (hsc : defScope st = sc)
    (self : ∃ ar, ((defArgs st).posonlyargs ++ (defArgs st).args).head? = some ar ∧ ar.arg = p0) (top : (P.main.scope.names.lookup ("super" : Str)).isSome = false) (ls : sc.names.lookup ("super" : Str) = some .globalImplicit)
    (lc : sc.names.lookup ("__class__" : Str) = some .free) (l0 : sc.names.lookup p0 = some .local) (n0 : N[0]? = some p0) : SupP P K mg f cda cc D p0 sc N := by
  subst hsc
  obtain ⟨oc, od, doc, pm, an, ct, osl, h1, h2⟩ := F.ex
  obtain ⟨ar, s1, s2⟩ := self
  exact ⟨⟨_, fd, ar, h2, rfl, by rw [h1]; exact s1, s2⟩, C.code, C.cell, C.clsD, C.any, top, sup, ls, lc, l0, n0⟩
/-- a function at the top -/
def tFn (x : Str) (K : PySem.W.Frag) : Bool := (He.Fa.glo x).ok K && ((He.Fa.keep x).ok K && decide (fAdF K (x, none) = He.ga K x))
theorem tFn_ok {K : PySem.W.Frag} {h : Heap} {mg : Str → Option Value} {x : Str} (X : K.In h) (G : h.Ns mainGlobals mg) (t : tFn x K = true) : mg x = some (.ref (fAdF K (x, none))) ∧ PySem.W.keepIn K (.ref (fAdF K (x, none))) = true := by
  obtain ⟨t1, t⟩ := Bool.and_eq_true_iff.mp t
  obtain ⟨t2, t3⟩ := Bool.and_eq_true_iff.mp t
  rw [of_decide_eq_true t3]
  exact ⟨He.glo_ok X G t1, He.keep_ok t2⟩
/-- .. bound behind self -/
theorem FdK.bind1 {K : PySem.W.Frag} {x qual : Str} {st : Stmt} {f : Addr} {kV : Value} {cda cc : Addr} {fd : FuncData} {ps ks : List Str} {n : Nat} {sel : List Sel} {dw : List Value} (F : FdK K x qual st f kV cda cc fd)
    (h : ∀ (doc pm : Value) (an : Option Addr) (cdv ct : Value) (cc : Addr), BindW1 K (PySem.W.ksFn x qual (defArgs st) (defBody st) (defScope st) .none kV doc pm an cdv ct cc) ps n ks sel dw) : BindW1 K fd ps n ks sel dw := by
  obtain ⟨oc, od, doc, pm, an, ct, osl, h1, h2⟩ := F.ex
  rw [h1]
  exact h _ _ _ _ _ _
/-- a keyword-only default, an int -/
def tKwI (p : FnP) (x : Str) (i : Int) (K : PySem.W.Frag) : Bool := match kvAd K p with
  | .ref D => (match PySem.W.nsIn K D x with
    | some (some (.int j _)) => decide (j = i)
    | _ => false)
  | _ => false
theorem tKwI_ok {p : FnP} {x : Str} {i : Int} {K : PySem.W.Frag} (h : tKwI p x i K = true) : ∃ D t, kvAd K p = .ref D ∧ PySem.W.nsIn K D x = some (some (.int i t)) := by
  unfold tKwI at h
  split at h
  · rename_i D e
    split at h
    · rename_i j t e2
      have h := of_decide_eq_true h
      subst h
      exact ⟨D, t, e, e2⟩
    · cases h
  · cases h

/-! ### own exceptions -/
def tExc (c at_ : Str) (K : PySem.W.Frag) : Bool := (match K.lookup (He.ga K c) with
  | some ⟨.type T, _, .cls cd, sl⟩ => (match cd.mro, sl.toList with
    | .ref C' :: bm, [_, _, _, _, some (.builtin n), _] => decide (T = "type") && (C' == He.ga K c && (n == "ValueError.__new__" && (!cd.hasDel && (cd.hasDict && PySem.HandSPX.refsVE bm))))
    | _, _ => false)
  | _ => false) && (decide (PySem.W.findIn K (.ref (He.ga K c)) "__setattr__" = some (some (.builtin "object.__setattr__"))) && (decide (PySem.W.subIn K (.ref (He.ga K c)) (.type "BaseException") = some true) &&
  (decide (PySem.W.typeIn K (.ref (He.ga K c)) = some (.type "type")) && (PySem.W.keepIn K (.ref (He.ga K c)) && (decide (PySem.W.findIn K (.ref (He.ga K c)) "__init__" = some (some (.ref (fAdF K (c, some "__init__"))))) && (decide (PySem.W.typeIn K (.ref (fAdF K (c, some "__init__"))) = some (.type "function")) &&
  (decide (PySem.W.mroIn K (He.ga K c) (.ref (He.ga K c)) = some true) && (decide (PySem.W.ks_superIn K (He.ga K c) (He.ga K c) "__init__" = some (some (.builtin "ValueError.__init__"))) && (decide (PySem.W.subIn K (.ref (He.ga K c)) (.type "ValueError") = some true) &&
  decide (PySem.W.findIn K (.ref (He.ga K c)) at_ = some none))))))))))
theorem xcH {P : Program} {w : World} {K : PySem.W.Frag} {h : Heap} {mg : Str → Option Value} {base : Heap} {c at_ : String} {st : Stmt} {p0 p1 : Str} {q : Nat → Pos} {sc : Scope} {qual : Str} {kV : Value} {fd : FuncData} (S : SupS P st p0 p1 (Str.ofString at_) q sc) (hm : mg (Str.ofString c) = some (.ref (He.ga K (Str.ofString c)))) (hsup : mg "super" = none)
    (T : tExc (Str.ofString c) (Str.ofString at_) K = true) (F : FdK K "__init__" qual st (fAdF K (Str.ofString c, some "__init__")) kV (codeAd K (Str.ofString c, some "__init__")) (ccAd K (Str.ofString c, some "__init__")) fd) (C : CellOk K (codeAd K (Str.ofString c, some "__init__")) (ccAd K (Str.ofString c, some "__init__")) (He.ga K (Str.ofString c)) P.main.file)
    (hb : ∀ (kV doc pm : Value) (an : Option Addr) (cdv ct : Value) (cc : Addr) (us : List Value), us.length = [p0, p1].length → bindArgs (PySem.W.ksFn "__init__" qual (defArgs st) (defBody st) (defScope st) .none kV doc pm an cdv ct cc) ⟨us, []⟩ = pure ([p0, p1].zip us)) : Xc P w K mg base c at_ := by
  obtain ⟨t0, T⟩ := Bool.and_eq_true_iff.mp T
  obtain ⟨t1, T⟩ := Bool.and_eq_true_iff.mp T
  obtain ⟨t2, T⟩ := Bool.and_eq_true_iff.mp T
  obtain ⟨t3, T⟩ := Bool.and_eq_true_iff.mp T
  obtain ⟨t4, T⟩ := Bool.and_eq_true_iff.mp T
  obtain ⟨t5, T⟩ := Bool.and_eq_true_iff.mp T
  obtain ⟨t6, T⟩ := Bool.and_eq_true_iff.mp T
  obtain ⟨t7, T⟩ := Bool.and_eq_true_iff.mp T
  obtain ⟨t8, T⟩ := Bool.and_eq_true_iff.mp T
  obtain ⟨t9, t10⟩ := Bool.and_eq_true_iff.mp T
  obtain ⟨ccl, cdd, vs, ccs, fl, tf, lcd, hvs, hfile⟩ := C.code
  obtain ⟨cl, cld, csl, lcc⟩ := C.cell
  obtain ⟨oc, od, doc, pm, an, ct, osl, rfl, lI⟩ := F.ex
  split at t0
  · rename_i T dd cd sl ho
    split at t0
    · rename_i C' bm k0 k1 k2 k3 n k5 hmr hs
      simp only [Bool.and_eq_true, beq_iff_eq, Bool.not_eq_true', decide_eq_true_eq] at t0
      obtain ⟨hT, hC', hn, hdel, hd, hbm⟩ := t0
      subst hT hn
      obtain ⟨nm, bs, mro, ns, qn, hdct, sn, sub, ab, col, del⟩ := cd
      dsimp only at hmr hdel hd
      subst hmr hdel hd
      have hsl : sl = #[k0, k1, k2, k3, some (.builtin "ValueError.__new__"), k5] := by
        obtain ⟨l⟩ := sl
        simp only at hs
        rw [hs]
      subst hsl
      rw [hC'] at ho
      exact xc_of S hm hsup ho hbm (of_decide_eq_true t1) (of_decide_eq_true t2) (of_decide_eq_true t3) t4 (of_decide_eq_true t5) (of_decide_eq_true t6) lI F.cd lcd hvs hfile lcc C.any (of_decide_eq_true t7) (of_decide_eq_true t8) (of_decide_eq_true t9) (of_decide_eq_true t10) (hb _ _ _ _ _ _ _)
    · cases t0
  · cases t0

/-! ### tables -/
abbrev AttTb : Type := List (String × String × Option String)
def attV : Option String → Att
  | none => .fld
  | some s => .con (.str (lit s))
def attT : AttTb → String → String → Att
  | [], _, _ => .no
  | (c', f', o) :: t, c, f => if c = c' ∧ f = f' then attV o else attT t c f
def tAtt1 (e : String × String × Option String) (K : PySem.W.Frag) : Bool := (He.Fa.glo (Str.ofString e.1)).ok K && match e.2.2 with
  | none => tFld (Str.ofString e.1) (Str.ofString e.2.1) K
  | some s => tCon (Str.ofString e.1) (Str.ofString e.2.1) (Str.ofString s) K
def tAtts (t : AttTb) (K : PySem.W.Frag) : Bool := t.all fun e => tAtt1 e K
theorem attsOk_of {K : PySem.W.Frag} {h : Heap} {mg : Str → Option Value} (X : K.In h) (G : h.Ns mainGlobals mg) : ∀ (t : AttTb), tAtts t K = true → AttsOk K mg (attT t) := by
  intro t
  induction t with
  | nil => intro _ c f C n; exact absurd rfl n
  | cons e t ih =>
    intro ht c f C n hC
    obtain ⟨h1, h2⟩ := Bool.and_eq_true_iff.mp (show (tAtt1 e K && t.all fun e => tAtt1 e K) = true from by simpa [tAtts] using ht)
    obtain ⟨c', f', o⟩ := e
    by_cases hc : c = c' ∧ f = f'
    · obtain ⟨rfl, rfl⟩ := hc
      have e1 : attT ((c, f, o) :: t) c f = attV o := by simp [attT]
      rw [e1]
      obtain ⟨g1, g2⟩ := Bool.and_eq_true_iff.mp h1
      have g1 := He.glo_ok X G g1
      rw [hC] at g1
      cases g1
      cases o with
      | none =>
        obtain ⟨a, b⟩ := tFld_ok g2
        exact ⟨a, b⟩
      | some s =>
        obtain ⟨a, u, b⟩ := tCon_ok g2
        refine ⟨a, _, u, b, fun F ρ => ?_⟩
        rw [ofS_lit]
        exact .str
    · have e1 : attT ((c', f', o) :: t) c f = attT t c f := by simp [attT, hc]
      rw [e1] at n ⊢
      exact ih h2 c f C n hC
/-- properties: class, name, where it is defined -/
abbrev PrpTb : Type := List (String × String × String)
def prpT : PrpTb → String → String → Option String
  | [], _, _ => none
  | (c', f', b) :: t, c, f => if c = c' ∧ f = f' then some b else prpT t c f
def tPrp1 (e : String × String × String) (K : PySem.W.Frag) : Bool := (He.Fa.glo (Str.ofString e.1)).ok K && (tPrp (Str.ofString e.1) (Str.ofString e.2.1) K && decide (fAdF K (Str.ofString e.1, some (Str.ofString e.2.1)) = fAdF K (Str.ofString e.2.2, some (Str.ofString e.2.1))))
def tPrps (t : PrpTb) (K : PySem.W.Frag) : Bool := t.all fun e => tPrp1 e K
def PrpB (K : PySem.W.Frag) (mg : Str → Option Value) (t : PrpTb) : Prop := ∀ c f b, prpT t c f = some b → ∀ C, mg (Str.ofString c) = some (.ref C) → Cls K C ∧ ∃ p, PropOf K C (Str.ofString f) p (fAdF K (Str.ofString b, some (Str.ofString f)))
theorem prpB_of {K : PySem.W.Frag} {h : Heap} {mg : Str → Option Value} (X : K.In h) (G : h.Ns mainGlobals mg) : ∀ (t : PrpTb), tPrps t K = true → PrpB K mg t := by
  intro t
  induction t with
  | nil => intro _ c f b n; cases n
  | cons e t ih =>
    intro ht c f b n C hC
    obtain ⟨h1, h2⟩ := Bool.and_eq_true_iff.mp (show (tPrp1 e K && t.all fun e => tPrp1 e K) = true from by simpa [tPrps] using ht)
    obtain ⟨c', f', b'⟩ := e
    by_cases hc : c = c' ∧ f = f'
    · obtain ⟨rfl, rfl⟩ := hc
      have e1 : prpT ((c, f, b') :: t) c f = some b' := by simp [prpT]
      rw [e1] at n
      cases n
      obtain ⟨g1, g2⟩ := Bool.and_eq_true_iff.mp h1
      obtain ⟨g2, g3⟩ := Bool.and_eq_true_iff.mp g2
      have g1 := He.glo_ok X G g1
      rw [hC] at g1
      cases g1
      obtain ⟨a, p⟩ := tPrp_ok g2
      have g3 := of_decide_eq_true g3
      dsimp only at g3
      rw [g3] at p
      exact ⟨a, _, p⟩
    · have e1 : prpT ((c', f', b') :: t) c f = prpT t c f := by simp [prpT, hc]
      rw [e1] at n
      exact ih h2 c f b n C hC
/-- .. with the getters -/
def prpM (t : PrpTb) (gm : String → String → Option MF) : String → String → Option MF := fun c f => (prpT t c f).bind fun b => gm b f
theorem propR_of {P : Program} {w : World} {K : PySem.W.Frag} {mg : Str → Option Value} {base : Heap} {j : Nat} {t : PrpTb} {gm : String → String → Option MF} (B : PrpB K mg t)
    (hg : ∀ b f m, gm b f = some m → ∃ fd nm, FnG P w K mg base (L2.CX P w) j (fAdF K (Str.ofString b, some (Str.ofString f))) fd [nm] (spM K mg m 1) ∧ Binds K fd [nm] []) : PropR P w K mg base j (prpM t gm) := by
  intro c f m h C hC
  obtain ⟨b, e1, e2⟩ := Option.bind_eq_some_iff.mp h
  obtain ⟨cl, p, hp⟩ := B c f b e1 C hC
  obtain ⟨fd, nm, F, bb⟩ := hg b f m e2
  exact ⟨cl, p, _, fd, nm, hp, F, bb⟩
/-- isinstance -/
abbrev IsaTb : Type := List (String × String × Bool)
def isaT : IsaTb → String → String → Option Bool
  | [], _, _ => none
  | (c', d', b) :: t, c, d => if c = c' ∧ d = d' then some b else isaT t c d
def tIsas (t : IsaTb) (K : PySem.W.Frag) : Bool := t.all fun e => (He.Fa.glo (Str.ofString e.1)).ok K && ((He.Fa.glo (Str.ofString e.2.1)).ok K && tIsa (Str.ofString e.1) (Str.ofString e.2.1) e.2.2 K)
theorem isaC_of {K : PySem.W.Frag} {h : Heap} {mg : Str → Option Value} (X : K.In h) (G : h.Ns mainGlobals mg) : ∀ (t : IsaTb), tIsas t K = true → IsaC K mg (isaT t) := by
  intro t
  induction t with
  | nil => intro _ c d b C D n; cases n
  | cons e t ih =>
    intro ht c d b C D n hC hD
    unfold tIsas at ht
    rw [List.all_cons] at ht
    obtain ⟨h1, h2⟩ := Bool.and_eq_true_iff.mp ht
    obtain ⟨c', d', b'⟩ := e
    by_cases hc : c = c' ∧ d = d'
    · obtain ⟨rfl, rfl⟩ := hc
      have e1 : isaT ((c, d, b') :: t) c d = some b' := by simp [isaT]
      rw [e1] at n
      cases n
      obtain ⟨g1, g2⟩ := Bool.and_eq_true_iff.mp h1
      obtain ⟨g2, g3⟩ := Bool.and_eq_true_iff.mp g2
      have g1 := He.glo_ok X G g1
      have g2 := He.glo_ok X G g2
      rw [hC] at g1
      rw [hD] at g2
      cases g1
      cases g2
      exact tIsa_ok g3
    · have e1 : isaT ((c', d', b') :: t) c d = isaT t c d := by simp [isaT, hc]
      rw [e1] at n
      exact ih h2 c d b C D n hC hD
def tIsbs (t : IsaTb) (K : PySem.W.Frag) : Bool := t.all fun e => (He.Fa.glo (Str.ofString e.2.1)).ok K && tIsb e.1 (Str.ofString e.2.1) e.2.2 K
theorem isbC_of {K : PySem.W.Frag} {h : Heap} {mg : Str → Option Value} (X : K.In h) (G : h.Ns mainGlobals mg) : ∀ (t : IsaTb), tIsbs t K = true → IsbC K mg (isaT t) := by
  intro t
  induction t with
  | nil => intro _ c d b D n; cases n
  | cons e t ih =>
    intro ht c d b D n hD
    unfold tIsbs at ht
    rw [List.all_cons] at ht
    obtain ⟨h1, h2⟩ := Bool.and_eq_true_iff.mp ht
    obtain ⟨c', d', b'⟩ := e
    by_cases hc : c = c' ∧ d = d'
    · obtain ⟨rfl, rfl⟩ := hc
      have e1 : isaT ((c, d, b') :: t) c d = some b' := by simp [isaT]
      rw [e1] at n
      cases n
      obtain ⟨g2, g3⟩ := Bool.and_eq_true_iff.mp h1
      have g2 := He.glo_ok X G g2
      rw [hD] at g2
      cases g2
      exact tIsb_ok g3
    · have e1 : isaT ((c', d', b') :: t) c d = isaT t c d := by simp [isaT, hc]
      rw [e1] at n
      exact ih h2 c d b D n hD
/-- which exceptions a handler takes -/
def subT : List (String × Bool) → String → Option Bool
  | [], _ => none
  | (c', b) :: t, c => if c = c' then some b else subT t c
def tSubs (ec : String) (t : List (String × Bool)) (K : PySem.W.Frag) : Bool := t.all fun e => (He.Fa.glo (Str.ofString e.1)).ok K && (He.Fa.exm (Str.ofString e.1) (Str.ofString ec) e.2).ok K
theorem subs_of {K : PySem.W.Frag} {h : Heap} {mg : Str → Option Value} (X : K.In h) (G : h.Ns mainGlobals mg) {ec : String} : ∀ (t : List (String × Bool)), tSubs ec t K = true → Subs K mg (He.ga K (Str.ofString ec)) (subT t) := by
  intro t
  induction t with
  | nil => intro _ c C b n; cases n
  | cons e t ih =>
    intro ht c C b n hC
    unfold tSubs at ht
    rw [List.all_cons] at ht
    obtain ⟨h1, h2⟩ := Bool.and_eq_true_iff.mp ht
    obtain ⟨c', b'⟩ := e
    by_cases hc : c = c'
    · subst hc
      have e1 : subT ((c, b') :: t) c = some b' := by simp [subT]
      rw [e1] at n
      cases n
      obtain ⟨g2, g3⟩ := Bool.and_eq_true_iff.mp h1
      have g2 := He.glo_ok X G g2
      rw [hC] at g2
      cases g2
      exact He.exm_ok g3
    · have e1 : subT ((c', b') :: t) c = subT t c := by simp [subT, hc]
      rw [e1] at n
      exact ih h2 c C b n hC
/-- what super() finds: the instances' class, the class that says it, the class where the function is -/
def SupB (K : PySem.W.Frag) (mg : Str → Option Value) (c f : String) (D g : Addr) : Prop := ∀ C, mg (Str.ofString c) = some (.ref C) → ∃ og cdC, PySem.W.clsIn K C = some cdC ∧ PySem.W.alongIn K (Str.ofString f) ((cdC.mro.dropWhile (· != .ref D)).drop 1) = some (some (.ref g)) ∧
    K.lookup g = some og ∧ og.cls = .type "function" ∧ PySem.W.fnIn K g = true ∧ PySem.W.mroIn K C (.ref D) = some true
theorem supB_of {K : PySem.W.Frag} {mg : Str → Option Value} {c f : String} {D B : Str} (hm : mg (Str.ofString c) = some (.ref (He.ga K (Str.ofString c)))) (t : tSup (Str.ofString c) D B (Str.ofString f) K = true) : SupB K mg c f (He.ga K D) (fAdF K (B, some (Str.ofString f))) := by
  intro C hC
  rw [hm] at hC
  cases hC
  obtain ⟨cdC, og, h1, h2, h3, h4, h5, h6⟩ := tSup_ok t
  exact ⟨og, cdC, h1, h2, h3, h4, h5, h6⟩
theorem supR_of {P : Program} {w : World} {K : PySem.W.Frag} {mg : Str → Option Value} {base : Heap} {j N : Nat} {c f : String} {D g : Addr} {fd : FuncData} {ps : List Str} {mi : MF} (B : SupB K mg c f D g) (F : FnG P w K mg base (L2.CX P w) j g fd ps (spM K mg mi N)) (hb : Binds K fd ps []) : SupR P w K mg base j c f D mi N := by
  intro C hC
  obtain ⟨og, cdC, h1, h2, h3, h4, h5, h6⟩ := B C hC
  exact ⟨g, og, fd, ps, [], [], cdC, h1, h2, h3, h4, h5, h6, F, hb⟩

/-! ### calls by the text's facts -/
section
variable {X : Cx} {W : WX} {k j n N : Nat} {e : Expr} {es : List Expr} {kws : List Keyword} {pos p : Pos} {ks nm : List Str} {sc : Scope} {dds : List D} {m mi : MF} {x : Str} {c : String} {sel : List Sel} {ms mks : List ME}
theorem clF (Cc : Cs X W k nm sc) (V : ClW X.prog X.w X.K X.mg X.base j c n ks sel mi N dds) (hjk : j + 1 ≤ k) (hg : glC sc (Str.ofString c) = true) (ha : JA X W (e :: es) ms) (hkw : JK X W kws mks) (h1 : ms.length = n) (h2 : mks.length = ks.length)
    (hall : (backToKw pos (keywordEach kws X.env)).all (·.1.isSome) = true := by rfl) (hks : (backToKw pos (keywordEach kws X.env)).filterMap (·.1) = ks := by rfl)
    (he : starEach (e :: es) X.env = (false, eval e X.env) :: starEach es X.env := by rfl) (hpl : ((backTo pos (starEach (e :: es) X.env)).any (·.1) || (backToKw pos (keywordEach kws X.env)).any (·.1.isNone)) = false := by rfl) :
    JE X W (.Call (.Name (Str.ofString c) p) (e :: es) kws pos) (mCallK (mkF c mi) sel ms mks dds) :=
  let ⟨_, hm, F⟩ := V.callF
  je_callW Cc F hm hjk hg ha hkw h1 h2 hall hks he hpl
theorem clF0 (Cc : Cs X W k nm sc) (V : ClW X.prog X.w X.K X.mg X.base j c 0 ks sel mi N dds) (hjk : j + 1 ≤ k) (hg : glC sc (Str.ofString c) = true) (hkw : JK X W kws mks) (h2 : mks.length = ks.length)
    (hall : (backToKw pos (keywordEach kws X.env)).all (·.1.isSome) = true := by rfl) (hks : (backToKw pos (keywordEach kws X.env)).filterMap (·.1) = ks := by rfl)
    (hpl : ((backTo pos (starEach [] X.env)).any (·.1) || (backToKw pos (keywordEach kws X.env)).any (·.1.isNone)) = false := by rfl) :
    JE X W (.Call (.Name (Str.ofString c) p) [] kws pos) (mCallK (mkF c mi) sel [] mks dds) :=
  let ⟨_, hm, F⟩ := V.callF
  je_callW0 Cc F hm hjk hg hkw h2 hall hks hpl
theorem fuC (Cc : Cs X W k nm sc) (V : FuW X.prog X.w X.K X.mg X.base j x n ks sel m N dds) (hjk : j ≤ k) (hg : glC sc x = true) (ha : JA X W (e :: es) ms) (hkw : JK X W kws mks) (h1 : ms.length = n) (h2 : mks.length = ks.length)
    (hall : (backToKw pos (keywordEach kws X.env)).all (·.1.isSome) = true := by rfl) (hks : (backToKw pos (keywordEach kws X.env)).filterMap (·.1) = ks := by rfl)
    (he : starEach (e :: es) X.env = (false, eval e X.env) :: starEach es X.env := by rfl) (hpl : ((backTo pos (starEach (e :: es) X.env)).any (·.1) || (backToKw pos (keywordEach kws X.env)).any (·.1.isNone)) = false := by rfl) :
    JE X W (.Call (.Name x p) (e :: es) kws pos) (mCallK m sel ms mks dds) :=
  let ⟨_, hm, F⟩ := V.call
  je_callW Cc F hm hjk hg ha hkw h1 h2 hall hks he hpl
/-- the number of values picked does not depend on them -/
theorem pick_len {α : Type} (vs ds zs : List α) : ∀ sel : List Sel, (sel.all fun a => match a with
    | .pos i => decide (i < vs.length)
    | .key i => decide (i < zs.length)
    | .dfl i => decide (i < ds.length)) = true → (pickS sel vs ds zs).length = sel.length
  | [], _ => rfl
  | a :: sel, h => by
    rw [List.all_cons] at h
    obtain ⟨h1, h2⟩ := Bool.and_eq_true_iff.mp h
    have ih := pick_len vs ds zs sel h2
    unfold pickS at ih ⊢
    have : ∃ v, a.get vs ds zs = some v := by
      cases a with
      | pos i => exact ⟨_, List.getElem?_eq_getElem (of_decide_eq_true h1)⟩
      | key i => exact ⟨_, List.getElem?_eq_getElem (of_decide_eq_true h1)⟩
      | dfl i => exact ⟨_, List.getElem?_eq_getElem (of_decide_eq_true h1)⟩
    obtain ⟨v, e⟩ := this
    rw [List.filterMap_cons_some e, List.length_cons, List.length_cons, ih]
def selOk (n nd nk : Nat) (sel : List Sel) : Bool := sel.all fun a => match a with
    | .pos i => decide (i < n)
    | .key i => decide (i < nk)
    | .dfl i => decide (i < nd)
theorem sel_len {n nd nk : Nat} {sel : List Sel} (h : selOk n nd nk sel = true) {α : Type} (vs ds zs : List α) (h1 : vs.length = n) (h2 : ds.length = nd) (h3 : zs.length = nk) : (pickS sel vs ds zs).length = sel.length := by
  subst h1 h2 h3
  exact pick_len vs ds zs sel h
theorem clW_of {P : Program} {w : World} {K : PySem.W.Frag} {mg : Str → Option Value} {base : Heap} {C f : Addr} {fd : FuncData} {ps : List Str} {ds : List Value} {dvs : List V} (hm : mg (Str.ofString c) = some (.ref C)) (M : Mk K C f) (F : FnG P w K mg base (L2.CX P w) j f fd ps (spM K mg mi (N + 1))) (hb : BindW1 K fd ps n ks sel ds)
    (hd : Vals dvs ds) (hr : ∀ F ρ, RepL K mg F ρ dvs dds) (hs : selOk n dds.length ks.length sel = true) (hN : sel.length = N) : ClW P w K mg base j c n ks sel mi N dds :=
  ⟨fun vs ds zs h1 h2 h3 => by rw [← hN]; exact sel_len hs vs ds zs h1 h2 h3, C, f, fd, ps, ds, dvs, hm, M, F, hb, hd, hr⟩
end
end FL

/-! Part Cx: the greatest of a list of ints. -/
namespace FL
open PySem PySem.Spec PyProof.Rows L2
def maxI : List Int → Int
  | [] => 0
  | n :: ns => ns.foldl max n
theorem foldl_max : ∀ (ns : List Int) (n : Int), (ns.foldl max n = n ∨ ns.foldl max n ∈ ns) ∧ n ≤ ns.foldl max n ∧ ∀ y ∈ ns, y ≤ ns.foldl max n
  | [], n => ⟨.inl rfl, Int.le_refl _, fun y h => by simp at h⟩
  | a :: ns, n => by
    obtain ⟨h1, h2, h3⟩ := foldl_max ns (max n a)
    rw [List.foldl_cons]
    refine ⟨?_, by omega, fun y hy => ?_⟩
    · rcases h1 with h1 | h1
      · rw [h1]
        rcases Int.le_total n a with h | h
        · right; rw [Int.max_eq_right h]; exact List.mem_cons_self ..
        · left; exact Int.max_eq_left h
      · exact .inr (List.mem_cons_of_mem _ h1)
    · rcases List.mem_cons.mp hy with rfl | hy
      · omega
      · exact h3 y hy
theorem maxI_is {ns : List Int} {m : Int} (hm : m ∈ ns) (h : ∀ y ∈ ns, y ≤ m) : m = maxI ns := by
  cases ns with
  | nil => simp at hm
  | cons n ns =>
    obtain ⟨h1, h2, h3⟩ := foldl_max ns n
    have a : maxI (n :: ns) ≤ m := by
      rcases h1 with h1 | h1
      · show ns.foldl max n ≤ m
        rw [h1]; exact h n (List.mem_cons_self ..)
      · exact h _ (List.mem_cons_of_mem _ h1)
    have b : m ≤ maxI (n :: ns) := by
      rcases List.mem_cons.mp hm with rfl | hm
      · exact h2
      · exact h3 m hm
    omega
def gMaxL : List D → Option Slot := fun ds => match ds with
  | [d] => match d with
    | .lst xs => (match intsD xs with
      | some (n :: ns) => some (.fr (.int (maxI (n :: ns))))
      | _ => none)
    | _ => none
  | _ => none
section
variable {X : Cx}
theorem j_maxL : RLJ X (rMax X.K) gMaxL :=
  rl1_flat (g := fun d => match d with
    | .lst xs => (match intsD xs with
      | some (n :: ns) => some (.fr (.int (maxI (n :: ns))))
      | _ => none)
    | _ => none) fun Z F ρ μ δ σ H x dx s Q S b e => by
    cases dx <;> first | (cases e; done) | skip
    rename_i xs
    dsimp only at e
    split at e
    · rename_i n ns e1
      cases e
      obtain ⟨p, vs, rfl, h, r⟩ := b.lst S
      rw [intsD_map e1] at r
      have ev := r.ints
      subst ev
      exact ⟨_, fun q => ⟨p, n :: ns, rfl, .of h, by simp, fun m hm hy => by rw [maxI_is hm hy]; exact q⟩, _, rfl, .int⟩
    · cases e
end
end FL

namespace L10
open PySem PySem.Spec PyProof.Rows L2 FL LamX

abbrev tp (i : Nat) : Stmt := PySem.Challenge.pw_findlang_k10_phrases.main.body.getD i (.Pass ⟨0, 0, 0, 0⟩)
def subl__law_refused : List (String × Bool) := [("BadQuery", true)]
def sub__law_refused : String → Option Bool := subT subl__law_refused
def attl : AttTb := [("Phrase", "KIND", some "phrase"), ("Phrase", "distance", none), ("Phrase", "field", none), ("Phrase", "own_fields", none), ("Phrase", "own_key", none), ("Phrase", "own_levels", none), ("Phrase", "own_parts", none), ("Phrase", "own_size", none), ("Phrase", "own_text", none), ("Phrase", "words", none)]
def at_ : String → String → Att := attT attl
def prps : PrpTb := [("Phrase", "parts", "Query"), ("Phrase", "size", "Query"), ("Phrase", "levels", "Query")]
def sc_iPhrase : Scope := { kind := .function, names := [("self", .local), ("field", .local), ("words", .local), ("distance", .local), ("word", .local), ("__class__", .free), ("need_field", .globalImplicit), ("isinstance", .globalImplicit), ("tuple", .globalImplicit), ("LEAST_WORDS", .globalImplicit), ("len", .globalImplicit), ("MOST_WORDS", .globalImplicit), ("BadQuery", .globalImplicit), ("need_word", .globalImplicit), ("is_integer", .globalImplicit), ("MAX_DISTANCE", .globalImplicit), ("super", .globalImplicit), ("phrase_text", .globalImplicit)], isGenerator := false, isCoroutine := false, more := [] }
theorem scf_iPhrase : ClsScope ["self", "field", "words", "distance", "word"] ["self", "field", "words", "distance"] sc_iPhrase := ⟨rfl, rfl, rfl, by decide +kernel, rfl, by decide +kernel, by decide +kernel, by decide +kernel, by decide +kernel, by decide +kernel⟩
structure Txt (tb : Nat → Addr) (P : Program) (w : World) (K : PySem.W.Frag) (mg : Str → Option Value) (base : Heap) : Prop where
  n_all : mg "all" = none
  n_bool : mg "bool" = none
  n_int : mg "int" = none
  n_isinstance : mg "isinstance" = none
  n_len : mg "len" = none
  n_list : mg "list" = none
  n_max : mg "max" = none
  n_min : mg "min" = none
  n_range : mg "range" = none
  n_repr : mg "repr" = none
  n_set : mg "set" = none
  n_sorted : mg "sorted" = none
  n_str : mg "str" = none
  n_sum : mg "sum" = none
  n_super : mg "super" = none
  n_tuple : mg "tuple" = none
  c_LEAST_WORDS : ∃ t, mg "LEAST_WORDS" = some (.int 2 t)
  c_LETTERS : ∃ t, mg "LETTERS" = some (.str (Str.ofString "abcdefghijklmnopqrstuvwxyz") t)
  c_MAX_DISTANCE : ∃ t, mg "MAX_DISTANCE" = some (.int 20 t)
  c_MAX_LEVELS : ∃ t, mg "MAX_LEVELS" = some (.int 8 t)
  c_MAX_NAME : ∃ t, mg "MAX_NAME" = some (.int 12 t)
  c_MAX_SIZE : ∃ t, mg "MAX_SIZE" = some (.int 60 t)
  c_MAX_WORD : ∃ t, mg "MAX_WORD" = some (.int 20 t)
  c_MOST_WORDS : ∃ t, mg "MOST_WORDS" = some (.int 6 t)
  c_WORD_SIGNS : ∃ t, mg "WORD_SIGNS" = some (.str (Str.ofString "abcdefghijklmnopqrstuvwxyz0123456789") t)
  t_FIELD_KINDS : TupS K mg "FIELD_KINDS" [lit "term", lit "phrase", lit "prefix", lit "range"]
  x_BadQuery : Xc P w K mg base "BadQuery" "reason"
  s__law_refused : ∃ CS, mg "BadQuery" = some (.ref CS) ∧ Subs K mg CS sub__law_refused
  c_Phrase : mg "Phrase" = some (.ref (He.ga K "Phrase"))
  atts : AttsOk K mg at_
  prp : PrpB K mg prps
  mk_Phrase : Mk K (He.ga K "Phrase") (fAdF K (pM "Phrase" "__init__"))
  f_iQuery : ∃ fd, Fd K "__init__" "Query.__init__" (clsDef 1 (tp 46)) (fAdF K (pM "Query" "__init__")) fd .none
  f_iPhrase : ∃ fd, FdK K "__init__" "Phrase.__init__" (clsDef 1 (tp 54)) (fAdF K (pM "Phrase" "__init__")) (kvAd K (pM "Phrase" "__init__")) (codeAd K (pM "Phrase" "__init__")) (ccAd K (pM "Phrase" "__init__")) fd
  ce_iPhrase : CellOk K (codeAd K (pM "Phrase" "__init__")) (ccAd K (pM "Phrase" "__init__")) (He.ga K "Phrase") P.main.file
  s_iPhrase : SupP P K mg (fAdF K (pM "Phrase" "__init__")) (codeAd K (pM "Phrase" "__init__")) (ccAd K (pM "Phrase" "__init__")) (He.ga K "Phrase") "self" sc_iPhrase ["self", "field", "words", "distance", "word"]
  f_Query_parts : ∃ fd, Fd K "parts" "Query.parts" (clsDef 2 (tp 46)) (fAdF K (pM "Query" "parts")) fd .none
  f_Query_size : ∃ fd, Fd K "size" "Query.size" (clsDef 3 (tp 46)) (fAdF K (pM "Query" "size")) fd .none
  f_Query_levels : ∃ fd, Fd K "levels" "Query.levels" (clsDef 4 (tp 46)) (fAdF K (pM "Query" "levels")) fd .none
  sb_Phrase : SupB K mg "Phrase" "__init__" (He.ga K "Phrase") (fAdF K (pM "Query" "__init__"))
  kw_Phrase_distance : ∃ Dk t, kvAd K (pM "Phrase" "__init__") = .ref Dk ∧ PySem.W.nsIn K Dk "distance" = some (some (.int 0 t))
  d__law_source : ∃ f fd, Fd K "_law_source" "_law_source" (tp 65) f fd .none ∧ mg "_law_source" = some (.ref f) ∧ PySem.W.keepIn K (.ref f) = true
  d__law_next : ∃ f fd, Fd K "_law_next" "_law_next" (tp 66) f fd .none ∧ mg "_law_next" = some (.ref f) ∧ PySem.W.keepIn K (.ref f) = true
  d__law_pick : ∃ f fd, Fd K "_law_pick" "_law_pick" (tp 67) f fd .none ∧ mg "_law_pick" = some (.ref f) ∧ PySem.W.keepIn K (.ref f) = true
  d__law_is_word : ∃ f fd, Fd K "_law_is_word" "_law_is_word" (tp 69) f fd .none ∧ mg "_law_is_word" = some (.ref f) ∧ PySem.W.keepIn K (.ref f) = true
  d__law_refused : ∃ f fd, Fd K "_law_refused" "_law_refused" (tp 68) f fd .none ∧ mg "_law_refused" = some (.ref f) ∧ PySem.W.keepIn K (.ref f) = true
  d_is_made_of : ∃ f fd, Fd K "is_made_of" "is_made_of" (tp 15) f fd .none ∧ mg "is_made_of" = some (.ref f) ∧ PySem.W.keepIn K (.ref f) = true
  d_is_field_name : ∃ f fd, Fd K "is_field_name" "is_field_name" (tp 16) f fd .none ∧ mg "is_field_name" = some (.ref f) ∧ PySem.W.keepIn K (.ref f) = true
  d_need_field : ∃ f fd, Fd K "need_field" "need_field" (tp 44) f fd .none ∧ mg "need_field" = some (.ref f) ∧ PySem.W.keepIn K (.ref f) = true
  d_is_word : ∃ f fd, Fd K "is_word" "is_word" (tp 17) f fd .none ∧ mg "is_word" = some (.ref f) ∧ PySem.W.keepIn K (.ref f) = true
  d_need_word : ∃ f fd, Fd K "need_word" "need_word" (tp 45) f fd .none ∧ mg "need_word" = some (.ref f) ∧ PySem.W.keepIn K (.ref f) = true
  d_is_integer : ∃ f fd, Fd K "is_integer" "is_integer" (tp 14) f fd .none ∧ mg "is_integer" = some (.ref f) ∧ PySem.W.keepIn K (.ref f) = true
  d_fields_of : ∃ f fd, Fd K "fields_of" "fields_of" (tp 49) f fd .none ∧ mg "fields_of" = some (.ref f) ∧ PySem.W.keepIn K (.ref f) = true
  d_phrase_text : ∃ f fd, Fd K "phrase_text" "phrase_text" (tp 34) f fd .none ∧ mg "phrase_text" = some (.ref f) ∧ PySem.W.keepIn K (.ref f) = true
  d__law_phrase_right : ∃ c f fd, FdL K "_law_phrase_right" "_law_phrase_right" (tp 70) f fd .none c ∧ TabB base mg c (tb 0) ∧ mg "_law_phrase_right" = some (.ref f) ∧ PySem.W.keepIn K (.ref f) = true
/-! _law_source -/
def sc__law_source : Scope := { kind := .function, names := [("_law_script", .local), ("_law_k", .local), ("_law_cell", .local), ("len", .globalImplicit)], isGenerator := false, isCoroutine := false, more := [] }
theorem scf__law_source : FnScope ["_law_script", "_law_k", "_law_cell"] ["_law_script", "_law_k"] sc__law_source := ⟨rfl, rfl, rfl, by decide +kernel, rfl, by decide +kernel, by decide +kernel⟩
noncomputable def b__law_source (δ : FL.Loc) (μ : Mem) : OutS := (mSeq (mSet 2 (mIf (mTb (m2 (gEq true) (.v 0) (.e (mLst [])))) (m2 gIxL (.v 0) (.e (m2 gMod (.v 1) (.e (mC gLen [(.v 0)]))))) (mD (.int 1))))
    (mRet (mShare (mLst [(mV 2), (m2 gMulA (.e (mD (.int 3))) (.v 1)), (mIf (mTb (m2 gGe (.v 2) (.e (m2 gPow (.e (mD (.int 10))) (.e (mD (.int 18))))))) (m2 gDiv (.v 2) (.e (m2 gPow (.e (mD (.int 10))) (.e (mD (.int 18)))))) (mD (.int 0)))])))) δ μ
noncomputable def m__law_source : MF := mFn 3 (b__law_source)
theorem g__law_source {tb : Nat → Addr} {P : Program} {w : World} {K : PySem.W.Frag} {mg : Str → Option Value} {base : Heap} {f : Addr} {fd : FuncData} (F : Fd K "_law_source" "_law_source" (tp 65) f fd .none) (T : Txt tb P w K mg base) : FnG P w K mg base (L2.CX P w) (0 + 1) f fd ["_law_script", "_law_k"] (spM K mg (mFn 3 (b__law_source)) 2) := by
  refine fnG_s (N := ["_law_script", "_law_k", "_law_cell"]) (sc := sc__law_source) F scf__law_source (by kernel_rfl) rfl ?_
  intro X W hP hw hK hM hB C
  subst hP hw hK hM hB
  exact (jss_cons (C.set (by decide +kernel) (je_if (C.neT (C.ov (by decide +kernel)) (jo_e (je_lst ja_nil))) (ix_ (C.ov (by decide +kernel)) (jo_e (mod_ (C.ov (by decide +kernel)) (jo_e (C.bi (by decide +kernel) T.n_len PySem.boot_len o_len j_len (jos_cons (C.ov (by decide +kernel)) jos_nil))))) (by intro _ _; rfl)) je_int))
    (jss_one (js_ret (je_share (je_lst (ja_cons (C.v (by decide +kernel)) (ja_cons (mul_ (jo_e je_int) (C.ov (by decide +kernel))) (ja_cons (je_if (geT (C.ov (by decide +kernel)) (jo_e (pow_ (jo_e je_int) (jo_e je_int)))) (div_ (C.ov (by decide +kernel)) (jo_e (pow_ (jo_e je_int) (jo_e je_int)))) je_int) ja_nil))))))))
theorem bd__law_source {K : PySem.W.Frag} {f : Addr} {fd : FuncData} (F : Fd K "_law_source" "_law_source" (tp 65) f fd .none) : Binds K fd ["_law_script", "_law_k"] [] :=
  F.binds fun _ _ _ _ _ _ us hl => match us, hl with | [_, _], _ => by kernel_rfl
theorem ok__law_source {tb : Nat → Addr} {P : Program} {w : World} {K : PySem.W.Frag} {mg : Str → Option Value} {base : Heap} (T : Txt tb P w K mg base) : Fu P w K mg base 1 "_law_source" m__law_source 2 [] := by
  obtain ⟨f, fd, F, hm, hk⟩ := T.d__law_source
  exact Fu.mk0 (g__law_source F T) hm hk (bd__law_source F)

/-! _law_next -/
def sc__law_next : Scope := { kind := .function, names := [("_law_source_here", .local), ("_law_many", .local), ("_law_found", .local), ("_law_primes", .local), ("_law_prime", .local)], isGenerator := false, isCoroutine := false, more := [] }
theorem scf__law_next : FnScope ["_law_source_here", "_law_many", "_law_found", "_law_primes", "_law_prime"] ["_law_source_here", "_law_many"] sc__law_next := ⟨rfl, rfl, rfl, by decide +kernel, rfl, by decide +kernel, by decide +kernel⟩
noncomputable def b__law_next (δ : FL.Loc) (μ : Mem) : OutS := (mSeq (mIfS (mTb (m2 gGt (.e (m2 gIxL (.v 0) (.e (mD (.int 2))))) (.e (mD (.int 0))))) (mSeq (mSet 2 (m2 gMod (.e (m2 gIxL (.v 0) (.e (mD (.int 2))))) (.v 1)))
    (mSeq (mSetI gSetL (.v 0) (.e (mD (.int 2))) (m2 gDiv (.e (m2 gIxL (.v 0) (.e (mD (.int 2))))) (.v 1)))
    (mRet (mV 2))))
    mPass)
    (mSeq (mSetI gSetL (.v 0) (.e (mD (.int 1))) (m2 gAdd (.e (m2 gIxL (.v 0) (.e (mD (.int 1))))) (.e (mD (.int 1)))))
    (mSeq (mSet 3 (mLst [(mD (.int 2147483647)), (mD (.int 2147483629)), (mD (.int 2147483587)), (mD (.int 2147483579)), (mD (.int 2147483563)), (mD (.int 2147483549)), (mD (.int 2147483543)), (mD (.int 2147483497))]))
    (mSeq (mSet 4 (m2 gIxL (.e (m2 gAdd (.v 3) (.e (mLst [(mD (.int 2147483489)), (mD (.int 2147483477)), (mD (.int 2147483423))])))) (.e (m2 gMod (.e (m2 gIxL (.v 0) (.e (mD (.int 1))))) (.e (mD (.int 11)))))))
    (mRet (m2 gMod (.e (m2 gDiv (.e (m2 gMod (.e (m2 gPow (.e (m2 gAdd (.e (m2 gAdd (.e (m2 gMod (.e (m2 gIxL (.v 0) (.e (mD (.int 0))))) (.v 4))) (.e (m2 gMulA (.e (mD (.int 7919))) (.e (m2 gIxL (.v 0) (.e (mD (.int 1))))))))) (.e (mD (.int 1))))) (.e (mD (.int 5))))) (.v 4))) (.e (mD (.int 13))))) (.v 1))))))) δ μ
noncomputable def m__law_next : MF := mFn 5 (b__law_next)
theorem g__law_next {tb : Nat → Addr} {P : Program} {w : World} {K : PySem.W.Frag} {mg : Str → Option Value} {base : Heap} {f : Addr} {fd : FuncData} (F : Fd K "_law_next" "_law_next" (tp 66) f fd .none) (T : Txt tb P w K mg base) : FnG P w K mg base (L2.CX P w) (0 + 1) f fd ["_law_source_here", "_law_many"] (spM K mg (mFn 5 (b__law_next)) 2) := by
  refine fnG_s (N := ["_law_source_here", "_law_many", "_law_found", "_law_primes", "_law_prime"]) (sc := sc__law_next) F scf__law_next (by kernel_rfl) rfl ?_
  intro X W hP hw hK hM hB C
  subst hP hw hK hM hB
  exact (jss_cons (js_if (gtT (jo_e (ix_ (C.ov (by decide +kernel)) (jo_e je_int) (by intro _ _; rfl))) (jo_e je_int)) (jss_cons (C.set (by decide +kernel) (mod_ (jo_e (ix_ (C.ov (by decide +kernel)) (jo_e je_int) (by intro _ _; rfl))) (C.ov (by decide +kernel))))
    (jss_cons (setI_ (div_ (jo_e (ix_ (C.ov (by decide +kernel)) (jo_e je_int) (by intro _ _; rfl))) (C.ov (by decide +kernel))) (C.ov (by decide +kernel)) (jo_e je_int))
    (jss_one (js_ret (C.v (by decide +kernel))))))
    jss_nil)
    (jss_cons (setI_ (add_ (jo_e (ix_ (C.ov (by decide +kernel)) (jo_e je_int) (by intro _ _; rfl))) (jo_e je_int)) (C.ov (by decide +kernel)) (jo_e je_int))
    (jss_cons (C.set (by decide +kernel) (je_lst (ja_cons je_int (ja_cons je_int (ja_cons je_int (ja_cons je_int (ja_cons je_int (ja_cons je_int (ja_cons je_int (ja_cons je_int ja_nil))))))))))
    (jss_cons (C.set (by decide +kernel) (ix_ (jo_e (add_ (C.ov (by decide +kernel)) (jo_e (je_lst (ja_cons je_int (ja_cons je_int (ja_cons je_int ja_nil))))))) (jo_e (mod_ (jo_e (ix_ (C.ov (by decide +kernel)) (jo_e je_int) (by intro _ _; rfl))) (jo_e je_int))) (by intro _ _; rfl)))
    (jss_one (js_ret (mod_ (jo_e (div_ (jo_e (mod_ (jo_e (pow_ (jo_e (add_ (jo_e (add_ (jo_e (mod_ (jo_e (ix_ (C.ov (by decide +kernel)) (jo_e je_int) (by intro _ _; rfl))) (C.ov (by decide +kernel)))) (jo_e (mul_ (jo_e je_int) (jo_e (ix_ (C.ov (by decide +kernel)) (jo_e je_int) (by intro _ _; rfl))))))) (jo_e je_int))) (jo_e je_int))) (C.ov (by decide +kernel)))) (jo_e je_int))) (C.ov (by decide +kernel)))))))))
theorem bd__law_next {K : PySem.W.Frag} {f : Addr} {fd : FuncData} (F : Fd K "_law_next" "_law_next" (tp 66) f fd .none) : Binds K fd ["_law_source_here", "_law_many"] [] :=
  F.binds fun _ _ _ _ _ _ us hl => match us, hl with | [_, _], _ => by kernel_rfl
theorem ok__law_next {tb : Nat → Addr} {P : Program} {w : World} {K : PySem.W.Frag} {mg : Str → Option Value} {base : Heap} (T : Txt tb P w K mg base) : Fu P w K mg base 1 "_law_next" m__law_next 2 [] := by
  obtain ⟨f, fd, F, hm, hk⟩ := T.d__law_next
  exact Fu.mk0 (g__law_next F T) hm hk (bd__law_next F)

/-! _law_pick -/
def sc__law_pick : Scope := { kind := .function, names := [("_law_source_here", .local), ("_law_items", .local), ("_law_next", .globalImplicit), ("len", .globalImplicit)], isGenerator := false, isCoroutine := false, more := [] }
theorem scf__law_pick : FnScope ["_law_source_here", "_law_items"] ["_law_source_here", "_law_items"] sc__law_pick := ⟨rfl, rfl, rfl, by decide +kernel, rfl, by decide +kernel, by decide +kernel⟩
noncomputable def b__law_pick (δ : FL.Loc) (μ : Mem) : OutS := (mRet (m2 gIxL (.v 1) (.e (mCall m__law_next [(mV 0), (mC gLen [(.v 1)])] [])))) δ μ
noncomputable def m__law_pick : MF := mFn 2 (b__law_pick)
theorem g__law_pick {tb : Nat → Addr} {P : Program} {w : World} {K : PySem.W.Frag} {mg : Str → Option Value} {base : Heap} {f : Addr} {fd : FuncData} (F : Fd K "_law_pick" "_law_pick" (tp 67) f fd .none) (T : Txt tb P w K mg base) : FnG P w K mg base (L2.CX P w) (1 + 1) f fd ["_law_source_here", "_law_items"] (spM K mg (mFn 2 (b__law_pick)) 2) := by
  refine fnG_s (N := ["_law_source_here", "_law_items"]) (sc := sc__law_pick) F scf__law_pick (by kernel_rfl) rfl ?_
  intro X W hP hw hK hM hB C
  subst hP hw hK hM hB
  exact (jss_one (js_ret (ix_ (C.ov (by decide +kernel)) (jo_e (je_call C.toCs (ok__law_next T) (by decide +kernel) (by decide +kernel) (ja_cons (C.v (by decide +kernel)) (ja_cons (C.bi (by decide +kernel) T.n_len PySem.boot_len o_len j_len (jos_cons (C.ov (by decide +kernel)) jos_nil)) ja_nil)) rfl)) (by intro _ _; rfl))))
theorem bd__law_pick {K : PySem.W.Frag} {f : Addr} {fd : FuncData} (F : Fd K "_law_pick" "_law_pick" (tp 67) f fd .none) : Binds K fd ["_law_source_here", "_law_items"] [] :=
  F.binds fun _ _ _ _ _ _ us hl => match us, hl with | [_, _], _ => by kernel_rfl
theorem ok__law_pick {tb : Nat → Addr} {P : Program} {w : World} {K : PySem.W.Frag} {mg : Str → Option Value} {base : Heap} (T : Txt tb P w K mg base) : Fu P w K mg base 2 "_law_pick" m__law_pick 2 [] := by
  obtain ⟨f, fd, F, hm, hk⟩ := T.d__law_pick
  exact Fu.mk0 (g__law_pick F T) hm hk (bd__law_pick F)

/-! _law_is_word -/
def sc__law_is_word : Scope := { kind := .function, names := [("_law_thing", .local), ("_law_signs", .cell), ("isinstance", .globalImplicit), ("str", .globalImplicit), ("len", .globalImplicit)], isGenerator := false, isCoroutine := false, more := [("fast", .str "_law_thing"), ("fast", .str "_law_signs"), ("fast", .str "_law_x")] }
theorem scf__law_is_word : FnScope ["_law_thing", "_law_signs", "_law_x"] ["_law_thing"] sc__law_is_word := ⟨rfl, rfl, rfl, by decide +kernel, rfl, by decide +kernel, by decide +kernel⟩
noncomputable def t1__law_is_word (δ : FL.Loc) (μ : Mem) : Out Bool := (mTb (m2 (gIn true) (.v 2) (.v 1))) δ μ
noncomputable def e2__law_is_word (δ : FL.Loc) (μ : Mem) : Out FL.Slot := (mV 2) δ μ
noncomputable def b__law_is_word (δ : FL.Loc) (μ : Mem) : OutS := (mSeq (mSet 1 (mD (.str (lit "abcdefghijklmnopqrstuvwxyz0123456789"))))
    (mRet (mAndV (mC gIsi [(.v 0), (.e (mD (.ty "str")))]) (mAndV (mChain gLe gLe (.e (mD (.int 1))) (.e (mC gLen [(.v 0)])) (.e (mD (.int 20)))) (m2 (gEq false) (.e (mLc (mIt (mV 0)) (tgV 2) t1__law_is_word e2__law_is_word [2])) (.e (mLst []))))))) δ μ
noncomputable def m__law_is_word : MF := mFn 3 (b__law_is_word)
theorem g__law_is_word {tb : Nat → Addr} {P : Program} {w : World} {K : PySem.W.Frag} {mg : Str → Option Value} {base : Heap} {f : Addr} {fd : FuncData} (F : Fd K "_law_is_word" "_law_is_word" (tp 69) f fd .none) (T : Txt tb P w K mg base) : FnG P w K mg base (L2.CX P w) (0 + 1) f fd ["_law_thing"] (spM K mg (mFn 3 (b__law_is_word)) 1) := by
  refine fnG_s (N := ["_law_thing", "_law_signs", "_law_x"]) (sc := sc__law_is_word) F scf__law_is_word (by kernel_rfl) rfl ?_
  intro X W hP hw hK hM hB C
  subst hP hw hK hM hB
  exact (jss_cons (C.set (by decide +kernel) je_str)
    (jss_one (js_ret (je_and (C.bi (by decide +kernel) T.n_isinstance (by decide +kernel) call_isi j_isi (jos_cons (C.ov (by decide +kernel)) (jos_cons (jo_e (C.ty (by decide +kernel) T.n_str (by decide +kernel))) jos_nil))) (je_and (chain_ o_le j_le o_le j_le (jo_e je_int) (jo_e (C.bi (by decide +kernel) T.n_len PySem.boot_len o_len j_len (jos_cons (C.ov (by decide +kernel)) jos_nil))) (jo_e je_int)) (je_one (C.eq (jo_e (Cs.lc (Tx := Txt tb) C.toCs T [("_law_x", 2)] (ji_any (C.v (by decide +kernel))) (by decide +kernel) (fun Y T1 C1 => ⟨(C1.tg (by decide +kernel)), (jts_one (ninT (C1.ov (by decide +kernel)) (C1.ov (by decide +kernel)))), (C1.v (by decide +kernel))⟩) (by rfl))) (jo_e (je_lst ja_nil)))))))))
theorem bd__law_is_word {K : PySem.W.Frag} {f : Addr} {fd : FuncData} (F : Fd K "_law_is_word" "_law_is_word" (tp 69) f fd .none) : Binds K fd ["_law_thing"] [] :=
  F.binds fun _ _ _ _ _ _ us hl => match us, hl with | [_], _ => by kernel_rfl
theorem ok__law_is_word {tb : Nat → Addr} {P : Program} {w : World} {K : PySem.W.Frag} {mg : Str → Option Value} {base : Heap} (T : Txt tb P w K mg base) : Fu P w K mg base 1 "_law_is_word" m__law_is_word 1 [] := by
  obtain ⟨f, fd, F, hm, hk⟩ := T.d__law_is_word
  exact Fu.mk0 (g__law_is_word F T) hm hk (bd__law_is_word F)

/-! _law_refused -/
def sc__law_refused : Scope := { kind := .function, names := [("_law_ask", .local), ("_law_error", .local), ("raised", .local), ("BadQuery", .globalImplicit)], isGenerator := false, isCoroutine := false, more := [] }
theorem scf__law_refused : FnScope ["_law_ask", "_law_error", "raised"] ["_law_ask"] sc__law_refused := ⟨rfl, rfl, rfl, by decide +kernel, rfl, by decide +kernel, by decide +kernel⟩
def q__law_refused : Nat → Pos := fun i => match i with
  | 0 => ⟨441, 4, 441, 14⟩
  | 1 => ⟨441, 17, 441, 21⟩
  | 2 => ⟨441, 4, 441, 21⟩
  | 3 => ⟨443, 8, 443, 16⟩
  | 4 => ⟨443, 8, 443, 18⟩
  | 5 => ⟨443, 8, 443, 18⟩
  | 6 => ⟨444, 11, 444, 19⟩
  | 7 => ⟨445, 8, 445, 18⟩
  | 8 => ⟨445, 21, 445, 27⟩
  | 9 => ⟨445, 8, 445, 27⟩
  | 10 => ⟨444, 4, 445, 27⟩
  | 11 => ⟨442, 4, 445, 27⟩
  | _ => ⟨0, 0, 0, 0⟩
noncomputable def r__law_refused (δ : FL.Loc) (μ : Mem) : OutS := (mRet (m2 (gIsN true) (.v 1) (.e (mD .non)))) δ μ
noncomputable def m__law_refused : (Mem → OutF) → Mem → OutF := mHelp sub__law_refused r__law_refused
theorem bd__law_refused {K : PySem.W.Frag} {f : Addr} {fd : FuncData} (F : Fd K "_law_refused" "_law_refused" (tp 68) f fd .none) : Binds K fd ["_law_ask"] [] :=
  F.binds fun _ _ _ _ _ _ us hl => match us, hl with | [_], _ => by kernel_rfl
theorem ok__law_refused {tb : Nat → Addr} {P : Program} {w : World} {K : PySem.W.Frag} {mg : Str → Option Value} {base : Heap} {k : Nat} (T : Txt tb P w K mg base) : Hlp P w K mg base (k + 1) "_law_refused" m__law_refused := by
  obtain ⟨f, fd, F, hm, hk⟩ := T.d__law_refused
  obtain ⟨CS, hC, hS⟩ := T.s__law_refused
  refine hlp_of (a := "_law_ask") (caught := "_law_error") (err := "raised") (ec := "BadQuery") (jn := 0) (q := q__law_refused) (rest := (defBody (tp 68)).drop 2) (sc := sc__law_refused) F scf__law_refused (by kernel_rfl) (by kernel_rfl) hm hk (bd__law_refused F) (by decide +kernel) hC hS (by decide +kernel) (by decide +kernel) (by decide +kernel) (by decide +kernel) ?_
  intro X W hP hw hK hM hB C
  subst hP hw hK hM hB
  exact (jss_one (js_ret (notN_ (C.ov (by decide +kernel)) (jo_e je_non))))

/-! is_made_of -/
def sc_is_made_of : Scope := { kind := .function, names := [("value", .local), ("signs", .cell), ("most", .local), ("isinstance", .globalImplicit), ("str", .globalImplicit), ("len", .globalImplicit), ("all", .globalImplicit)], isGenerator := false, isCoroutine := false, more := [("fast", .str "value"), ("fast", .str "signs"), ("fast", .str "most"), ("fast", .str "sign")] }
theorem scf_is_made_of : FnScope ["value", "signs", "most", "sign"] ["value", "signs", "most"] sc_is_made_of := ⟨rfl, rfl, rfl, by decide +kernel, rfl, by decide +kernel, by decide +kernel⟩
noncomputable def e1_is_made_of (δ : FL.Loc) (μ : Mem) : Out FL.Slot := (m2 (gIn false) (.v 3) (.v 1)) δ μ
noncomputable def b_is_made_of (δ : FL.Loc) (μ : Mem) : OutS := (mRet (mAndV (mC gIsi [(.v 0), (.e (mD (.ty "str")))]) (mAndV (mChain gLe gLe (.e (mD (.int 1))) (.e (mC gLen [(.v 0)])) (.v 2)) (mC gAll [(.e (mLc (mIt (mV 0)) (tgV 3) mYes e1_is_made_of [3]))])))) δ μ
noncomputable def m_is_made_of : MF := mFn 4 (b_is_made_of)
theorem g_is_made_of {tb : Nat → Addr} {P : Program} {w : World} {K : PySem.W.Frag} {mg : Str → Option Value} {base : Heap} {f : Addr} {fd : FuncData} (F : Fd K "is_made_of" "is_made_of" (tp 15) f fd .none) (T : Txt tb P w K mg base) : FnG P w K mg base (L2.CX P w) (0 + 1) f fd ["value", "signs", "most"] (spM K mg (mFn 4 (b_is_made_of)) 3) := by
  refine fnG_s (N := ["value", "signs", "most", "sign"]) (sc := sc_is_made_of) F scf_is_made_of (by kernel_rfl) rfl ?_
  intro X W hP hw hK hM hB C
  subst hP hw hK hM hB
  exact (jss_one (js_ret (je_and (C.bi (by decide +kernel) T.n_isinstance (by decide +kernel) call_isi j_isi (jos_cons (C.ov (by decide +kernel)) (jos_cons (jo_e (C.ty (by decide +kernel) T.n_str (by decide +kernel))) jos_nil))) (je_and (chain_ o_le j_le o_le j_le (jo_e je_int) (jo_e (C.bi (by decide +kernel) T.n_len PySem.boot_len o_len j_len (jos_cons (C.ov (by decide +kernel)) jos_nil))) (C.ov (by decide +kernel))) (je_one (C.bi (by decide +kernel) T.n_all (by decide +kernel) (cr_all C.calm) j_all (jos_cons (jo_e (Cs.lc (Tx := Txt tb) C.toCs T [("sign", 3)] (ji_any (C.v (by decide +kernel))) (by decide +kernel) (fun Y T1 C1 => ⟨(C1.tg (by decide +kernel)), jts_nil, (in_ (C1.ov (by decide +kernel)) (C1.ov (by decide +kernel)))⟩) (by rfl))) jos_nil)))))))
theorem bd_is_made_of {K : PySem.W.Frag} {f : Addr} {fd : FuncData} (F : Fd K "is_made_of" "is_made_of" (tp 15) f fd .none) : Binds K fd ["value", "signs", "most"] [] :=
  F.binds fun _ _ _ _ _ _ us hl => match us, hl with | [_, _, _], _ => by kernel_rfl
theorem ok_is_made_of {tb : Nat → Addr} {P : Program} {w : World} {K : PySem.W.Frag} {mg : Str → Option Value} {base : Heap} (T : Txt tb P w K mg base) : Fu P w K mg base 1 "is_made_of" m_is_made_of 3 [] := by
  obtain ⟨f, fd, F, hm, hk⟩ := T.d_is_made_of
  exact Fu.mk0 (g_is_made_of F T) hm hk (bd_is_made_of F)

/-! is_field_name -/
def sc_is_field_name : Scope := { kind := .function, names := [("value", .local), ("is_made_of", .globalImplicit), ("LETTERS", .globalImplicit), ("MAX_NAME", .globalImplicit)], isGenerator := false, isCoroutine := false, more := [] }
theorem scf_is_field_name : FnScope ["value"] ["value"] sc_is_field_name := ⟨rfl, rfl, rfl, by decide +kernel, rfl, by decide +kernel, by decide +kernel⟩
noncomputable def b_is_field_name (δ : FL.Loc) (μ : Mem) : OutS := (mRet (mCall m_is_made_of [(mV 0), (mD (.str (lit "abcdefghijklmnopqrstuvwxyz"))), (mD (.int 12))] [])) δ μ
noncomputable def m_is_field_name : MF := mFn 1 (b_is_field_name)
theorem g_is_field_name {tb : Nat → Addr} {P : Program} {w : World} {K : PySem.W.Frag} {mg : Str → Option Value} {base : Heap} {f : Addr} {fd : FuncData} (F : Fd K "is_field_name" "is_field_name" (tp 16) f fd .none) (T : Txt tb P w K mg base) : FnG P w K mg base (L2.CX P w) (1 + 1) f fd ["value"] (spM K mg (mFn 1 (b_is_field_name)) 1) := by
  refine fnG_s (N := ["value"]) (sc := sc_is_field_name) F scf_is_field_name (by kernel_rfl) rfl ?_
  intro X W hP hw hK hM hB C
  subst hP hw hK hM hB
  exact (jss_one (js_ret (je_call C.toCs (ok_is_made_of T) (by decide +kernel) (by decide +kernel) (ja_cons (C.v (by decide +kernel)) (ja_cons (C.gStr (by decide +kernel) T.c_LETTERS) (ja_cons (C.gInt (by decide +kernel) T.c_MAX_NAME) ja_nil))) rfl)))
theorem bd_is_field_name {K : PySem.W.Frag} {f : Addr} {fd : FuncData} (F : Fd K "is_field_name" "is_field_name" (tp 16) f fd .none) : Binds K fd ["value"] [] :=
  F.binds fun _ _ _ _ _ _ us hl => match us, hl with | [_], _ => by kernel_rfl
theorem ok_is_field_name {tb : Nat → Addr} {P : Program} {w : World} {K : PySem.W.Frag} {mg : Str → Option Value} {base : Heap} (T : Txt tb P w K mg base) : Fu P w K mg base 2 "is_field_name" m_is_field_name 1 [] := by
  obtain ⟨f, fd, F, hm, hk⟩ := T.d_is_field_name
  exact Fu.mk0 (g_is_field_name F T) hm hk (bd_is_field_name F)

/-! need_field -/
def sc_need_field : Scope := { kind := .function, names := [("value", .local), ("is_field_name", .globalImplicit), ("BadQuery", .globalImplicit)], isGenerator := false, isCoroutine := false, more := [] }
theorem scf_need_field : FnScope ["value"] ["value"] sc_need_field := ⟨rfl, rfl, rfl, by decide +kernel, rfl, by decide +kernel, by decide +kernel⟩
noncomputable def b_need_field (δ : FL.Loc) (μ : Mem) : OutS := (mIfS (mNot (mTb (mCall m_is_field_name [(mV 0)] []))) (mRaise "BadQuery" "reason" (mD (.str (lit "not a field name"))))
    mPass) δ μ
noncomputable def m_need_field : MF := mFn 1 (b_need_field)
theorem g_need_field {tb : Nat → Addr} {P : Program} {w : World} {K : PySem.W.Frag} {mg : Str → Option Value} {base : Heap} {f : Addr} {fd : FuncData} (F : Fd K "need_field" "need_field" (tp 44) f fd .none) (T : Txt tb P w K mg base) : FnG P w K mg base (L2.CX P w) (3 + 1) f fd ["value"] (spM K mg (mFn 1 (b_need_field)) 1) := by
  refine fnG_s (N := ["value"]) (sc := sc_need_field) F scf_need_field (by kernel_rfl) rfl ?_
  intro X W hP hw hK hM hB C
  subst hP hw hK hM hB
  exact (jss_one (js_if (jt_not (jt_e (je_call C.toCs (ok_is_field_name T) (by decide +kernel) (by decide +kernel) (ja_cons (C.v (by decide +kernel)) ja_nil) rfl))) (jss_one (js_raise C.toCs T.x_BadQuery (by decide) (by decide +kernel) je_str))
    jss_nil))
theorem bd_need_field {K : PySem.W.Frag} {f : Addr} {fd : FuncData} (F : Fd K "need_field" "need_field" (tp 44) f fd .none) : Binds K fd ["value"] [] :=
  F.binds fun _ _ _ _ _ _ us hl => match us, hl with | [_], _ => by kernel_rfl
theorem ok_need_field {tb : Nat → Addr} {P : Program} {w : World} {K : PySem.W.Frag} {mg : Str → Option Value} {base : Heap} (T : Txt tb P w K mg base) : Fu P w K mg base 4 "need_field" m_need_field 1 [] := by
  obtain ⟨f, fd, F, hm, hk⟩ := T.d_need_field
  exact Fu.mk0 (g_need_field F T) hm hk (bd_need_field F)

/-! is_word -/
def sc_is_word : Scope := { kind := .function, names := [("value", .local), ("is_made_of", .globalImplicit), ("WORD_SIGNS", .globalImplicit), ("MAX_WORD", .globalImplicit)], isGenerator := false, isCoroutine := false, more := [] }
theorem scf_is_word : FnScope ["value"] ["value"] sc_is_word := ⟨rfl, rfl, rfl, by decide +kernel, rfl, by decide +kernel, by decide +kernel⟩
noncomputable def b_is_word (δ : FL.Loc) (μ : Mem) : OutS := (mRet (mCall m_is_made_of [(mV 0), (mD (.str (lit "abcdefghijklmnopqrstuvwxyz0123456789"))), (mD (.int 20))] [])) δ μ
noncomputable def m_is_word : MF := mFn 1 (b_is_word)
theorem g_is_word {tb : Nat → Addr} {P : Program} {w : World} {K : PySem.W.Frag} {mg : Str → Option Value} {base : Heap} {f : Addr} {fd : FuncData} (F : Fd K "is_word" "is_word" (tp 17) f fd .none) (T : Txt tb P w K mg base) : FnG P w K mg base (L2.CX P w) (1 + 1) f fd ["value"] (spM K mg (mFn 1 (b_is_word)) 1) := by
  refine fnG_s (N := ["value"]) (sc := sc_is_word) F scf_is_word (by kernel_rfl) rfl ?_
  intro X W hP hw hK hM hB C
  subst hP hw hK hM hB
  exact (jss_one (js_ret (je_call C.toCs (ok_is_made_of T) (by decide +kernel) (by decide +kernel) (ja_cons (C.v (by decide +kernel)) (ja_cons (C.gStr (by decide +kernel) T.c_WORD_SIGNS) (ja_cons (C.gInt (by decide +kernel) T.c_MAX_WORD) ja_nil))) rfl)))
theorem bd_is_word {K : PySem.W.Frag} {f : Addr} {fd : FuncData} (F : Fd K "is_word" "is_word" (tp 17) f fd .none) : Binds K fd ["value"] [] :=
  F.binds fun _ _ _ _ _ _ us hl => match us, hl with | [_], _ => by kernel_rfl
theorem ok_is_word {tb : Nat → Addr} {P : Program} {w : World} {K : PySem.W.Frag} {mg : Str → Option Value} {base : Heap} (T : Txt tb P w K mg base) : Fu P w K mg base 2 "is_word" m_is_word 1 [] := by
  obtain ⟨f, fd, F, hm, hk⟩ := T.d_is_word
  exact Fu.mk0 (g_is_word F T) hm hk (bd_is_word F)

/-! need_word -/
def sc_need_word : Scope := { kind := .function, names := [("value", .local), ("is_word", .globalImplicit), ("BadQuery", .globalImplicit)], isGenerator := false, isCoroutine := false, more := [] }
theorem scf_need_word : FnScope ["value"] ["value"] sc_need_word := ⟨rfl, rfl, rfl, by decide +kernel, rfl, by decide +kernel, by decide +kernel⟩
noncomputable def b_need_word (δ : FL.Loc) (μ : Mem) : OutS := (mIfS (mNot (mTb (mCall m_is_word [(mV 0)] []))) (mRaise "BadQuery" "reason" (mD (.str (lit "not a word"))))
    mPass) δ μ
noncomputable def m_need_word : MF := mFn 1 (b_need_word)
theorem g_need_word {tb : Nat → Addr} {P : Program} {w : World} {K : PySem.W.Frag} {mg : Str → Option Value} {base : Heap} {f : Addr} {fd : FuncData} (F : Fd K "need_word" "need_word" (tp 45) f fd .none) (T : Txt tb P w K mg base) : FnG P w K mg base (L2.CX P w) (3 + 1) f fd ["value"] (spM K mg (mFn 1 (b_need_word)) 1) := by
  refine fnG_s (N := ["value"]) (sc := sc_need_word) F scf_need_word (by kernel_rfl) rfl ?_
  intro X W hP hw hK hM hB C
  subst hP hw hK hM hB
  exact (jss_one (js_if (jt_not (jt_e (je_call C.toCs (ok_is_word T) (by decide +kernel) (by decide +kernel) (ja_cons (C.v (by decide +kernel)) ja_nil) rfl))) (jss_one (js_raise C.toCs T.x_BadQuery (by decide) (by decide +kernel) je_str))
    jss_nil))
theorem bd_need_word {K : PySem.W.Frag} {f : Addr} {fd : FuncData} (F : Fd K "need_word" "need_word" (tp 45) f fd .none) : Binds K fd ["value"] [] :=
  F.binds fun _ _ _ _ _ _ us hl => match us, hl with | [_], _ => by kernel_rfl
theorem ok_need_word {tb : Nat → Addr} {P : Program} {w : World} {K : PySem.W.Frag} {mg : Str → Option Value} {base : Heap} (T : Txt tb P w K mg base) : Fu P w K mg base 4 "need_word" m_need_word 1 [] := by
  obtain ⟨f, fd, F, hm, hk⟩ := T.d_need_word
  exact Fu.mk0 (g_need_word F T) hm hk (bd_need_word F)

/-! is_integer -/
def sc_is_integer : Scope := { kind := .function, names := [("value", .local), ("low", .local), ("high", .local), ("isinstance", .globalImplicit), ("int", .globalImplicit), ("bool", .globalImplicit)], isGenerator := false, isCoroutine := false, more := [] }
theorem scf_is_integer : FnScope ["value", "low", "high"] ["value", "low", "high"] sc_is_integer := ⟨rfl, rfl, rfl, by decide +kernel, rfl, by decide +kernel, by decide +kernel⟩
noncomputable def b_is_integer (δ : FL.Loc) (μ : Mem) : OutS := (mSeq (mIfS (mOr (mNot (mTb (mC gIsi [(.v 0), (.e (mD (.ty "int")))]))) (mTb (mC gIsi [(.v 0), (.e (mD (.ty "bool")))]))) (mRet (mD (.bl false)))
    mPass)
    (mRet (mAndV (mOrV (m2 (gIsN false) (.v 1) (.e (mD .non))) (m2 gLe (.v 1) (.v 0))) (mOrV (m2 (gIsN false) (.v 2) (.e (mD .non))) (m2 gLe (.v 0) (.v 2)))))) δ μ
noncomputable def m_is_integer : MF := mFn 3 (b_is_integer)
theorem g_is_integer {tb : Nat → Addr} {P : Program} {w : World} {K : PySem.W.Frag} {mg : Str → Option Value} {base : Heap} {f : Addr} {fd : FuncData} (F : Fd K "is_integer" "is_integer" (tp 14) f fd .none) (T : Txt tb P w K mg base) : FnG P w K mg base (L2.CX P w) (0 + 1) f fd ["value", "low", "high"] (spM K mg (mFn 3 (b_is_integer)) 3) := by
  refine fnG_s (N := ["value", "low", "high"]) (sc := sc_is_integer) F scf_is_integer (by kernel_rfl) rfl ?_
  intro X W hP hw hK hM hB C
  subst hP hw hK hM hB
  exact (jss_cons (js_if (jt_w (jw_or (jt_not (jt_e (C.bi (by decide +kernel) T.n_isinstance (by decide +kernel) call_isi j_isi (jos_cons (C.ov (by decide +kernel)) (jos_cons (jo_e (C.ty (by decide +kernel) T.n_int (by decide +kernel))) jos_nil))))) (jw_or1 (jt_e (C.bi (by decide +kernel) T.n_isinstance (by decide +kernel) call_isi j_isi (jos_cons (C.ov (by decide +kernel)) (jos_cons (jo_e (C.ty (by decide +kernel) T.n_bool (by decide +kernel))) jos_nil))))))) (jss_one (js_ret je_bl))
    jss_nil)
    (jss_one (js_ret (je_and (je_or (isN_ (C.ov (by decide +kernel)) (jo_e je_non)) (je_one (le_ (C.ov (by decide +kernel)) (C.ov (by decide +kernel))))) (je_one (je_or (isN_ (C.ov (by decide +kernel)) (jo_e je_non)) (je_one (le_ (C.ov (by decide +kernel)) (C.ov (by decide +kernel))))))))))
theorem bd_is_integer {K : PySem.W.Frag} {f : Addr} {fd : FuncData} (F : Fd K "is_integer" "is_integer" (tp 14) f fd .none) : Binds K fd ["value", "low", "high"] [] :=
  F.binds fun _ _ _ _ _ _ us hl => match us, hl with | [_, _, _], _ => by kernel_rfl
theorem ok_is_integer {tb : Nat → Addr} {P : Program} {w : World} {K : PySem.W.Frag} {mg : Str → Option Value} {base : Heap} (T : Txt tb P w K mg base) : Fu P w K mg base 1 "is_integer" m_is_integer 3 [] := by
  obtain ⟨f, fd, F, hm, hk⟩ := T.d_is_integer
  exact Fu.mk0 (g_is_integer F T) hm hk (bd_is_integer F)

/-! fields_of -/
def sc_fields_of : Scope := { kind := .function, names := [("kind", .local), ("values", .local), ("parts", .local), ("found", .local), ("part", .local), ("FIELD_KINDS", .globalImplicit), ("list", .globalImplicit), ("tuple", .globalImplicit), ("sorted", .globalImplicit), ("set", .globalImplicit)], isGenerator := false, isCoroutine := false, more := [] }
theorem scf_fields_of : FnScope ["kind", "values", "parts", "found", "part"] ["kind", "values", "parts"] sc_fields_of := ⟨rfl, rfl, rfl, by decide +kernel, rfl, by decide +kernel, by decide +kernel⟩
noncomputable def f1_fields_of (δ : FL.Loc) (μ : Mem) : OutS := (mSet 3 (m2 gAdd (.v 3) (.e (mC gList [(.e (mAt at_ "own_fields" (.v 4)))])))) δ μ
noncomputable def b_fields_of (δ : FL.Loc) (μ : Mem) : OutS := (mSeq (mSet 3 (mIf (mTb (m2 (gIn false) (.v 0) (.e (mD (.tup ([lit "term", lit "phrase", lit "prefix", lit "range"].map .str)))))) (mLst [(m2 gIxL (.v 1) (.e (mD (.int 0))))]) (mLst [])))
    (mSeq (mFor (mIt (mV 2)) (tgV 4) f1_fields_of)
    (mRet (mC gTuple [(.e (mC gSS [(.v 3)]))])))) δ μ
noncomputable def m_fields_of : MF := mFn 5 (b_fields_of)
theorem g_fields_of {tb : Nat → Addr} {P : Program} {w : World} {K : PySem.W.Frag} {mg : Str → Option Value} {base : Heap} {f : Addr} {fd : FuncData} (F : Fd K "fields_of" "fields_of" (tp 49) f fd .none) (T : Txt tb P w K mg base) : FnG P w K mg base (L2.CX P w) (0 + 1) f fd ["kind", "values", "parts"] (spM K mg (mFn 5 (b_fields_of)) 3) := by
  refine fnG_s (N := ["kind", "values", "parts", "found", "part"]) (sc := sc_fields_of) F scf_fields_of (by kernel_rfl) rfl ?_
  intro X W hP hw hK hM hB C
  subst hP hw hK hM hB
  exact (jss_cons (C.set (by decide +kernel) (je_if (inT (C.ov (by decide +kernel)) (jo_e (C.toCs.gTupS (by decide +kernel) T.t_FIELD_KINDS))) (je_lst (ja_cons (ix_ (C.ov (by decide +kernel)) (jo_e je_int) (by intro _ _; rfl)) ja_nil)) (je_lst ja_nil)))
    (jss_cons (js_for C.hp C.calm (ji_any (C.v (by decide +kernel))) (C.tg (by decide +kernel)) (jss_one (C.set (by decide +kernel) (add_ (C.ov (by decide +kernel)) (jo_e (C.bt (by decide +kernel) T.n_list (by decide +kernel) o_list j_list (jos_cons (jo_e (je_at T.atts (C.ov (by decide +kernel)))) jos_nil)))))))
    (jss_one (js_ret (C.bt (by decide +kernel) T.n_tuple (by decide +kernel) o_tuple j_tuple (jos_cons (jo_e (Cs.ss C.toCs (by decide +kernel) T.n_sorted (by decide +kernel) T.n_set (jos_cons (C.ov (by decide +kernel)) jos_nil))) jos_nil))))))
theorem bd_fields_of {K : PySem.W.Frag} {f : Addr} {fd : FuncData} (F : Fd K "fields_of" "fields_of" (tp 49) f fd .none) : Binds K fd ["kind", "values", "parts"] [] :=
  F.binds fun _ _ _ _ _ _ us hl => match us, hl with | [_, _, _], _ => by kernel_rfl
theorem ok_fields_of {tb : Nat → Addr} {P : Program} {w : World} {K : PySem.W.Frag} {mg : Str → Option Value} {base : Heap} (T : Txt tb P w K mg base) : Fu P w K mg base 1 "fields_of" m_fields_of 3 [] := by
  obtain ⟨f, fd, F, hm, hk⟩ := T.d_fields_of
  exact Fu.mk0 (g_fields_of F T) hm hk (bd_fields_of F)

/-! iQuery -/
def sc_iQuery : Scope := { kind := .function, names := [("self", .local), ("own_parts", .local), ("own_values", .local), ("own_text", .local), ("sum", .globalImplicit), ("max", .globalImplicit), ("MAX_SIZE", .globalImplicit), ("MAX_LEVELS", .globalImplicit), ("BadQuery", .globalImplicit), ("tuple", .globalImplicit), ("fields_of", .globalImplicit)], isGenerator := false, isCoroutine := false, more := [("fast", .str "self"), ("fast", .str "own_parts"), ("fast", .str "own_values"), ("fast", .str "own_text"), ("fast", .str "part")] }
theorem scf_iQuery : FnScope ["self", "own_parts", "own_values", "own_text", "part"] ["self", "own_parts", "own_values", "own_text"] sc_iQuery := ⟨rfl, rfl, rfl, by decide +kernel, rfl, by decide +kernel, by decide +kernel⟩
noncomputable def e1_iQuery (δ : FL.Loc) (μ : Mem) : Out FL.Slot := (mAt at_ "own_size" (.v 4)) δ μ
noncomputable def e2_iQuery (δ : FL.Loc) (μ : Mem) : Out FL.Slot := (mAt at_ "own_levels" (.v 4)) δ μ
noncomputable def e3_iQuery (δ : FL.Loc) (μ : Mem) : Out FL.Slot := (mAt at_ "own_key" (.v 4)) δ μ
noncomputable def b_iQuery (δ : FL.Loc) (μ : Mem) : OutS := (mSeq (mStF at_ "own_parts" (.v 0) (mV 1))
    (mSeq (mStF at_ "own_size" (.v 0) (m2 gAdd (.e (mD (.int 1))) (.e (mC gSum [(.e (mLc (mIt (mV 1)) (tgV 4) mYes e1_iQuery [4]))]))))
    (mSeq (mStF at_ "own_levels" (.v 0) (mIf (mTb (m2 (gEq true) (.v 1) (.e (mTup [])))) (m2 gAdd (.e (mD (.int 1))) (.e (mC gMaxL [(.e (mLc (mIt (mV 1)) (tgV 4) mYes e2_iQuery [4]))]))) (mD (.int 0))))
    (mSeq (mIfS (mOr (mTb (m2 gGt (.e (mAt at_ "own_size" (.v 0))) (.e (mD (.int 60))))) (mTb (m2 gGt (.e (mAt at_ "own_levels" (.v 0))) (.e (mD (.int 8)))))) (mRaise "BadQuery" "reason" (mD (.str (lit "the query is too large or too deep"))))
    mPass)
    (mSeq (mStF at_ "own_key" (.v 0) (mTup [(mAt at_ "KIND" (.v 0)), (mV 2), (mC gTuple [(.e (mLc (mIt (mV 1)) (tgV 4) mYes e3_iQuery [4]))])]))
    (mSeq (mStF at_ "own_fields" (.v 0) (mCall m_fields_of [(mAt at_ "KIND" (.v 0)), (mV 2), (mV 1)] []))
    (mStF at_ "own_text" (.v 0) (mV 3)))))))) δ μ
noncomputable def m_iQuery : MF := mFn 5 b_iQuery
theorem g_iQuery {tb : Nat → Addr} {P : Program} {w : World} {K : PySem.W.Frag} {mg : Str → Option Value} {base : Heap} {fd : FuncData} (F : Fd K "__init__" "Query.__init__" (clsDef 1 (tp 46)) (fAdF K (pM "Query" "__init__")) fd .none) (T : Txt tb P w K mg base) : FnG P w K mg base (L2.CX P w) (3 + 1) (fAdF K (pM "Query" "__init__")) fd ["self", "own_parts", "own_values", "own_text"] (spM K mg (mFn 5 b_iQuery) 4) := by
  refine fnG_s (N := ["self", "own_parts", "own_values", "own_text", "part"]) (sc := sc_iQuery) F scf_iQuery (by kernel_rfl) rfl ?_
  intro X W hP hw hK hM hB C
  subst hP hw hK hM hB
  exact (jss_cons (js_stF T.atts (C.ov (by decide +kernel)) (C.v (by decide +kernel)))
    (jss_cons (js_stF T.atts (C.ov (by decide +kernel)) (add_ (jo_e je_int) (jo_e (C.bi (by decide +kernel) T.n_sum (by decide +kernel) (cr_sum C.calm) j_sum (jos_cons (jo_e (Cs.lc (Tx := Txt tb) C.toCs T [("part", 4)] (ji_any (C.v (by decide +kernel))) (by decide +kernel) (fun Y T1 C1 => ⟨(C1.tg (by decide +kernel)), jts_nil, (je_at T1.atts (C1.ov (by decide +kernel)))⟩) (by rfl))) jos_nil)))))
    (jss_cons (js_stF T.atts (C.ov (by decide +kernel)) (je_if (C.neT (C.ov (by decide +kernel)) (jo_e (je_tup ja_nil))) (add_ (jo_e je_int) (jo_e (C.bi (by decide +kernel) T.n_max (by decide +kernel) (cr_max C.calm) j_maxL (jos_cons (jo_e (Cs.lc (Tx := Txt tb) C.toCs T [("part", 4)] (ji_any (C.v (by decide +kernel))) (by decide +kernel) (fun Y T1 C1 => ⟨(C1.tg (by decide +kernel)), jts_nil, (je_at T1.atts (C1.ov (by decide +kernel)))⟩) (by rfl))) jos_nil)))) je_int))
    (jss_cons (js_if (jt_w (jw_or (gtT (jo_e (je_at T.atts (C.ov (by decide +kernel)))) (jo_e (C.gInt (by decide +kernel) T.c_MAX_SIZE))) (jw_or1 (gtT (jo_e (je_at T.atts (C.ov (by decide +kernel)))) (jo_e (C.gInt (by decide +kernel) T.c_MAX_LEVELS)))))) (jss_one (js_raise C.toCs T.x_BadQuery (by decide) (by decide +kernel) je_str))
    jss_nil)
    (jss_cons (js_stF T.atts (C.ov (by decide +kernel)) (je_tup (ja_cons (je_at T.atts (C.ov (by decide +kernel))) (ja_cons (C.v (by decide +kernel)) (ja_cons (C.bt (by decide +kernel) T.n_tuple (by decide +kernel) o_tuple j_tuple (jos_cons (jo_e (Cs.lc (Tx := Txt tb) C.toCs T [("part", 4)] (ji_any (C.v (by decide +kernel))) (by decide +kernel) (fun Y T1 C1 => ⟨(C1.tg (by decide +kernel)), jts_nil, (je_at T1.atts (C1.ov (by decide +kernel)))⟩) (by rfl))) jos_nil)) ja_nil)))))
    (jss_cons (js_stF T.atts (C.ov (by decide +kernel)) (je_call C.toCs (ok_fields_of T) (by decide +kernel) (by decide +kernel) (ja_cons (je_at T.atts (C.ov (by decide +kernel))) (ja_cons (C.v (by decide +kernel)) (ja_cons (C.v (by decide +kernel)) ja_nil))) rfl))
    (jss_one (js_stF T.atts (C.ov (by decide +kernel)) (C.v (by decide +kernel))))))))))
theorem bd_iQuery {K : PySem.W.Frag} {fd : FuncData} (F : Fd K "__init__" "Query.__init__" (clsDef 1 (tp 46)) (fAdF K (pM "Query" "__init__")) fd .none) : Binds K fd ["self", "own_parts", "own_values", "own_text"] [] :=
  F.binds fun _ _ _ _ _ _ us hl => match us, hl with | [_, _, _, _], _ => by kernel_rfl
theorem su_Phrase {tb : Nat → Addr} {P : Program} {w : World} {K : PySem.W.Frag} {mg : Str → Option Value} {base : Heap} (T : Txt tb P w K mg base) : SupR P w K mg base 4 "Phrase" "__init__" (He.ga K "Phrase") m_iQuery 4 := by
  obtain ⟨fd, F⟩ := T.f_iQuery
  exact supR_of T.sb_Phrase (g_iQuery F T) (bd_iQuery F)

/-! phrase_text -/
def sc_phrase_text : Scope := { kind := .function, names := [("field", .local), ("words", .local), ("distance", .local), ("found", .local)], isGenerator := false, isCoroutine := false, more := [] }
theorem scf_phrase_text : FnScope ["field", "words", "distance", "found"] ["field", "words", "distance"] sc_phrase_text := ⟨rfl, rfl, rfl, by decide +kernel, rfl, by decide +kernel, by decide +kernel⟩
noncomputable def b_phrase_text (δ : FL.Loc) (μ : Mem) : OutS := (mSeq (mSet 3 (m2 gAdd (.e (m2 gAdd (.e (m2 gAdd (.v 0) (.e (mD (.str (lit ":\"")))))) (.e (mM "str" gJoin (.e (mD (.str (lit " ")))) [(.v 1)])))) (.e (mD (.str (lit "\""))))))
    (mRet (mIf (mTb (m2 (gEq false) (.v 2) (.e (mD (.int 0))))) (mV 3) (mJoined [(mFmt (mV 3)), (mD (.str (lit "~"))), (mFmt (mV 2))])))) δ μ
noncomputable def m_phrase_text : MF := mFn 4 (b_phrase_text)
theorem g_phrase_text {tb : Nat → Addr} {P : Program} {w : World} {K : PySem.W.Frag} {mg : Str → Option Value} {base : Heap} {f : Addr} {fd : FuncData} (F : Fd K "phrase_text" "phrase_text" (tp 34) f fd .none) (T : Txt tb P w K mg base) : FnG P w K mg base (L2.CX P w) (0 + 1) f fd ["field", "words", "distance"] (spM K mg (mFn 4 (b_phrase_text)) 3) := by
  refine fnG_s (N := ["field", "words", "distance", "found"]) (sc := sc_phrase_text) F scf_phrase_text (by kernel_rfl) rfl ?_
  intro X W hP hw hK hM hB C
  subst hP hw hK hM hB
  exact (jss_cons (C.set (by decide +kernel) (add_ (jo_e (add_ (jo_e (add_ (C.ov (by decide +kernel)) (jo_e je_str))) (jo_e (join_ (jo_e je_str) (jos_cons (C.ov (by decide +kernel)) jos_nil))))) (jo_e je_str)))
    (jss_one (js_ret (je_if (C.eqT (C.ov (by decide +kernel)) (jo_e je_int)) (C.v (by decide +kernel)) (je_joined (.cons (je_fmt (C.v (by decide +kernel))) (.cons je_str (.cons (je_fmt (C.v (by decide +kernel))) JFs.nil))))))))
theorem bd_phrase_text {K : PySem.W.Frag} {f : Addr} {fd : FuncData} (F : Fd K "phrase_text" "phrase_text" (tp 34) f fd .none) : Binds K fd ["field", "words", "distance"] [] :=
  F.binds fun _ _ _ _ _ _ us hl => match us, hl with | [_, _, _], _ => by kernel_rfl
theorem ok_phrase_text {tb : Nat → Addr} {P : Program} {w : World} {K : PySem.W.Frag} {mg : Str → Option Value} {base : Heap} (T : Txt tb P w K mg base) : Fu P w K mg base 1 "phrase_text" m_phrase_text 3 [] := by
  obtain ⟨f, fd, F, hm, hk⟩ := T.d_phrase_text
  exact Fu.mk0 (g_phrase_text F T) hm hk (bd_phrase_text F)

/-! iPhrase -/
noncomputable def f1_iPhrase (δ : FL.Loc) (μ : Mem) : OutS := (mEx (mCall m_need_word [(mV 4)] [])) δ μ
noncomputable def b_iPhrase (δ : FL.Loc) (μ : Mem) : OutS := (mSeq (mEx (mCall m_need_field [(mV 1)] []))
    (mSeq (mIfS (mOr (mNot (mTb (mC gIsi [(.v 2), (.e (mD (.ty "tuple")))]))) (mNot (mTb (mChain gLe gLe (.e (mD (.int 2))) (.e (mC gLen [(.v 2)])) (.e (mD (.int 6))))))) (mRaise "BadQuery" "reason" (mD (.str (lit "expected a tuple of two to six words"))))
    mPass)
    (mSeq (mFor (mIt (mV 2)) (tgV 4) f1_iPhrase)
    (mSeq (mIfS (mNot (mTb (mCall m_is_integer [(mV 3), (mD (.int 0)), (mD (.int 20))] []))) (mRaise "BadQuery" "reason" (mD (.str (lit "the distance is not an integer from 0 to 20"))))
    mPass)
    (mSeq (mSuper "Phrase" m_iQuery [(mTup []), (mTup [(mV 1), (mV 2), (mV 3)]), (mCall m_phrase_text [(mV 1), (mV 2), (mV 3)] [])])
    (mSeq (mStF at_ "field" (.v 0) (mV 1))
    (mSeq (mStF at_ "words" (.v 0) (mV 2))
    (mStF at_ "distance" (.v 0) (mV 3))))))))) δ μ
noncomputable def m_iPhrase : MF := mFn 5 b_iPhrase
theorem g_iPhrase {tb : Nat → Addr} {P : Program} {w : World} {K : PySem.W.Frag} {mg : Str → Option Value} {base : Heap} {kV : Value} {fd : FuncData} (F : FdK K "__init__" "Phrase.__init__" (clsDef 1 (tp 54)) (fAdF K (pM "Phrase" "__init__")) kV (codeAd K (pM "Phrase" "__init__")) (ccAd K (pM "Phrase" "__init__")) fd) (T : Txt tb P w K mg base) : FnG P w K mg base (L2.CX P w) (4 + 1) (fAdF K (pM "Phrase" "__init__")) fd ["self", "field", "words", "distance"] (spM K mg (mFn 5 b_iPhrase) 4) := by
  refine fnG_cs (N := ["self", "field", "words", "distance", "word"]) (sc := sc_iPhrase) (F.fc T.ce_iPhrase) scf_iPhrase (by kernel_rfl) rfl ?_
  intro X W hP hw hK hM hB C ST
  subst hP hw hK hM hB
  exact (jwb_cons (jws_of (js_expr (je_call C.toCs (ok_need_field T) (by decide +kernel) (by decide +kernel) (ja_cons (C.v (by decide +kernel)) ja_nil) rfl)))
    (jwb_cons (jws_of (js_if (jt_w (jw_or (jt_not (jt_e (C.bi (by decide +kernel) T.n_isinstance (by decide +kernel) call_isi j_isi (jos_cons (C.ov (by decide +kernel)) (jos_cons (jo_e (C.ty (by decide +kernel) T.n_tuple (by decide +kernel))) jos_nil))))) (jw_or1 (jt_not (chainT o_le j_le o_le j_le (jo_e (C.gInt (by decide +kernel) T.c_LEAST_WORDS)) (jo_e (C.bi (by decide +kernel) T.n_len PySem.boot_len o_len j_len (jos_cons (C.ov (by decide +kernel)) jos_nil))) (jo_e (C.gInt (by decide +kernel) T.c_MOST_WORDS))))))) (jss_one (js_raise C.toCs T.x_BadQuery (by decide) (by decide +kernel) je_str))
    jss_nil))
    (jwb_cons (jws_of (js_for C.hp C.calm (ji_any (C.v (by decide +kernel))) (C.tg (by decide +kernel)) (jss_one (js_expr (je_call C.toCs (ok_need_word T) (by decide +kernel) (by decide +kernel) (ja_cons (C.v (by decide +kernel)) ja_nil) rfl)))))
    (jwb_cons (jws_of (js_if (jt_not (jt_e (je_call C.toCs (ok_is_integer T) (by decide +kernel) (by decide +kernel) (ja_cons (C.v (by decide +kernel)) (ja_cons je_int (ja_cons (C.gInt (by decide +kernel) T.c_MAX_DISTANCE) ja_nil))) rfl))) (jss_one (js_raise C.toCs T.x_BadQuery (by decide) (by decide +kernel) je_str))
    jss_nil))
    (jwb_cons (jws_super C (ST _ T.s_iPhrase) (SupR.ok (su_Phrase T)) (by decide) (ja_cons (je_tup ja_nil) (ja_cons (je_tup (ja_cons (C.v (by decide +kernel)) (ja_cons (C.v (by decide +kernel)) (ja_cons (C.v (by decide +kernel)) ja_nil)))) (ja_cons (je_call C.toCs (ok_phrase_text T) (by decide +kernel) (by decide +kernel) (ja_cons (C.v (by decide +kernel)) (ja_cons (C.v (by decide +kernel)) (ja_cons (C.v (by decide +kernel)) ja_nil))) rfl) ja_nil))) rfl (by decide +kernel) rfl rfl rfl rfl)
    (jwb_of (jss_cons (js_stF T.atts (C.ov (by decide +kernel)) (C.v (by decide +kernel)))
    (jss_cons (js_stF T.atts (C.ov (by decide +kernel)) (C.v (by decide +kernel)))
    (jss_one (js_stF T.atts (C.ov (by decide +kernel)) (C.v (by decide +kernel))))))))))))

theorem cl_Phrase_2_distance {tb : Nat → Addr} {P : Program} {w : World} {K : PySem.W.Frag} {mg : Str → Option Value} {base : Heap} (T : Txt tb P w K mg base) : ClW P w K mg base 5 "Phrase" 2 ["distance"] [.pos 0, .pos 1, .key 0] m_iPhrase 3 [] := by
  obtain ⟨fd, F⟩ := T.f_iPhrase
  exact clW_of T.c_Phrase T.mk_Phrase (g_iPhrase F T) (F.bind1 fun _ _ _ _ _ _ s x us ws _ h1 h2 => match us, ws, h1, h2 with | [_, _], [_], _, _ => .of_eq (by kernel_rfl)) .nil (fun _ _ => .nil) rfl rfl

theorem cl_Phrase_0_distance_words_field {tb : Nat → Addr} {P : Program} {w : World} {K : PySem.W.Frag} {mg : Str → Option Value} {base : Heap} (T : Txt tb P w K mg base) : ClW P w K mg base 5 "Phrase" 0 ["distance", "words", "field"] [.key 2, .key 1, .key 0] m_iPhrase 3 [] := by
  obtain ⟨fd, F⟩ := T.f_iPhrase
  exact clW_of T.c_Phrase T.mk_Phrase (g_iPhrase F T) (F.bind1 fun _ _ _ _ _ _ s x us ws _ h1 h2 => match us, ws, h1, h2 with | [], [_, _, _], _, _ => .of_eq (by kernel_rfl)) .nil (fun _ _ => .nil) rfl rfl

/-! Query_parts -/
def sc_Query_parts : Scope := { kind := .function, names := [("self", .local)], isGenerator := false, isCoroutine := false, more := [] }
theorem scf_Query_parts : FnScope ["self"] ["self"] sc_Query_parts := ⟨rfl, rfl, rfl, by decide +kernel, rfl, by decide +kernel, by decide +kernel⟩
noncomputable def b_Query_parts (δ : FL.Loc) (μ : Mem) : OutS := (mRet (mAt at_ "own_parts" (.v 0))) δ μ
noncomputable def m_Query_parts : MF := mFn 1 b_Query_parts
theorem g_Query_parts {tb : Nat → Addr} {P : Program} {w : World} {K : PySem.W.Frag} {mg : Str → Option Value} {base : Heap} {fd : FuncData} (F : Fd K "parts" "Query.parts" (clsDef 2 (tp 46)) (fAdF K (pM "Query" "parts")) fd .none) (T : Txt tb P w K mg base) : FnG P w K mg base (L2.CX P w) (0 + 1) (fAdF K (pM "Query" "parts")) fd ["self"] (spM K mg (mFn 1 b_Query_parts) 1) := by
  refine fnG_s (N := ["self"]) (sc := sc_Query_parts) F scf_Query_parts (by kernel_rfl) rfl ?_
  intro X W hP hw hK hM hB C
  subst hP hw hK hM hB
  exact (jss_one (js_ret (je_at T.atts (C.ov (by decide +kernel)))))
theorem bd_Query_parts {K : PySem.W.Frag} {fd : FuncData} (F : Fd K "parts" "Query.parts" (clsDef 2 (tp 46)) (fAdF K (pM "Query" "parts")) fd .none) : Binds K fd ["self"] [] :=
  F.binds fun _ _ _ _ _ _ us hl => match us, hl with | [_], _ => by kernel_rfl

noncomputable def gm_parts : String → String → Option MF := fun b f => if b = "Query" ∧ f = "parts" then some m_Query_parts else none
noncomputable def pt_parts : String → String → Option MF := prpM prps gm_parts
theorem pr_parts {tb : Nat → Addr} {P : Program} {w : World} {K : PySem.W.Frag} {mg : Str → Option Value} {base : Heap} (T : Txt tb P w K mg base) : PropR P w K mg base 1 pt_parts := propR_of T.prp fun b f m h => by
  unfold gm_parts at h
  by_cases hc : b = "Query" ∧ f = "parts"
  · obtain ⟨rfl, rfl⟩ := hc
    rw [if_pos ⟨rfl, rfl⟩] at h
    cases h
    obtain ⟨fd, F⟩ := T.f_Query_parts
    exact ⟨fd, _, g_Query_parts F T, bd_Query_parts F⟩
  · rw [if_neg hc] at h
    cases h

/-! Query_size -/
def sc_Query_size : Scope := { kind := .function, names := [("self", .local)], isGenerator := false, isCoroutine := false, more := [] }
theorem scf_Query_size : FnScope ["self"] ["self"] sc_Query_size := ⟨rfl, rfl, rfl, by decide +kernel, rfl, by decide +kernel, by decide +kernel⟩
noncomputable def b_Query_size (δ : FL.Loc) (μ : Mem) : OutS := (mRet (mAt at_ "own_size" (.v 0))) δ μ
noncomputable def m_Query_size : MF := mFn 1 b_Query_size
theorem g_Query_size {tb : Nat → Addr} {P : Program} {w : World} {K : PySem.W.Frag} {mg : Str → Option Value} {base : Heap} {fd : FuncData} (F : Fd K "size" "Query.size" (clsDef 3 (tp 46)) (fAdF K (pM "Query" "size")) fd .none) (T : Txt tb P w K mg base) : FnG P w K mg base (L2.CX P w) (0 + 1) (fAdF K (pM "Query" "size")) fd ["self"] (spM K mg (mFn 1 b_Query_size) 1) := by
  refine fnG_s (N := ["self"]) (sc := sc_Query_size) F scf_Query_size (by kernel_rfl) rfl ?_
  intro X W hP hw hK hM hB C
  subst hP hw hK hM hB
  exact (jss_one (js_ret (je_at T.atts (C.ov (by decide +kernel)))))
theorem bd_Query_size {K : PySem.W.Frag} {fd : FuncData} (F : Fd K "size" "Query.size" (clsDef 3 (tp 46)) (fAdF K (pM "Query" "size")) fd .none) : Binds K fd ["self"] [] :=
  F.binds fun _ _ _ _ _ _ us hl => match us, hl with | [_], _ => by kernel_rfl

noncomputable def gm_size : String → String → Option MF := fun b f => if b = "Query" ∧ f = "size" then some m_Query_size else none
noncomputable def pt_size : String → String → Option MF := prpM prps gm_size
theorem pr_size {tb : Nat → Addr} {P : Program} {w : World} {K : PySem.W.Frag} {mg : Str → Option Value} {base : Heap} (T : Txt tb P w K mg base) : PropR P w K mg base 1 pt_size := propR_of T.prp fun b f m h => by
  unfold gm_size at h
  by_cases hc : b = "Query" ∧ f = "size"
  · obtain ⟨rfl, rfl⟩ := hc
    rw [if_pos ⟨rfl, rfl⟩] at h
    cases h
    obtain ⟨fd, F⟩ := T.f_Query_size
    exact ⟨fd, _, g_Query_size F T, bd_Query_size F⟩
  · rw [if_neg hc] at h
    cases h

/-! Query_levels -/
def sc_Query_levels : Scope := { kind := .function, names := [("self", .local)], isGenerator := false, isCoroutine := false, more := [] }
theorem scf_Query_levels : FnScope ["self"] ["self"] sc_Query_levels := ⟨rfl, rfl, rfl, by decide +kernel, rfl, by decide +kernel, by decide +kernel⟩
noncomputable def b_Query_levels (δ : FL.Loc) (μ : Mem) : OutS := (mRet (mAt at_ "own_levels" (.v 0))) δ μ
noncomputable def m_Query_levels : MF := mFn 1 b_Query_levels
theorem g_Query_levels {tb : Nat → Addr} {P : Program} {w : World} {K : PySem.W.Frag} {mg : Str → Option Value} {base : Heap} {fd : FuncData} (F : Fd K "levels" "Query.levels" (clsDef 4 (tp 46)) (fAdF K (pM "Query" "levels")) fd .none) (T : Txt tb P w K mg base) : FnG P w K mg base (L2.CX P w) (0 + 1) (fAdF K (pM "Query" "levels")) fd ["self"] (spM K mg (mFn 1 b_Query_levels) 1) := by
  refine fnG_s (N := ["self"]) (sc := sc_Query_levels) F scf_Query_levels (by kernel_rfl) rfl ?_
  intro X W hP hw hK hM hB C
  subst hP hw hK hM hB
  exact (jss_one (js_ret (je_at T.atts (C.ov (by decide +kernel)))))
theorem bd_Query_levels {K : PySem.W.Frag} {fd : FuncData} (F : Fd K "levels" "Query.levels" (clsDef 4 (tp 46)) (fAdF K (pM "Query" "levels")) fd .none) : Binds K fd ["self"] [] :=
  F.binds fun _ _ _ _ _ _ us hl => match us, hl with | [_], _ => by kernel_rfl

noncomputable def gm_levels : String → String → Option MF := fun b f => if b = "Query" ∧ f = "levels" then some m_Query_levels else none
noncomputable def pt_levels : String → String → Option MF := prpM prps gm_levels
theorem pr_levels {tb : Nat → Addr} {P : Program} {w : World} {K : PySem.W.Frag} {mg : Str → Option Value} {base : Heap} (T : Txt tb P w K mg base) : PropR P w K mg base 1 pt_levels := propR_of T.prp fun b f m h => by
  unfold gm_levels at h
  by_cases hc : b = "Query" ∧ f = "levels"
  · obtain ⟨rfl, rfl⟩ := hc
    rw [if_pos ⟨rfl, rfl⟩] at h
    cases h
    obtain ⟨fd, F⟩ := T.f_Query_levels
    exact ⟨fd, _, g_Query_levels F T, bd_Query_levels F⟩
  · rw [if_neg hc] at h
    cases h

/-! _law_phrase_right -/
def sc__law_phrase_right : Scope := { kind := .function, names := [("_law_some", .cell), ("_law_gap", .cell), ("_law_is_good", .local), ("_law_is_near", .local), ("_law_one", .local), ("_law_told", .local), ("isinstance", .globalImplicit), ("tuple", .globalImplicit), ("len", .globalImplicit), ("int", .globalImplicit), ("bool", .globalImplicit), ("_law_refused", .globalImplicit), ("Phrase", .globalImplicit), ("repr", .globalImplicit)], isGenerator := false, isCoroutine := false, more := [("fast", .str "_law_some"), ("fast", .str "_law_gap"), ("fast", .str "_law_x"), ("fast", .str "_law_is_good"), ("fast", .str "_law_is_near"), ("fast", .str "_law_one"), ("fast", .str "_law_told")] }
theorem scf__law_phrase_right : FnScope ["_law_some", "_law_gap", "_law_is_good", "_law_is_near", "_law_one", "_law_told", "_law_x"] ["_law_some", "_law_gap"] sc__law_phrase_right := ⟨rfl, rfl, rfl, by decide +kernel, rfl, by decide +kernel, by decide +kernel⟩
noncomputable def t1__law_phrase_right (tb : Nat → Addr) (δ : FL.Loc) (μ : Mem) : Out Bool := (mNot (mTb (mCall m__law_is_word [(mV 6)] []))) δ μ
noncomputable def e2__law_phrase_right (tb : Nat → Addr) (δ : FL.Loc) (μ : Mem) : Out FL.Slot := (mV 6) δ μ
noncomputable def f3__law_phrase_right (tb : Nat → Addr) (δ : FL.Loc) (μ : Mem) : OutS := (mSeq (mSet 5 (mLst [(mAt at_ "field" (.v 4)), (mAt at_ "words" (.v 4)), (mAt at_ "distance" (.v 4)), (mProp pt_parts "parts" (.v 4)), (mProp pt_size "size" (.v 4)), (mProp pt_levels "levels" (.v 4))]))
    (mIfS (mTb (m2 (gEq true) (.e (mC gRepr [(.v 5)])) (.e (mC gRepr [(.e (mLst [(mD (.str (lit "t"))), (mV 0), (mV 1), (mTup []), (mD (.int 1)), (mD (.int 0))]))])))) (mRet (mD (.bl false)))
    mPass)) δ μ
noncomputable def b__law_phrase_right (tb : Nat → Addr) (δ : FL.Loc) (μ : Mem) : OutS := (mSeq (mSet 2 (mAndV (mC gIsi [(.v 0), (.e (mD (.ty "tuple")))]) (mAndV (mChain gLe gLe (.e (mD (.int 2))) (.e (mC gLen [(.v 0)])) (.e (mD (.int 6)))) (m2 (gEq false) (.e (mLc (mIt (mV 0)) (tgV 6) (t1__law_phrase_right tb) (e2__law_phrase_right tb) [6])) (.e (mLst []))))))
    (mSeq (mSet 3 (mAndV (mC gIsi [(.v 1), (.e (mD (.ty "int")))]) (mAndV (mNotV (mC gIsi [(.v 1), (.e (mD (.ty "bool")))])) (mChain gLe gLe (.e (mD (.int 0))) (.v 1) (.e (mD (.int 20)))))))
    (mSeq (mIfS (mOr (mNot (mTb (mV 2))) (mNot (mTb (mV 3)))) (mRet (mLam m__law_refused 0 (tb 0) "_law_phrase_right.<locals>.<lambda>" (mCallK (mkF "Phrase" m_iPhrase) [.pos 0, .pos 1, .key 0] [(mD (.str (lit "t"))), (mV 0)] [(mV 1)] [])))
    mPass)
    (mSeq (mFor (mIt (mTup [(mCallK (mkF "Phrase" m_iPhrase) [.pos 0, .pos 1, .key 0] [(mD (.str (lit "t"))), (mV 0)] [(mV 1)] []), (mCallK (mkF "Phrase" m_iPhrase) [.key 2, .key 1, .key 0] [] [(mV 1), (mV 0), (mD (.str (lit "t")))] [])])) (tgV 4) (f3__law_phrase_right tb))
    (mRet (mD (.bl true))))))) δ μ
noncomputable def m__law_phrase_right (tb : Nat → Addr) : MF := mFn 7 (b__law_phrase_right tb)
theorem g__law_phrase_right {tb : Nat → Addr} {P : Program} {w : World} {K : PySem.W.Frag} {mg : Str → Option Value} {base : Heap} {f c : Addr} {fd : FuncData} (F : FdL K "_law_phrase_right" "_law_phrase_right" (tp 70) f fd .none c) (TB : TabB base mg c (tb 0)) (T : Txt tb P w K mg base) : FnG P w K mg base (L2.CX P w) (8 + 1) f fd ["_law_some", "_law_gap"] (spM K mg (mFn 7 (b__law_phrase_right tb)) 2) := by
  refine fnG_l (N := ["_law_some", "_law_gap", "_law_is_good", "_law_is_near", "_law_one", "_law_told", "_law_x"]) (sc := sc__law_phrase_right) (q := "_law_phrase_right.<locals>.<lambda>") F TB scf__law_phrase_right (by kernel_rfl) rfl (fun _ => by kernel_rfl) ?_
  intro X W hP hw hK hM hB C
  subst hP hw hK hM hB
  exact (jss_cons (C.set (by decide +kernel) (je_and (C.bi (by decide +kernel) T.n_isinstance (by decide +kernel) call_isi j_isi (jos_cons (C.ov (by decide +kernel)) (jos_cons (jo_e (C.ty (by decide +kernel) T.n_tuple (by decide +kernel))) jos_nil))) (je_and (chain_ o_le j_le o_le j_le (jo_e je_int) (jo_e (C.bi (by decide +kernel) T.n_len PySem.boot_len o_len j_len (jos_cons (C.ov (by decide +kernel)) jos_nil))) (jo_e je_int)) (je_one (C.eq (jo_e (Cs.lc (Tx := Txt tb) C.toCs T [("_law_x", 6)] (ji_any (C.v (by decide +kernel))) (by decide +kernel) (fun Y T1 C1 => ⟨(C1.tg (by decide +kernel)), (jts_one (jt_not (jt_e (je_call C1 (ok__law_is_word T1) (by decide +kernel) (by decide +kernel) (ja_cons (C1.v (by decide +kernel)) ja_nil) rfl)))), (C1.v (by decide +kernel))⟩) (by rfl))) (jo_e (je_lst ja_nil)))))))
    (jss_cons (C.set (by decide +kernel) (je_and (C.bi (by decide +kernel) T.n_isinstance (by decide +kernel) call_isi j_isi (jos_cons (C.ov (by decide +kernel)) (jos_cons (jo_e (C.ty (by decide +kernel) T.n_int (by decide +kernel))) jos_nil))) (je_and (je_not (C.bi (by decide +kernel) T.n_isinstance (by decide +kernel) call_isi j_isi (jos_cons (C.ov (by decide +kernel)) (jos_cons (jo_e (C.ty (by decide +kernel) T.n_bool (by decide +kernel))) jos_nil)))) (je_one (chain_ o_le j_le o_le j_le (jo_e je_int) (C.ov (by decide +kernel)) (jo_e je_int))))))
    (jss_cons (js_if (jt_w (jw_or (jt_not (jt_e (C.v (by decide +kernel)))) (jw_or1 (jt_not (jt_e (C.v (by decide +kernel))))))) (jss_one (js_ret (C.lam0 (kh := 6) (ok__law_refused T) (by decide) (by decide +kernel) (by decide +kernel) (C.body (Tx := (Txt tb)) T (fun Y V TL CL => (clF CL (cl_Phrase_2_distance TL) (by decide) (by decide +kernel) (ja_cons je_str (ja_cons (CL.v (by decide +kernel)) ja_nil)) (jk_cons (CL.v (by decide +kernel)) jk_nil) rfl rfl))))))
    jss_nil)
    (jss_cons (js_for C.hp C.calm (ji_any (je_tup (ja_cons (clF C.toCs (cl_Phrase_2_distance T) (by decide) (by decide +kernel) (ja_cons je_str (ja_cons (C.v (by decide +kernel)) ja_nil)) (jk_cons (C.v (by decide +kernel)) jk_nil) rfl rfl) (ja_cons (clF0 C.toCs (cl_Phrase_0_distance_words_field T) (by decide) (by decide +kernel) (jk_cons (C.v (by decide +kernel)) (jk_cons (C.v (by decide +kernel)) (jk_cons je_str jk_nil))) rfl) ja_nil)))) (C.tg (by decide +kernel)) (jss_cons (C.set (by decide +kernel) (je_lst (ja_cons (je_at T.atts (C.ov (by decide +kernel))) (ja_cons (je_at T.atts (C.ov (by decide +kernel))) (ja_cons (je_at T.atts (C.ov (by decide +kernel))) (ja_cons (C.toCs.prop (PropR.ok (pr_parts T)) (by decide) (C.ov (by decide +kernel))) (ja_cons (C.toCs.prop (PropR.ok (pr_size T)) (by decide) (C.ov (by decide +kernel))) (ja_cons (C.toCs.prop (PropR.ok (pr_levels T)) (by decide) (C.ov (by decide +kernel))) ja_nil))))))))
    (jss_one (js_if (C.neT (jo_e (C.bi (by decide +kernel) T.n_repr (by decide +kernel) (o_repr C.hg C.hu70) j_repr (jos_cons (C.ov (by decide +kernel)) jos_nil))) (jo_e (C.bi (by decide +kernel) T.n_repr (by decide +kernel) (o_repr C.hg C.hu70) j_repr (jos_cons (jo_e (je_lst (ja_cons je_str (ja_cons (C.v (by decide +kernel)) (ja_cons (C.v (by decide +kernel)) (ja_cons (je_tup ja_nil) (ja_cons je_int (ja_cons je_int ja_nil)))))))) jos_nil)))) (jss_one (js_ret je_bl))
    jss_nil))))
    (jss_one (js_ret je_bl))))))
theorem bd__law_phrase_right {K : PySem.W.Frag} {f : Addr} {fd : FuncData} (F : Fd K "_law_phrase_right" "_law_phrase_right" (tp 70) f fd .none) : Binds K fd ["_law_some", "_law_gap"] [] :=
  F.binds fun _ _ _ _ _ _ us hl => match us, hl with | [_, _], _ => by kernel_rfl
theorem ok__law_phrase_right {tb : Nat → Addr} {P : Program} {w : World} {K : PySem.W.Frag} {mg : Str → Option Value} {base : Heap} (T : Txt tb P w K mg base) : Fu P w K mg base 9 "_law_phrase_right" (m__law_phrase_right tb) 2 [] := by
  obtain ⟨c, f, fd, F, TB, hm, hk⟩ := T.d__law_phrase_right
  exact Fu.mk0 (g__law_phrase_right F TB T) hm hk (bd__law_phrase_right F.fd)

theorem cl_Phrase_2 {tb : Nat → Addr} {P : Program} {w : World} {K : PySem.W.Frag} {mg : Str → Option Value} {base : Heap} (T : Txt tb P w K mg base) : ClW P w K mg base 5 "Phrase" 2 [] [.pos 0, .pos 1, .dfl 0] m_iPhrase 3 [.int 0] := by
  obtain ⟨fd, F⟩ := T.f_iPhrase
  obtain ⟨Dk, t, e, hq⟩ := T.kw_Phrase_distance
  rw [e] at F
  exact clW_of (ds := [.int 0 t]) (dvs := [.int 0]) T.c_Phrase T.mk_Phrase (g_iPhrase F T) (F.bind1 fun _ _ _ _ _ _ s x us ws X h1 h2 => match us, ws, h1, h2 with | [_, _], [], _, _ => L2.BindsTo.of_looks fun M => L2.KwChain.looks X (D := Dk) (l := [(("distance" : Str), .int 0 t)]) (fun q hm => by rw [List.mem_singleton.mp hm]; exact hq) ⟨_, _, _, _, _, _, rfl, rfl, rfl⟩) (.cons ⟨t, rfl⟩ .nil) (fun _ _ => .cons .int .nil) rfl rfl

/-! law -/
def sc_law : Scope := { kind := .function, names := [("_law_script", .cell), ("_law_good", .cell), ("_law_odd", .local), ("_law_gaps", .local), ("_law_source_here", .cell), ("_law_turn", .local), ("_law_some", .local), ("_law_at", .local), ("range", .globalImplicit), ("max", .globalImplicit), ("min", .globalImplicit), ("len", .globalImplicit), ("tuple", .globalImplicit), ("_law_next", .globalImplicit), ("_law_pick", .globalImplicit), ("list", .globalImplicit), ("_law_phrase_right", .globalImplicit), ("Phrase", .globalImplicit)], isGenerator := false, isCoroutine := false, more := [("fast", .str "_law_script"), ("fast", .str "_law_good"), ("fast", .str "_law_odd"), ("fast", .str "_law_gaps"), ("fast", .str "_law_k"), ("fast", .str "_law_source_here"), ("fast", .str "_law_turn"), ("fast", .str "_law_x"), ("fast", .str "_law_some"), ("fast", .str "_law_at")] }
theorem scf_law : FnScope ["_law_script", "_law_good", "_law_odd", "_law_gaps", "_law_source_here", "_law_turn", "_law_some", "_law_at", "_law_k", "_law_x"] ["_law_script"] sc_law := ⟨rfl, rfl, rfl, by decide +kernel, rfl, by decide +kernel, by decide +kernel⟩
noncomputable def e1_law (tb : Nat → Addr) (δ : FL.Loc) (μ : Mem) : Out FL.Slot := (mCall m__law_source [(mV 0), (mV 8)] []) δ μ
noncomputable def e2_law (tb : Nat → Addr) (δ : FL.Loc) (μ : Mem) : Out FL.Slot := (mCall m__law_pick [(mV 4), (mV 1)] []) δ μ
noncomputable def f3_law (tb : Nat → Addr) (δ : FL.Loc) (μ : Mem) : OutS := (mSeq (mSet 6 (mC gTuple [(.e (mLc (mRange1 (.e (mCall m__law_next [(mV 4), (mD (.int 8))] []))) (tgV 9) mYes (e2_law tb) [9]))]))
    (mSeq (mIfS (mAnd (mTb (m2 (gEq true) (.v 6) (.e (mTup [])))) (mTb (m2 (gEq false) (.e (mCall m__law_next [(mV 4), (mD (.int 4))] [])) (.e (mD (.int 0)))))) (mSeq (mSet 7 (mCall m__law_next [(mV 4), (mC gLen [(.v 6)])] []))
    (mSet 6 (m2 gAdd (.e (m2 gAdd (.e (mSl gSl (.v 6) mNoP (mP (mV 7)))) (.e (mTup [(mCall m__law_pick [(mV 4), (mV 2)] [])])))) (.e (mSl gSl (.v 6) (mP (m2 gAdd (.v 7) (.e (mD (.int 1))))) mNoP)))))
    mPass)
    (mSeq (mIfS (mTb (m2 (gEq false) (.e (mCall m__law_next [(mV 4), (mD (.int 6))] [])) (.e (mD (.int 0))))) (mSet 6 (mCall m__law_pick [(mV 4), (mLst [(mC gList [(.v 6)]), (mD .non), (mD (.str (lit "a b"))), (mD (.int 5)), mDct0, (mD (.str (lit "ab")))])] []))
    mPass)
    (mIfS (mNot (mTb (mCall (m__law_phrase_right tb) [(mV 6), (mCall m__law_pick [(mV 4), (mV 3)] [])] []))) (mRet (mD (.bl false)))
    mPass)))) δ μ
noncomputable def f4_law (tb : Nat → Addr) (δ : FL.Loc) (μ : Mem) : OutS := (mFor (mRange1 (.e (mD (.int 8)))) (tgV 5) (f3_law tb)) δ μ
noncomputable def b_law (tb : Nat → Addr) (δ : FL.Loc) (μ : Mem) : OutS := (mSeq (mPar 1 2 (mLst [(mD (.str (lit "a"))), (mD (.str (lit "b"))), (mD (.str (lit "7"))), (m2 gMulB (.e (mD (.str (lit "x")))) (.e (mD (.int 20)))), (mD (.str (lit "a")))]) (mLst [(mD (.str (lit ""))), (mD (.str (lit "A"))), (m2 gMulB (.e (mD (.str (lit "x")))) (.e (mD (.int 21)))), (mD (.str (lit "a b"))), (mD .non), (mD (.int 7)), (mTup [(mD (.str (lit "a")))]), (mD (.str (lit "a-")))]))
    (mSeq (mSet 3 (mLst [(mD (.int 0)), (mD (.int 1)), (mD (.int 20)), (mD (.int 5)), (mD (.int 21)), (m2 gSub (.e (mD (.int 0))) (.e (mD (.int 1)))), (mD .non), (mD (.bl true)), (mD (.str (lit "1"))), (m2 gPow (.e (mD (.int 10))) (.e (mD (.int 30)))), (mTup [(mD (.int 1))])]))
    (mSeq (mFor (mIt (mLc (mRange1 (.e (mC gMax2 [(.e (mD (.int 1))), (.e (mC gMin2 [(.e (mD (.int 3))), (.e (mC gLen [(.v 0)]))]))]))) (tgV 8) mYes (e1_law tb) [8])) (tgV 4) (f4_law tb))
    (mRet (mAndV (m2 (gEq false) (.e (mAt at_ "distance" (.e (mCallK (mkF "Phrase" m_iPhrase) [.pos 0, .pos 1, .dfl 0] [(mD (.str (lit "t"))), (mTup [(mD (.str (lit "a"))), (mD (.str (lit "b")))])] [] [.int 0])))) (.e (mD (.int 0)))) (m2 (gEq false) (.e (mAt at_ "words" (.e (mCallK (mkF "Phrase" m_iPhrase) [.pos 0, .pos 1, .dfl 0] [(mD (.str (lit "t"))), (mTup [(mD (.str (lit "a"))), (mD (.str (lit "a")))])] [] [.int 0])))) (.e (mTup [(mD (.str (lit "a"))), (mD (.str (lit "a")))])))))))) δ μ
noncomputable def m_law (tb : Nat → Addr) : MF := mFn 10 (b_law tb)
theorem g_law {tb : Nat → Addr} {P : Program} {w : World} {K : PySem.W.Frag} {mg : Str → Option Value} {base : Heap} {f : Addr} {fd : FuncData} (F : Fd K "law" "law" (tp 71) f fd .none) (T : Txt tb P w K mg base) : FnG P w K mg base (L2.CX P w) (9 + 1) f fd ["_law_script"] (spM K mg (mFn 10 (b_law tb)) 1) := by
  refine fnG_s (N := ["_law_script", "_law_good", "_law_odd", "_law_gaps", "_law_source_here", "_law_turn", "_law_some", "_law_at", "_law_k", "_law_x"]) (sc := sc_law) F scf_law (by kernel_rfl) rfl ?_
  intro X W hP hw hK hM hB C
  subst hP hw hK hM hB
  exact (jss_cons (C.parT (by decide +kernel) (by decide +kernel) (je_lst (ja_cons je_str (ja_cons je_str (ja_cons je_str (ja_cons (mulB_ (jo_e je_str) (jo_e je_int)) (ja_cons je_str ja_nil)))))) (je_lst (ja_cons je_str (ja_cons je_str (ja_cons (mulB_ (jo_e je_str) (jo_e je_int)) (ja_cons je_str (ja_cons je_non (ja_cons je_int (ja_cons (je_tup (ja_cons je_str ja_nil)) (ja_cons je_str ja_nil))))))))) (by intro env he; simp only [swappedStores, Env.blockKind, Env.kindOf, he]; rfl))
    (jss_cons (C.set (by decide +kernel) (je_lst (ja_cons je_int (ja_cons je_int (ja_cons je_int (ja_cons je_int (ja_cons je_int (ja_cons (sub_ (jo_e je_int) (jo_e je_int)) (ja_cons je_non (ja_cons je_bl (ja_cons je_str (ja_cons (pow_ (jo_e je_int) (jo_e je_int)) (ja_cons (je_tup (ja_cons je_int ja_nil)) ja_nil)))))))))))))
    (jss_cons (js_for C.hp C.calm (ji_any (Cs.lc (Tx := Txt tb) C.toCs T [("_law_k", 8)] (range1_ C.toCs (by decide +kernel) T.n_range (jos_cons (jo_e (C.bi (by decide +kernel) T.n_max (by decide +kernel) (call_max2 C.calm) j_max2 (jos_cons (jo_e je_int) (jos_cons (jo_e (C.bi (by decide +kernel) T.n_min (by decide +kernel) (call_min2 C.calm) j_min2 (jos_cons (jo_e je_int) (jos_cons (jo_e (C.bi (by decide +kernel) T.n_len PySem.boot_len o_len j_len (jos_cons (C.ov (by decide +kernel)) jos_nil))) jos_nil)))) jos_nil)))) jos_nil)) (by decide +kernel) (fun Y T1 C1 => ⟨(C1.tg (by decide +kernel)), jts_nil, (je_call C1 (ok__law_source T1) (by decide +kernel) (by decide +kernel) (ja_cons (C1.v (by decide +kernel)) (ja_cons (C1.v (by decide +kernel)) ja_nil)) rfl)⟩) (by rfl))) (C.tg (by decide +kernel)) (jss_one (js_for C.hp C.calm (range1_ C.toCs (by decide +kernel) T.n_range (jos_cons (jo_e je_int) jos_nil)) (C.tg (by decide +kernel)) (jss_cons (C.set (by decide +kernel) (C.bt (by decide +kernel) T.n_tuple (by decide +kernel) o_tuple j_tuple (jos_cons (jo_e (Cs.lc (Tx := Txt tb) C.toCs T [("_law_x", 9)] (range1_ C.toCs (by decide +kernel) T.n_range (jos_cons (jo_e (je_call C.toCs (ok__law_next T) (by decide +kernel) (by decide +kernel) (ja_cons (C.v (by decide +kernel)) (ja_cons je_int ja_nil)) rfl)) jos_nil)) (by decide +kernel) (fun Y T1 C1 => ⟨(C1.tg (by decide +kernel)), jts_nil, (je_call C1 (ok__law_pick T1) (by decide +kernel) (by decide +kernel) (ja_cons (C1.v (by decide +kernel)) (ja_cons (C1.v (by decide +kernel)) ja_nil)) rfl)⟩) (by rfl))) jos_nil)))
    (jss_cons (js_if (jt_w (jw_and (C.neT (C.ov (by decide +kernel)) (jo_e (je_tup ja_nil))) (jw_and1 (C.eqT (jo_e (je_call C.toCs (ok__law_next T) (by decide +kernel) (by decide +kernel) (ja_cons (C.v (by decide +kernel)) (ja_cons je_int ja_nil)) rfl)) (jo_e je_int))))) (jss_cons (C.set (by decide +kernel) (je_call C.toCs (ok__law_next T) (by decide +kernel) (by decide +kernel) (ja_cons (C.v (by decide +kernel)) (ja_cons (C.bi (by decide +kernel) T.n_len PySem.boot_len o_len j_len (jos_cons (C.ov (by decide +kernel)) jos_nil)) ja_nil)) rfl))
    (jss_one (C.set (by decide +kernel) (add_ (jo_e (add_ (jo_e (slice_ (C.ov (by decide +kernel)) jp_none (jp_some (C.v (by decide +kernel))))) (jo_e (je_tup (ja_cons (je_call C.toCs (ok__law_pick T) (by decide +kernel) (by decide +kernel) (ja_cons (C.v (by decide +kernel)) (ja_cons (C.v (by decide +kernel)) ja_nil)) rfl) ja_nil))))) (jo_e (slice_ (C.ov (by decide +kernel)) (jp_some (add_ (C.ov (by decide +kernel)) (jo_e je_int))) jp_none))))))
    jss_nil)
    (jss_cons (js_if (C.eqT (jo_e (je_call C.toCs (ok__law_next T) (by decide +kernel) (by decide +kernel) (ja_cons (C.v (by decide +kernel)) (ja_cons je_int ja_nil)) rfl)) (jo_e je_int)) (jss_one (C.set (by decide +kernel) (je_call C.toCs (ok__law_pick T) (by decide +kernel) (by decide +kernel) (ja_cons (C.v (by decide +kernel)) (ja_cons (je_lst (ja_cons (C.bt (by decide +kernel) T.n_list (by decide +kernel) o_list j_list (jos_cons (C.ov (by decide +kernel)) jos_nil)) (ja_cons je_non (ja_cons je_str (ja_cons je_int (ja_cons je_dict0 (ja_cons je_str ja_nil))))))) ja_nil)) rfl)))
    jss_nil)
    (jss_one (js_if (jt_not (jt_e (je_call C.toCs (ok__law_phrase_right T) (by decide +kernel) (by decide +kernel) (ja_cons (C.v (by decide +kernel)) (ja_cons (je_call C.toCs (ok__law_pick T) (by decide +kernel) (by decide +kernel) (ja_cons (C.v (by decide +kernel)) (ja_cons (C.v (by decide +kernel)) ja_nil)) rfl) ja_nil)) rfl))) (jss_one (js_ret je_bl))
    jss_nil))))))))
    (jss_one (js_ret (je_and (C.eq (jo_e (je_at T.atts (jo_e (clF C.toCs (cl_Phrase_2 T) (by decide) (by decide +kernel) (ja_cons je_str (ja_cons (je_tup (ja_cons je_str (ja_cons je_str ja_nil))) ja_nil)) jk_nil rfl rfl)))) (jo_e je_int)) (je_one (C.eq (jo_e (je_at T.atts (jo_e (clF C.toCs (cl_Phrase_2 T) (by decide) (by decide +kernel) (ja_cons je_str (ja_cons (je_tup (ja_cons je_str (ja_cons je_str ja_nil))) ja_nil)) jk_nil rfl rfl)))) (jo_e (je_tup (ja_cons je_str (ja_cons je_str ja_nil))))))))))))

def qs_BadQuery : Nat → Pos := fun i => match i with
  | 0 => ⟨10, 8, 10, 13⟩
  | 1 => ⟨10, 8, 10, 15⟩
  | 2 => ⟨10, 8, 10, 24⟩
  | 3 => ⟨10, 25, 10, 31⟩
  | 4 => ⟨10, 8, 10, 32⟩
  | 5 => ⟨10, 8, 10, 32⟩
  | 6 => ⟨11, 8, 11, 12⟩
  | 7 => ⟨11, 8, 11, 19⟩
  | 8 => ⟨11, 22, 11, 28⟩
  | 9 => ⟨11, 8, 11, 28⟩
  | _ => ⟨0, 0, 0, 0⟩
def ss_BadQuery : Scope := { kind := .function, names := [("self", .local), ("reason", .local), ("__class__", .free), ("super", .globalImplicit)], isGenerator := false, isCoroutine := false, more := [] }
theorem sup_BadQuery : SupS PySem.Challenge.pw_findlang_k10_phrases (clsDef 0 (tp 3)) "self" "reason" "reason" qs_BadQuery ss_BadQuery := ⟨by kernel_rfl, by kernel_rfl, ⟨_, rfl, rfl⟩, by kernel_rfl, fun _ _ _ _ => ⟨_, fun _ => rfl⟩, fun _ _ _ _ _ => rfl, fun _ _ _ _ _ => rfl, rfl, rfl, rfl, by decide +kernel, by decide +kernel, by decide +kernel, by decide +kernel, by decide +kernel, by decide +kernel, ⟨by decide +kernel, by decide +kernel⟩, ⟨by decide +kernel, by decide +kernel⟩⟩
end L10

namespace L10
open PySem PySem.Spec PySem.W PySem.Calls PyProof.Rows FL
abbrev Rw : OpenRow := OpenLaw.row PySem.Challenge.rw_findlang_k10_phrases
abbrev qv : Program := view Rw.prog [71]
def names : List PySem.Str := ((["_wall", "__name__", "Invalid", "BadQuery", "BadSource", "MAX_WORD", "MAX_PARTS", "MAX_SIZE", "MAX_LEVELS", "MAX_DISTANCE", "MAX_NAME", "LETTERS", "WORD_SIGNS", "is_integer", "is_made_of", "is_field_name", "is_word", "common_divisor", "is_fraction", "DIGITS", "RUNS", "SIGNS", "MAX_RUN", "MAX_OPEN", "MAX_SOURCE", "run_end", "symbol_at", "SourceReader", "whole", "read_form", "bound_text", "phrase_text", "some_text", "factor_text", "LEAST_WORDS", "MOST_WORDS", "MAX_BOUND", "MAX_FACTOR", "need_query", "need_parts"] : List String) ++ (["need_field", "need_word", "Query", "FIELD_KINDS", "GROUPED", "fields_of", "parts_for", "is_closed", "grouped", "Term", "Phrase", "Prefix", "Range", "Everything", "All", "Some", "Without", "Weighted", "built_chain", "built", "_law_source", "_law_next", "_law_pick", "_law_refused", "_law_is_word", "_law_phrase_right"] : List String)).map PySem.Str.ofString
def ds : List Dsc := [⟨pM "BadQuery" "__init__", "__init__", "BadQuery.__init__", clsDef 0 (tp 3), ["__class__"]⟩,
  ⟨pM "Query" "__init__", "__init__", "Query.__init__", clsDef 1 (tp 46), []⟩,
  ⟨pM "Phrase" "__init__", "__init__", "Phrase.__init__", clsDef 1 (tp 54), ["__class__"]⟩,
  ⟨pM "Query" "parts", "parts", "Query.parts", clsDef 2 (tp 46), []⟩,
  ⟨pM "Query" "size", "size", "Query.size", clsDef 3 (tp 46), []⟩,
  ⟨pM "Query" "levels", "levels", "Query.levels", clsDef 4 (tp 46), []⟩,
  ⟨("_law_source", none), "_law_source", "_law_source", tp 65, []⟩,
  ⟨("_law_next", none), "_law_next", "_law_next", tp 66, []⟩,
  ⟨("_law_pick", none), "_law_pick", "_law_pick", tp 67, []⟩,
  ⟨("_law_is_word", none), "_law_is_word", "_law_is_word", tp 69, []⟩,
  ⟨("_law_refused", none), "_law_refused", "_law_refused", tp 68, []⟩,
  ⟨("is_made_of", none), "is_made_of", "is_made_of", tp 15, []⟩,
  ⟨("is_field_name", none), "is_field_name", "is_field_name", tp 16, []⟩,
  ⟨("need_field", none), "need_field", "need_field", tp 44, []⟩,
  ⟨("is_word", none), "is_word", "is_word", tp 17, []⟩,
  ⟨("need_word", none), "need_word", "need_word", tp 45, []⟩,
  ⟨("is_integer", none), "is_integer", "is_integer", tp 14, []⟩,
  ⟨("fields_of", none), "fields_of", "fields_of", tp 49, []⟩,
  ⟨("phrase_text", none), "phrase_text", "phrase_text", tp 34, []⟩,
  ⟨("_law_phrase_right", none), "_law_phrase_right", "_law_phrase_right", tp 70, []⟩,
  ⟨("law", none), "law", "law", tp 71, []⟩]
def fs : List (PySem.W.Frag → Bool) := [fun K => (He.Fa.free "all").ok K,
  fun K => (He.Fa.free "bool").ok K,
  fun K => (He.Fa.free "int").ok K,
  fun K => (He.Fa.free "isinstance").ok K,
  fun K => (He.Fa.free "len").ok K,
  fun K => (He.Fa.free "list").ok K,
  fun K => (He.Fa.free "max").ok K,
  fun K => (He.Fa.free "min").ok K,
  fun K => (He.Fa.free "range").ok K,
  fun K => (He.Fa.free "repr").ok K,
  fun K => (He.Fa.free "set").ok K,
  fun K => (He.Fa.free "sorted").ok K,
  fun K => (He.Fa.free "str").ok K,
  fun K => (He.Fa.free "sum").ok K,
  fun K => (He.Fa.free "super").ok K,
  fun K => (He.Fa.free "tuple").ok K,
  fun K => (He.Fa.int "LEAST_WORDS" 2).ok K,
  fun K => (He.Fa.str "LETTERS" "abcdefghijklmnopqrstuvwxyz").ok K,
  fun K => (He.Fa.int "MAX_DISTANCE" 20).ok K,
  fun K => (He.Fa.int "MAX_LEVELS" 8).ok K,
  fun K => (He.Fa.int "MAX_NAME" 12).ok K,
  fun K => (He.Fa.int "MAX_SIZE" 60).ok K,
  fun K => (He.Fa.int "MAX_WORD" 20).ok K,
  fun K => (He.Fa.int "MOST_WORDS" 6).ok K,
  fun K => (He.Fa.str "WORD_SIGNS" "abcdefghijklmnopqrstuvwxyz0123456789").ok K,
  tTup "FIELD_KINDS" ([lit "term", lit "phrase", lit "prefix", lit "range"].map toS),
  fun K => (He.Fa.glo "BadQuery").ok K,
  tExc "BadQuery" "reason",
  tCell "BadQuery" "__init__" PySem.Challenge.pw_findlang_k10_phrases.main.file,
  tSubs "BadQuery" subl__law_refused,
  fun K => (He.Fa.glo "Phrase").ok K,
  tAtts attl,
  tPrps prps,
  tInit "Phrase" "__init__",
  fun K => (He.Fa.mkr "Phrase").ok K,
  tCell "Phrase" "__init__" PySem.Challenge.pw_findlang_k10_phrases.main.file,
  tSup "Phrase" "Phrase" "Query" "__init__",
  tKwI (pM "Phrase" "__init__") "distance" 0,
  tFn "_law_source",
  tFn "_law_next",
  tFn "_law_pick",
  tFn "_law_is_word",
  tFn "_law_refused",
  tFn "is_made_of",
  tFn "is_field_name",
  tFn "need_field",
  tFn "is_word",
  tFn "need_word",
  tFn "is_integer",
  tFn "fields_of",
  tFn "phrase_text",
  tFn "_law_phrase_right",
  tFn "law"]
def ts : Mks := [(("_law_phrase_right", none), "_law_phrase_right.<locals>.<lambda>")]
abbrev hk : PySem.W.Hook := hookF 5 fs ds ts
def ob (s : PySem.W.SharedT) : HkA := hkG 5 fs ds ts (HandSHeadRun.getT s)
theorem ob_eq (s : PySem.W.SharedT) : ob s = hk.obs s.abs := hkG_eq (HandSHeadRun.getT_eq s)
set_option maxHeartbeats 0 in
theorem run (w : World) : HandSHeadRun.RunEq Rw qv hk ob 30000 names w := by
  intro os
  kernel_rfl
end L10

/-! Part Ec: the class machine is run by simp. -/
namespace FL
open PySem L2
section
variable {α β : Type} {δ : FL.Loc} {μ : Mem} {o : Opn} {os : List Opn} {m : ME} {ms mks : List ME} {f c : String} {at_ : String → String → Att} {d : D} {ds vs dds : List D} {k : Nat} {ks : List String}
@[simp] theorem ec_sf1 : (OR.d d).self δ = some d := rfl
@[simp] theorem ec_sf2 {j : Nat} : (OR.i j).self δ = (match δ[j]? with | some (some (.fr x)) => some x | _ => none) := rfl
@[simp] theorem ec_in1 : insOf μ (.ins c ks vs) = some (c, ks, vs) := rfl
@[simp] theorem ec_in2 : insOf μ (.obj k) = (match μ[k]? with | some (.ins c _ ks vs) => some (c, ks, vs) | _ => none) := rfl
@[simp] theorem ec_in3 {i : Int} : insOf μ (.int i) = none := rfl
@[simp] theorem ec_in4 {x : Tx} : insOf μ (.str x) = none := rfl
@[simp] theorem ec_in5 {b : Bool} : insOf μ (.bl b) = none := rfl
@[simp] theorem ec_in6 : insOf μ .non = none := rfl
@[simp] theorem ec_in7 {xs : List D} : insOf μ (.lst xs) = none := rfl
@[simp] theorem ec_in8 {xs : List D} : insOf μ (.tup xs) = none := rfl
@[simp] theorem ec_in9 {xs : List DK} : insOf μ (.dct xs ds) = none := rfl
@[simp] theorem ec_g0 : getF [] ds f = none := by cases ds <;> rfl
@[simp] theorem ec_g1 {q : String} : getF (q :: ks) (d :: ds) f = if q = f then some d else getF ks ds f := rfl
@[simp] theorem ec_pk0 : putNm [] f = [f] := rfl
@[simp] theorem ec_pk1 {q : String} : putNm (q :: ks) f = if q = f then q :: ks else q :: putNm ks f := rfl
@[simp] theorem ec_pv0 : putVs [] ds f d = [d] := by cases ds <;> rfl
@[simp] theorem ec_pv1 {q : String} {e : D} : putVs (q :: ks) (d :: ds) f e = if q = f then e :: ds else d :: putVs ks ds f e := rfl
@[simp] theorem ec_if1 : Att.fld.isF = true := rfl
@[simp] theorem ec_if2 : (Att.con d).isF = false := rfl
@[simp] theorem ec_At : mAt at_ f o δ μ = (o.ev δ μ).bind fun r δ1 μ1 => match (r.self δ1).bind (insOf μ1) with
  | some (c, ks, ds) => (match at_ c f with
    | .fld => lift ((getF ks ds f).map .fr) δ1 μ1
    | .con d => if getF ks ds f = none then .ok (.fr d) δ1 μ1 else .bad
    | .no => .bad)
  | none => .bad := rfl
@[simp] theorem ec_StF : mStF at_ f o m δ μ = (m δ μ).thn fun s δ1 μ1 => (o.ev δ1 μ1).thn fun r δ2 μ2 => match r.self δ2 with
  | some (.obj k) => (match μ2[k]? with
    | some (.ins c kd ks vs) => if (at_ c f).isF = true ∧ ks.length < 1000 then .nx δ2 (μ2.set k (.ins c kd (putNm ks f) (putVs ks vs f s.d))) else .bad
    | _ => .bad)
  | _ => .bad := rfl
@[simp] theorem ec_Super {mi : MF} : mSuper c mi ms δ μ = (match δ[0]? with
  | some (some (FL.Slot.fr d)) => (match insOf μ d with
    | some (c', _, _) => if c' = c then (evA ms δ μ).thn fun ds δ1 μ1 => (match mi (d :: ds) μ1 with
      | .ok _ μ2 => .nx δ1 μ2
      | .exc x μ2 => .exc x δ1 μ2
      | .bad => .bad) else .bad
    | none => .bad)
  | _ => .bad) := rfl
@[simp] theorem ec_CallK {mf : MF} {sel : List Sel} : mCallK mf sel ms mks dds δ μ = (evA ms δ μ).bind fun ds δ1 μ1 => (evA mks δ1 μ1).bind fun zs δ2 μ2 => match mf (pickS sel ds dds zs) μ2 with
  | .ok s μ3 => .ok s δ2 μ3
  | .exc x μ3 => .exc x δ2 μ3
  | .bad => .bad := rfl
@[simp] theorem ec_pick0 {vs ds zs : List α} : pickS [] vs ds zs = [] := rfl
@[simp] theorem ec_pick1 {vs ds zs : List α} {a : Sel} {sel : List Sel} : pickS (a :: sel) vs ds zs = (match a.get vs ds zs with | some x => x :: pickS sel vs ds zs | none => pickS sel vs ds zs) := by
  unfold pickS
  cases h : a.get vs ds zs with
  | none => rw [List.filterMap_cons_none h]
  | some x => rw [List.filterMap_cons_some h]
@[simp] theorem ec_sel1 {vs ds zs : List α} {i : Nat} : (Sel.pos i).get vs ds zs = vs[i]? := rfl
@[simp] theorem ec_sel2 {vs ds zs : List α} {i : Nat} : (Sel.key i).get vs ds zs = zs[i]? := rfl
@[simp] theorem ec_sel3 {vs ds zs : List α} {i : Nat} : (Sel.dfl i).get vs ds zs = ds[i]? := rfl
@[simp] theorem ec_Prop {pt : String → String → Option MF} : mProp pt f o δ μ = (o.ev δ μ).bind fun r δ1 μ1 => match r.self δ1 with
  | some d => (match insOf μ1 d with
    | some (c, _, _) => (match pt c f with
      | some m => (match m [d] μ1 with
        | .ok s μ2 => .ok s δ1 μ2
        | _ => .bad)
      | none => .bad)
    | none => .bad)
  | none => .bad := rfl
@[simp] theorem ec_IsC {isa isb : String → String → Option Bool} : mIsC isa isb f o δ μ = (o.ev δ μ).bind fun r δ1 μ1 => match isD isa isb f δ1 μ1 r with
  | some b => .ok (.fr (.bl b)) δ1 μ1
  | none => .bad := rfl
@[simp] theorem ec_Fmt : mFmt m δ μ = (m δ μ).bind fun s δ1 μ1 => match s.d with
  | .str y => if y.length ≤ 16777216 then .ok (.fr (.str y)) δ1 μ1 else .bad
  | .int i => if i.natAbs.log2 < 1920 then .ok (.fr (.str (intT i))) δ1 μ1 else .bad
  | _ => .bad := rfl
@[simp] theorem ec_Joined : mJoined ms δ μ = joinM ms [] δ μ := rfl
@[simp] theorem ec_join0 {acc : Tx} : joinM [] acc δ μ = .ok (.fr (.str acc)) δ μ := rfl
@[simp] theorem ec_join1 {acc : Tx} : joinM (m :: ms) acc δ μ = (m δ μ).bind fun s δ1 μ1 => match s.d with
    | .str y => if (acc ++ y).length ≤ 16777216 then joinM ms (acc ++ y) δ1 μ1 else .bad
    | _ => .bad := rfl
/-! ### a new instance at the memory's end -/
@[simp] theorem ec_end0 {a b : Own} : (μ ++ [a, b])[μ.length]? = some a := by simp
@[simp] theorem ec_end1 {a b : Own} : (μ ++ [a, b])[μ.length + 1]? = some b := by simp
@[simp] theorem ec_set0 {a b e : Own} : (μ ++ [a, b]).set μ.length e = μ ++ [e, b] := by
  rw [List.set_append_right _ _ (Nat.le_refl _)]
  simp
theorem keeps_app {xs : List Own} : Keeps μ (μ ++ xs) := fun j u e => by
  rw [List.getElem?_append_left (List.getElem?_eq_some_iff.mp e).1]
  exact e
abbrev newM (μ : Mem) (c : String) (ks : List String) (vs : List D) : Mem := μ ++ [.ins c (μ.length + 1) ks vs, .idc μ.length]
theorem mkF_ok {mi : MF} {ks : List String} {vs : List D} (h : mi (.obj μ.length :: ds) (newM μ c [] []) = .ok (.fr .non) (newM μ c ks vs)) (hb : D.lowbs μ.length vs = true) : mkF c mi ds μ = .ok (.fr (.ins c ks vs)) μ := by
  rw [mkF_eq]
  unfold mkF0
  rw [h]
  unfold lockI
  simp only [ec_end0, ec_end1]
  rw [if_pos ⟨⟨rfl, rfl, rfl⟩, keeps_app, hb⟩]
theorem mkF_exc {mi : MF} {x : Exc} {xs : List Own} (h : mi (.obj μ.length :: ds) (newM μ c [] []) = .exc x (μ ++ xs)) (hb : D.lowb μ.length x.arg = true) : mkF c mi ds μ = .exc x μ := by
  rw [mkF_eq]
  unfold mkF0
  rw [h]
  unfold lockI
  dsimp only
  rw [if_pos ⟨keeps_app, hb⟩]
end
section
variable {k : Nat}
@[simp] theorem lb_non : D.lowb k .non = true := by simp [D.lowb]
@[simp] theorem lb_bl {b : Bool} : D.lowb k (.bl b) = true := by simp [D.lowb]
@[simp] theorem lb_int {i : Int} : D.lowb k (.int i) = true := by simp [D.lowb]
@[simp] theorem lb_str {x : Tx} : D.lowb k (.str x) = true := by simp [D.lowb]
@[simp] theorem lb_tup {xs : List D} : D.lowb k (.tup xs) = D.lowbs k xs := by simp [D.lowb]
@[simp] theorem lb_lst {xs : List D} : D.lowb k (.lst xs) = D.lowbs k xs := by simp [D.lowb]
@[simp] theorem lb_dct {q : List DK} {xs : List D} : D.lowb k (.dct q xs) = D.lowbs k xs := by simp [D.lowb]
@[simp] theorem lb_ins {c : String} {q : List String} {xs : List D} : D.lowb k (.ins c q xs) = D.lowbs k xs := by simp [D.lowb]
@[simp] theorem lb_nil : D.lowbs k [] = true := by simp [D.lowbs]
@[simp] theorem lb_cons {d : D} {ds : List D} : D.lowbs k (d :: ds) = (D.lowb k d && D.lowbs k ds) := by simp [D.lowbs]
theorem lb_strs (xs : List Tx) : D.lowbs k (xs.map D.str) = true := by
  induction xs with
  | nil => simp
  | cons x xs ih => simp [ih]
end
end FL

/-! Part Qa: what the constructors of queries without parts do, in plain words. -/
namespace FL.S
noncomputable def b_is_integer (δ : FL.Loc) (μ : Mem) : OutS := (mSeq (mIfS (mOr (mNot (mTb (mC gIsi [(.v 0), (.e (mD (.ty "int")))]))) (mTb (mC gIsi [(.v 0), (.e (mD (.ty "bool")))]))) (mRet (mD (.bl false)))
    mPass)
    (mRet (mAndV (mOrV (m2 (gIsN false) (.v 1) (.e (mD .non))) (m2 gLe (.v 1) (.v 0))) (mOrV (m2 (gIsN false) (.v 2) (.e (mD .non))) (m2 gLe (.v 0) (.v 2)))))) δ μ
noncomputable def m_is_integer : MF := mFn 3 (b_is_integer)
noncomputable def b_is_field_name (δ : FL.Loc) (μ : Mem) : OutS := (mRet (mCall m_is_made_of [(mV 0), (mD (.str (lit "abcdefghijklmnopqrstuvwxyz"))), (mD (.int 12))] [])) δ μ
noncomputable def m_is_field_name : MF := mFn 1 (b_is_field_name)
noncomputable def b_need_field (δ : FL.Loc) (μ : Mem) : OutS := (mIfS (mNot (mTb (mCall m_is_field_name [(mV 0)] []))) (mRaise "BadQuery" "reason" (mD (.str (lit "not a field name"))))
    mPass) δ μ
noncomputable def m_need_field : MF := mFn 1 (b_need_field)
noncomputable def b_need_word (δ : FL.Loc) (μ : Mem) : OutS := (mIfS (mNot (mTb (mCall m_is_word [(mV 0)] []))) (mRaise "BadQuery" "reason" (mD (.str (lit "not a word"))))
    mPass) δ μ
noncomputable def m_need_word : MF := mFn 1 (b_need_word)
noncomputable def f1_fields_of (at_ : String → String → Att) (δ : FL.Loc) (μ : Mem) : OutS := (mSet 3 (m2 gAdd (.v 3) (.e (mC gList [(.e (mAt at_ "own_fields" (.v 4)))])))) δ μ
noncomputable def b_fields_of (at_ : String → String → Att) (δ : FL.Loc) (μ : Mem) : OutS := (mSeq (mSet 3 (mIf (mTb (m2 (gIn false) (.v 0) (.e (mD (.tup ([lit "term", lit "phrase", lit "prefix", lit "range"].map .str)))))) (mLst [(m2 gIxL (.v 1) (.e (mD (.int 0))))]) (mLst [])))
    (mSeq (mFor (mIt (mV 2)) (tgV 4) (f1_fields_of at_))
    (mRet (mC gTuple [(.e (mC gSS [(.v 3)]))])))) δ μ
noncomputable def m_fields_of (at_ : String → String → Att) : MF := mFn 5 ((b_fields_of at_))
noncomputable def b_phrase_text (δ : FL.Loc) (μ : Mem) : OutS := (mSeq (mSet 3 (m2 gAdd (.e (m2 gAdd (.e (m2 gAdd (.v 0) (.e (mD (.str (lit ":\"")))))) (.e (mM "str" gJoin (.e (mD (.str (lit " ")))) [(.v 1)])))) (.e (mD (.str (lit "\""))))))
    (mRet (mIf (mTb (m2 (gEq false) (.v 2) (.e (mD (.int 0))))) (mV 3) (mJoined [(mFmt (mV 3)), (mD (.str (lit "~"))), (mFmt (mV 2))])))) δ μ
noncomputable def m_phrase_text : MF := mFn 4 (b_phrase_text)
noncomputable def e1_iQuery (at_ : String → String → Att) (δ : FL.Loc) (μ : Mem) : Out FL.Slot := (mAt at_ "own_size" (.v 4)) δ μ
noncomputable def e2_iQuery (at_ : String → String → Att) (δ : FL.Loc) (μ : Mem) : Out FL.Slot := (mAt at_ "own_levels" (.v 4)) δ μ
noncomputable def e3_iQuery (at_ : String → String → Att) (δ : FL.Loc) (μ : Mem) : Out FL.Slot := (mAt at_ "own_key" (.v 4)) δ μ
noncomputable def b_iQuery (at_ : String → String → Att) (δ : FL.Loc) (μ : Mem) : OutS := (mSeq (mStF at_ "own_parts" (.v 0) (mV 1))
    (mSeq (mStF at_ "own_size" (.v 0) (m2 gAdd (.e (mD (.int 1))) (.e (mC gSum [(.e (mLc (mIt (mV 1)) (tgV 4) mYes (e1_iQuery at_) [4]))]))))
    (mSeq (mStF at_ "own_levels" (.v 0) (mIf (mTb (m2 (gEq true) (.v 1) (.e (mTup [])))) (m2 gAdd (.e (mD (.int 1))) (.e (mC gMaxL [(.e (mLc (mIt (mV 1)) (tgV 4) mYes (e2_iQuery at_) [4]))]))) (mD (.int 0))))
    (mSeq (mIfS (mOr (mTb (m2 gGt (.e (mAt at_ "own_size" (.v 0))) (.e (mD (.int 60))))) (mTb (m2 gGt (.e (mAt at_ "own_levels" (.v 0))) (.e (mD (.int 8)))))) (mRaise "BadQuery" "reason" (mD (.str (lit "the query is too large or too deep"))))
    mPass)
    (mSeq (mStF at_ "own_key" (.v 0) (mTup [(mAt at_ "KIND" (.v 0)), (mV 2), (mC gTuple [(.e (mLc (mIt (mV 1)) (tgV 4) mYes (e3_iQuery at_) [4]))])]))
    (mSeq (mStF at_ "own_fields" (.v 0) (mCall (m_fields_of at_) [(mAt at_ "KIND" (.v 0)), (mV 2), (mV 1)] []))
    (mStF at_ "own_text" (.v 0) (mV 3)))))))) δ μ
noncomputable def m_iQuery (at_ : String → String → Att) : MF := mFn 5 (b_iQuery at_)
noncomputable def f1_iPhrase (δ : FL.Loc) (μ : Mem) : OutS := (mEx (mCall m_need_word [(mV 4)] [])) δ μ
noncomputable def b_iPhrase (at_ : String → String → Att) (δ : FL.Loc) (μ : Mem) : OutS := (mSeq (mEx (mCall m_need_field [(mV 1)] []))
    (mSeq (mIfS (mOr (mNot (mTb (mC gIsi [(.v 2), (.e (mD (.ty "tuple")))]))) (mNot (mTb (mChain gLe gLe (.e (mD (.int 2))) (.e (mC gLen [(.v 2)])) (.e (mD (.int 6))))))) (mRaise "BadQuery" "reason" (mD (.str (lit "expected a tuple of two to six words"))))
    mPass)
    (mSeq (mFor (mIt (mV 2)) (tgV 4) f1_iPhrase)
    (mSeq (mIfS (mNot (mTb (mCall m_is_integer [(mV 3), (mD (.int 0)), (mD (.int 20))] []))) (mRaise "BadQuery" "reason" (mD (.str (lit "the distance is not an integer from 0 to 20"))))
    mPass)
    (mSeq (mSuper "Phrase" (m_iQuery at_) [(mTup []), (mTup [(mV 1), (mV 2), (mV 3)]), (mCall m_phrase_text [(mV 1), (mV 2), (mV 3)] [])])
    (mSeq (mStF at_ "field" (.v 0) (mV 1))
    (mSeq (mStF at_ "words" (.v 0) (mV 2))
    (mStF at_ "distance" (.v 0) (mV 3))))))))) δ μ
noncomputable def m_iPhrase (at_ : String → String → Att) : MF := mFn 5 (b_iPhrase at_)
noncomputable def b_Query_parts (at_ : String → String → Att) (δ : FL.Loc) (μ : Mem) : OutS := (mRet (mAt at_ "own_parts" (.v 0))) δ μ
noncomputable def m_Query_parts (at_ : String → String → Att) : MF := mFn 1 (b_Query_parts at_)
noncomputable def b_Query_size (at_ : String → String → Att) (δ : FL.Loc) (μ : Mem) : OutS := (mRet (mAt at_ "own_size" (.v 0))) δ μ
noncomputable def m_Query_size (at_ : String → String → Att) : MF := mFn 1 (b_Query_size at_)
noncomputable def b_Query_levels (at_ : String → String → Att) (δ : FL.Loc) (μ : Mem) : OutS := (mRet (mAt at_ "own_levels" (.v 0))) δ μ
noncomputable def m_Query_levels (at_ : String → String → Att) : MF := mFn 1 (b_Query_levels at_)
noncomputable def b_bound_text (δ : FL.Loc) (μ : Mem) : OutS := (mRet (mIf (mTb (m2 (gIsN false) (.v 0) (.e (mD .non)))) (mD (.str (lit ""))) (mC gStrI [(.v 0)]))) δ μ
noncomputable def m_bound_text : MF := mFn 1 (b_bound_text)
noncomputable def b_iTerm (at_ : String → String → Att) (δ : FL.Loc) (μ : Mem) : OutS := (mSeq (mEx (mCall m_need_field [(mV 1)] []))
    (mSeq (mEx (mCall m_need_word [(mV 2)] []))
    (mSeq (mSuper "Term" (m_iQuery at_) [(mTup []), (mTup [(mV 1), (mV 2)]), (mJoined [(mFmt (mV 1)), (mD (.str (lit ":"))), (mFmt (mV 2))])])
    (mSeq (mStF at_ "field" (.v 0) (mV 1))
    (mStF at_ "word" (.v 0) (mV 2)))))) δ μ
noncomputable def m_iTerm (at_ : String → String → Att) : MF := mFn 3 (b_iTerm at_)
noncomputable def b_iPrefix (at_ : String → String → Att) (δ : FL.Loc) (μ : Mem) : OutS := (mSeq (mEx (mCall m_need_field [(mV 1)] []))
    (mSeq (mEx (mCall m_need_word [(mV 2)] []))
    (mSeq (mSuper "Prefix" (m_iQuery at_) [(mTup []), (mTup [(mV 1), (mV 2)]), (mJoined [(mFmt (mV 1)), (mD (.str (lit ":"))), (mFmt (mV 2)), (mD (.str (lit "*")))])])
    (mSeq (mStF at_ "field" (.v 0) (mV 1))
    (mStF at_ "start" (.v 0) (mV 2)))))) δ μ
noncomputable def m_iPrefix (at_ : String → String → Att) : MF := mFn 3 (b_iPrefix at_)
noncomputable def f1_iRange (δ : FL.Loc) (μ : Mem) : OutS := (mIfS (mAnd (mTb (m2 (gIsN true) (.v 4) (.e (mD .non)))) (mNot (mTb (mCall m_is_integer [(mV 4), (m2 gSub (.e (mD (.int 0))) (.e (mD (.int 1000000000)))), (mD (.int 1000000000))] [])))) (mRaise "BadQuery" "reason" (mD (.str (lit "a bound is neither None nor an integer of at most ten digits"))))
    mPass) δ μ
noncomputable def b_iRange (at_ : String → String → Att) (δ : FL.Loc) (μ : Mem) : OutS := (mSeq (mEx (mCall m_need_field [(mV 1)] []))
    (mSeq (mFor (mIt (mTup [(mV 2), (mV 3)])) (tgV 4) f1_iRange)
    (mSeq (mSuper "Range" (m_iQuery at_) [(mTup []), (mTup [(mV 1), (mV 2), (mV 3)]), (mJoined [(mFmt (mV 1)), (mD (.str (lit ":["))), (mFmt (mCall m_bound_text [(mV 2)] [])), (mD (.str (lit ","))), (mFmt (mCall m_bound_text [(mV 3)] [])), (mD (.str (lit "]")))])])
    (mSeq (mStF at_ "field" (.v 0) (mV 1))
    (mSeq (mStF at_ "low" (.v 0) (mV 2))
    (mStF at_ "high" (.v 0) (mV 3))))))) δ μ
noncomputable def m_iRange (at_ : String → String → Att) : MF := mFn 5 (b_iRange at_)
noncomputable def b_iEverything (at_ : String → String → Att) (δ : FL.Loc) (μ : Mem) : OutS := (mSeq (mSuper "Everything" (m_iQuery at_) [(mTup []), (mTup []), (mD (.str (lit "#")))])
    mPass) δ μ
noncomputable def m_iEverything (at_ : String → String → Att) : MF := mFn 1 (b_iEverything at_)

end FL.S
namespace FL
open PySem L2
/-! ### kinds of values -/
def flatD : D → Bool
  | .non | .bl _ | .int _ | .str _ | .lst _ | .tup _ | .dct _ _ => true
  | _ => false
def isTupD : D → Bool
  | .tup _ => true
  | _ => false
def isIntD : D → Bool
  | .int _ | .bl _ => true
  | _ => false
def isBlD : D → Bool
  | .bl _ => true
  | _ => false
def isStrD : D → Bool
  | .str _ => true
  | _ => false
theorem kb_t : kitB "NoneType" "tuple" = some false ∧ kitB "bool" "tuple" = some false ∧ kitB "int" "tuple" = some false ∧ kitB "list" "tuple" = some false ∧ kitB "tuple" "tuple" = some true ∧ kitB "dict" "tuple" = some false ∧ kitB "str" "tuple" = some false := by
  refine ⟨?_, ?_, ?_, ?_, ?_, ?_, ?_⟩ <;> kernel_rfl
theorem kb_i : kitB "NoneType" "int" = some false ∧ kitB "bool" "int" = some true ∧ kitB "int" "int" = some true ∧ kitB "list" "int" = some false ∧ kitB "tuple" "int" = some false ∧ kitB "dict" "int" = some false ∧ kitB "str" "int" = some false := by
  refine ⟨?_, ?_, ?_, ?_, ?_, ?_, ?_⟩ <;> kernel_rfl
theorem kb_b : kitB "NoneType" "bool" = some false ∧ kitB "bool" "bool" = some true ∧ kitB "int" "bool" = some false ∧ kitB "list" "bool" = some false ∧ kitB "tuple" "bool" = some false ∧ kitB "dict" "bool" = some false ∧ kitB "str" "bool" = some false := by
  refine ⟨?_, ?_, ?_, ?_, ?_, ?_, ?_⟩ <;> kernel_rfl
theorem isi_tup {d : D} (h : flatD d = true) : gIsi [d, .ty "tuple"] = some (tb (isTupD d)) := by
  obtain ⟨h1, h2, h3, h4, h5, h6, h7⟩ := kb_t
  cases d <;> first | (cases h; done) | simp [gIsi, tyN, isTupD, h1, h2, h3, h4, h5, h6, h7]
theorem isi_int {d : D} (h : flatD d = true) : gIsi [d, .ty "int"] = some (tb (isIntD d)) := by
  obtain ⟨h1, h2, h3, h4, h5, h6, h7⟩ := kb_i
  cases d <;> first | (cases h; done) | simp [gIsi, tyN, isIntD, h1, h2, h3, h4, h5, h6, h7]
theorem isi_bl {d : D} (h : flatD d = true) : gIsi [d, .ty "bool"] = some (tb (isBlD d)) := by
  obtain ⟨h1, h2, h3, h4, h5, h6, h7⟩ := kb_b
  cases d <;> first | (cases h; done) | simp [gIsi, tyN, isBlD, h1, h2, h3, h4, h5, h6, h7]
theorem isi_st {d : D} (h : flatD d = true) : gIsi [d, .ty "str"] = some (tb (isStrD d)) := by
  cases d <;> first | (cases h; done) | exact isi_str | exact isi_no rfl
theorem look_flatD {μ : Mem} {d : D} (h : flatD d = true) : look μ d = some d := by
  cases d <;> first | (cases h; done) | rfl
/-! ### words, names, ints -/
abbrev LT : Tx := lit "abcdefghijklmnopqrstuvwxyz"
abbrev Nm (x : Tx) : Prop := Made x LT 12
def isWd : D → Bool
  | .str x => decide (Wd x)
  | _ => false
def isNm : D → Bool
  | .str x => decide (Nm x)
  | _ => false
/-- a text that is not too long, or no text -/
def shortD : D → Bool
  | .str x => decide (x.length < 16777216)
  | d => flatD d
theorem shortD.flat {d : D} (h : shortD d = true) : flatD d = true := by
  cases d <;> first | rfl | exact h
section
variable {μ : Mem}
theorem word_sp {d : D} (h : shortD d = true) : S.m_is_word [d] μ = .ok (.fr (.bl (isWd d))) μ := by
  cases d <;> first | (cases h; done) | exact word_no rfl | exact word_str (of_decide_eq_true h)
theorem name_no {d : D} (h : noStr d = true) : S.m_is_field_name [d] μ = .ok (.fr (.bl false)) μ := by
  have e := made_no (μ := μ) (s := LT) (n := 12) h
  simp [S.m_is_field_name, S.b_is_field_name, startD, e]
theorem name_sp {d : D} (h : shortD d = true) : S.m_is_field_name [d] μ = .ok (.fr (.bl (isNm d))) μ := by
  cases d <;> first | (cases h; done) | exact name_no rfl | skip
  rename_i x
  have e := made_str (μ := μ) (x := x) (s := LT) (n := 12) (of_decide_eq_true h)
  simp [S.m_is_field_name, S.b_is_field_name, startD, e, isNm]
theorem need_word_sp {d : D} (h : shortD d = true) : S.m_need_word [d] μ = if isWd d = true then .ok (.fr .non) μ else .exc ⟨"BadQuery", "reason", .str (lit "not a word")⟩ μ := by
  have e := word_sp (μ := μ) h
  cases hw : isWd d <;> rw [hw] at e <;> simp [S.m_need_word, S.b_need_word, startD, e]
theorem need_field_sp {d : D} (h : shortD d = true) : S.m_need_field [d] μ = if isNm d = true then .ok (.fr .non) μ else .exc ⟨"BadQuery", "reason", .str (lit "not a field name")⟩ μ := by
  have e := name_sp (μ := μ) h
  cases hw : isNm d <;> rw [hw] at e <;> simp [S.m_need_field, S.b_need_field, startD, e]
def inI (lo hi : Int) : D → Bool
  | .int i => decide (lo ≤ i ∧ i ≤ hi)
  | _ => false
theorem int_sp {d : D} {lo hi : Int} (h : flatD d = true) : S.m_is_integer [d, .int lo, .int hi] μ = .ok (.fr (.bl (inI lo hi d))) μ := by
  have e1 := isi_int h
  have e2 := isi_bl h
  cases d <;> first | (cases h; done) | skip
  case int i =>
    by_cases h1 : lo ≤ i <;> by_cases h2 : i ≤ hi <;> simp [S.m_is_integer, S.b_is_integer, startD, e1, e2, isIntD, isBlD, inI, h1, h2]
  all_goals simp [S.m_is_integer, S.b_is_integer, startD, e1, e2, isIntD, isBlD, inI]
/-! ### what all queries have -/
structure QAt (at_ : String → String → Att) (c kind : String) : Prop where
  p : at_ c "own_parts" = .fld
  s : at_ c "own_size" = .fld
  l : at_ c "own_levels" = .fld
  k : at_ c "own_key" = .fld
  f : at_ c "own_fields" = .fld
  t : at_ c "own_text" = .fld
  kd : at_ c "KIND" = .con (.str (lit kind))
abbrev ks6 : List String := ["own_parts", "own_size", "own_levels", "own_key", "own_fields", "own_text"]
/-- a query -/
abbrev qD (c : String) (ps : List D) (s l : Int) (key : D) (fs : List Tx) (t : Tx) (ks : List String) (vs : List D) : D := .ins c (ks6 ++ ks) ([.tup ps, .int s, .int l, key, .tup (fs.map .str), .str t] ++ vs)
/-- a part's field -/
def dF (at_ : String → String → Att) (f : String) : D → Option D
  | .ins c ks vs => (match at_ c f with
    | .fld => getF ks vs f
    | _ => none)
  | _ => none
theorem lc_at {at_ : String → String → Att} {f : String} {e : ME} (he : ∀ δ μ, e δ μ = mAt at_ f (.v 4) δ μ) {ps : List D} {a b c d : Option FL.Slot} (ha : ∀ p ∈ ps, (dF at_ f p).isSome = true) (hl : ps.length < 16777216) :
    lcD (tgV 4) mYes e [4] ps [] [a, b, c, d, none] μ = .ok (.own (.lst (ps.filterMap (dF at_ f)))) [a, b, c, d, none] μ := by
  have h := lcD_pure (f := tgV 4) (t := mYes) (m := e) (vs := [4]) (δ := [a, b, c, d, none]) (μ := μ) (dF at_ f) (ds := ps) (acc := []) (fun p hp => by
    obtain ⟨x, hx⟩ := Option.isSome_iff_exists.mp (ha p hp)
    rw [hx]
    cases p <;> first | (cases hx; done) | skip
    rename_i c' ks vs
    unfold dF at hx
    dsimp only at hx
    cases hat : at_ c' f with
    | fld =>
      rw [hat] at hx
      dsimp only at hx
      simp [lc1, he, hat, hx]
    | con _ => rw [hat] at hx; cases hx
    | no => rw [hat] at hx; cases hx) (by simp; omega)
  rw [h, List.nil_append]
end
section
variable {μ : Mem} {at_ : String → String → Att} {c kind : String}
def kinds4 : List Tx := [lit "term", lit "phrase", lit "prefix", lit "range"]
theorem fields_sp {vals ps : List D} {isF : Bool} {init : List Tx} {fss : List (List Tx)} (hin : gIn false (.str (lit kind)) (.tup (kinds4.map .str)) = some (tb isF)) (hv : if isF = true then L2.atI vals 0 = some (.str (init.headD [])) ∧ init.length = 1 else init = [])
    (hf : ps.filterMap (dF at_ "own_fields") = fss.map fun f => .tup (f.map .str)) (ha : ∀ p ∈ ps, (dF at_ "own_fields" p).isSome = true) (hl : (init ++ fss.flatten).length < 4000) :
    S.m_fields_of at_ [.str (lit kind), .tup vals, .tup ps] μ = .ok (.fr (.tup ((sortT (init ++ fss.flatten)).map .str))) μ := by
  have h0 : mSet 3 (mIf (mTb (m2 (gIn false) (.v 0) (.e (mD (.tup (kinds4.map .str)))))) (mLst [(m2 gIxL (.v 1) (.e (mD (.int 0))))]) (mLst [])) (startD 5 [.str (lit kind), .tup vals, .tup ps]) μ = .nx [some (.fr (.str (lit kind))), some (.fr (.tup vals)), some (.fr (.tup ps)), some (.own (.lst (init.map .str))), none] μ := by
    generalize kinds4.map D.str = L at hin ⊢
    cases isF with
    | false =>
      have hv : init = [] := by simpa using hv
      subst hv
      simp [startD, hin]
    | true =>
      obtain ⟨h1, h2⟩ : L2.atI vals 0 = some (.str (init.headD [])) ∧ init.length = 1 := by simpa using hv
      match init, h2 with
      | [y], _ =>
        have h1 : L2.atI vals 0 = some (.str y) := h1
        simp [startD, hin, h1]
  have hlen : ps.length = fss.length := by
    have e := congrArg List.length hf
    rw [List.length_map] at e
    rw [← e]
    clear hf hl e h0
    induction ps with
    | nil => rfl
    | cons p ps ih =>
      obtain ⟨x, hx⟩ := Option.isSome_iff_exists.mp (ha p (List.mem_cons_self ..))
      rw [List.filterMap_cons_some hx, List.length_cons, List.length_cons, ih fun p hp => ha p (List.mem_cons_of_mem _ hp)]
  have hat : ∀ (i : Nat) (p : D), ps[i]? = some p → ∃ f, fss[i]? = some f ∧ dF at_ "own_fields" p = some (.tup (f.map .str)) := by
    clear hl h0 hin hv
    induction ps generalizing fss with
    | nil => intro i p e; simp at e
    | cons q ps ih =>
      intro i p e
      obtain ⟨x, hx⟩ := Option.isSome_iff_exists.mp (ha q (List.mem_cons_self ..))
      rw [List.filterMap_cons_some hx] at hf
      cases fss with
      | nil => simp at hf
      | cons f fss =>
        rw [List.map_cons] at hf
        injection hf with hf1 hf2
        cases i with
        | zero =>
          simp at e
          subst e
          exact ⟨f, rfl, by rw [hx, hf1]⟩
        | succ i =>
          exact ih hf2 (fun p hp => ha p (List.mem_cons_of_mem _ hp)) (by simpa using hlen) i p (by simpa using e)
  obtain ⟨δ, μ1, e, ⟨s4, rfl⟩, rfl⟩ := forNx (g := turnD (tgV 4) (S.f1_fields_of at_)) (fun i δ μ' => (∃ s4, δ = [some (.fr (.str (lit kind))), some (.fr (.tup vals)), some (.fr (.tup ps)), some (.own (.lst ((init ++ (fss.take i).flatten).map .str))), s4]) ∧ μ' = μ) (ds := ps)
    (δ := [some (.fr (.str (lit kind))), some (.fr (.tup vals)), some (.fr (.tup ps)), some (.own (.lst (init.map .str))), none]) (μ := μ) ⟨⟨none, by simp⟩, rfl⟩ fun i p δ μ' hd ⟨⟨s4, hδ⟩, hμ⟩ => by
      subst hδ hμ
      obtain ⟨f, h1, h2⟩ := hat i p hd
      have hi : i < fss.length := (List.getElem?_eq_some_iff.mp h1).1
      have ht : fss.take (i + 1) = fss.take i ++ [f] := by
        rw [List.take_succ_eq_append_getElem hi]
        rw [List.getElem?_eq_getElem hi] at h1
        cases h1
        rfl
      have hb : (init ++ (fss.take i).flatten).length + f.length ≤ 16777216 := by
        have e1 : fss = fss.take (i + 1) ++ fss.drop (i + 1) := (List.take_append_drop _ _).symm
        rw [e1, ht] at hl
        simp only [List.flatten_append, List.length_append, List.flatten_cons, List.flatten_nil, List.append_nil] at hl
        simp only [List.length_append]
        omega
      cases p <;> first | (cases h2; done) | skip
      rename_i c' ks vs
      unfold dF at h2
      dsimp only at h2
      have hA : (init ++ (fss.take i).flatten ++ f).map D.str = (init ++ (fss.take i).flatten).map D.str ++ f.map D.str := List.map_append ..
      have hB : init ++ (fss.take (i + 1)).flatten = init ++ (fss.take i).flatten ++ f := by rw [ht]; simp
      rw [hB, hA]
      have hb' : ((init ++ (fss.take i).flatten).map D.str).length + (f.map D.str).length ≤ 16777216 := by simpa only [List.length_map] using hb
      generalize (init ++ (fss.take i).flatten).map D.str = L1 at hb' ⊢
      generalize f.map D.str = L2' at hb' h2 ⊢
      cases hat2 : at_ c' "own_fields" with
      | fld =>
        rw [hat2] at h2
        dsimp only at h2
        simp [S.f1_fields_of, hat2, h2, gList, hb']
      | con _ => rw [hat2] at h2; cases h2
      | no => rw [hat2] at h2; cases h2
  rw [hlen, List.take_length] at e
  have hs : gSS [.lst ((init ++ fss.flatten).map D.str)] = some (.own (.lst ((sortT (init ++ fss.flatten)).map .str))) := by
    have h1 : ((init ++ fss.flatten).map D.str).all isTx = true := by
      rw [List.all_eq_true]
      intro x hx
      obtain ⟨y, _, rfl⟩ := List.mem_map.mp hx
      rfl
    have h2 : ((init ++ fss.flatten).map D.str).map txOf = init ++ fss.flatten := by
      rw [List.map_map]
      exact List.map_id'' (fun _ => rfl) _
    simp only [gSS, h1, h2, true_and, List.length_map]
    rw [if_pos hl]
  generalize hL : (init ++ fss.flatten).map D.str = L at e hs
  unfold S.m_fields_of
  rw [ev_Fn]
  unfold S.b_fields_of
  rw [ev_Seq]
  rw [show mSet 3 (mIf (mTb (m2 (gIn false) (.v 0) (.e (mD (.tup ([lit "term", lit "phrase", lit "prefix", lit "range"].map .str)))))) (mLst [(m2 gIxL (.v 1) (.e (mD (.int 0))))]) (mLst [])) (startD 5 [.str (lit kind), .tup vals, .tup ps]) μ1 = _ from h0]
  simp [e, hs]
/-- what Query.__init__ makes of a new instance -/
theorem iQuery_sp {k kd : Nat} {ps vals keys : List D} {ss ls : List Int} {isF : Bool} {init : List Tx} {fss : List (List Tx)} {text : Tx} (A : QAt at_ c kind) (hk : μ[k]? = some (.ins c kd [] []))
    (hin : gIn false (.str (lit kind)) (.tup (kinds4.map .str)) = some (tb isF)) (hv : if isF = true then L2.atI vals 0 = some (.str (init.headD [])) ∧ init.length = 1 else init = [])
    (h1 : ps.filterMap (dF at_ "own_size") = ss.map .int) (h2 : ps.filterMap (dF at_ "own_levels") = ls.map .int) (h3 : ps.filterMap (dF at_ "own_key") = keys) (h4 : ps.filterMap (dF at_ "own_fields") = fss.map fun f => .tup (f.map .str))
    (a1 : ∀ p ∈ ps, (dF at_ "own_size" p).isSome = true) (a2 : ∀ p ∈ ps, (dF at_ "own_levels" p).isSome = true) (a3 : ∀ p ∈ ps, (dF at_ "own_key" p).isSome = true) (a4 : ∀ p ∈ ps, (dF at_ "own_fields" p).isSome = true)
    (hl : (init ++ fss.flatten).length < 4000) (hp : ps.length < 1000) (he : ∀ e : Bool, e = decide (ps = []) → gEq true (.tup ps) (.tup []) = some (tb (!e))) (hls : ps ≠ [] → ls ≠ [])
    (hs60 : 1 + ss.sum ≤ 60) (hl8 : (if ps = [] then 0 else 1 + maxI ls) ≤ 8) :
    S.m_iQuery at_ [.obj k, .tup ps, .tup vals, .str text] μ = .ok (.fr .non) (μ.set k (.ins c kd ks6 [.tup ps, .int (1 + ss.sum), .int (if ps = [] then 0 else 1 + maxI ls), .tup [.str (lit kind), .tup vals, .tup keys], .tup ((sortT (init ++ fss.flatten)).map .str), .str text])) := by
  have hlt : k < μ.length := (List.getElem?_eq_some_iff.mp hk).1
  have hs : ∀ x : Own, (μ.set k x)[k]? = some x := fun x => List.getElem?_set_self hlt
  have l1 := fun (μ : Mem) => lc_at (μ := μ) (at_ := at_) (f := "own_size") (e := S.e1_iQuery at_) (fun _ _ => rfl) (ps := ps) (a := some (.fr (.obj k))) (b := some (.fr (.tup ps))) (c := some (.fr (.tup vals))) (d := some (.fr (.str text))) a1 (by omega)
  have l2 := fun (μ : Mem) => lc_at (μ := μ) (at_ := at_) (f := "own_levels") (e := S.e2_iQuery at_) (fun _ _ => rfl) (ps := ps) (a := some (.fr (.obj k))) (b := some (.fr (.tup ps))) (c := some (.fr (.tup vals))) (d := some (.fr (.str text))) a2 (by omega)
  have l3 := fun (μ : Mem) => lc_at (μ := μ) (at_ := at_) (f := "own_key") (e := S.e3_iQuery at_) (fun _ _ => rfl) (ps := ps) (a := some (.fr (.obj k))) (b := some (.fr (.tup ps))) (c := some (.fr (.tup vals))) (d := some (.fr (.str text))) a3 (by omega)
  rw [h1] at l1
  rw [h2] at l2
  rw [h3] at l3
  have hF := fun (μ : Mem) => fields_sp (μ := μ) (at_ := at_) (kind := kind) hin hv h4 a4 hl
  have gs : gSum [.lst (ss.map D.int)] = some (.fr (.int ss.sum)) := by simp [gSum, intsD_of]
  have gm : ps ≠ [] → gMaxL [.lst (ls.map D.int)] = some (.fr (.int (maxI ls))) := fun n => by
    have := hls n
    cases ls with
    | nil => exact absurd rfl this
    | cons y ys => simp only [gMaxL, intsD_of]
  have he := he _ rfl
  generalize ss.sum = n at *
  generalize ss.map D.int = SS at *
  generalize ls.map D.int = LS at *
  generalize (sortT (init ++ fss.flatten)).map D.str = FS at *
  have c1 : ¬ (60 : Int) < 1 + n := by omega
  by_cases e : ps = []
  · rw [if_pos e] at hl8 ⊢
    rw [decide_eq_true e] at he
    simp only [Bool.not_true] at he
    simp [S.m_iQuery, S.b_iQuery, startD, A.p, A.s, A.l, A.k, A.f, A.t, A.kd, hs, hk, l1, l3, gs, he, c1, hF]
  · rw [if_neg e] at hl8 ⊢
    rw [decide_eq_false e] at he
    simp only [Bool.not_false] at he
    have gm := gm e
    generalize maxI ls = M at *
    have c2 : ¬ (8 : Int) < 1 + M := by omega
    simp [S.m_iQuery, S.b_iQuery, startD, A.p, A.s, A.l, A.k, A.f, A.t, A.kd, hs, hk, l1, l2, l3, gs, gm, he, c1, c2, hF]
/-- .. without parts -/
theorem iQuery_leaf {k kd : Nat} {vals : List D} {isF : Bool} {init : List Tx} {text : Tx} (A : QAt at_ c kind) (hk : μ[k]? = some (.ins c kd [] []))
    (hin : gIn false (.str (lit kind)) (.tup (kinds4.map .str)) = some (tb isF)) (hv : if isF = true then L2.atI vals 0 = some (.str (init.headD [])) ∧ init.length = 1 else init = []) :
    S.m_iQuery at_ [.obj k, .tup [], .tup vals, .str text] μ = .ok (.fr .non) (μ.set k (.ins c kd ks6 [.tup [], .int 1, .int 0, .tup [.str (lit kind), .tup vals, .tup []], .tup (init.map .str), .str text])) := by
  have hb : init.length < 4000 := by
    cases isF with
    | false => have hv : init = [] := by simpa using hv
               rw [hv]; decide
    | true => have hv : init.length = 1 := by
                have := hv
                simp at this
                exact this.2
              omega
  have hso : sortT init = init := by
    cases isF with
    | false => have hv : init = [] := by simpa using hv
               rw [hv]; simp [sortT]
    | true => have hv : init.length = 1 := by
                have := hv
                simp at this
                exact this.2
              match init, hv with
              | [y], _ => simp [sortT, insT]
  have h := iQuery_sp (μ := μ) (k := k) (kd := kd) (ps := []) (vals := vals) (keys := []) (ss := []) (ls := []) (fss := []) (text := text) A hk hin hv rfl rfl rfl rfl (by simp) (by simp) (by simp) (by simp) (by simpa using hb) (by simp) (fun e he => by
    have : e = true := by rw [he]; simp
    rw [this]
    have q := eq_tints true [] []
    simpa using q) (by simp) (by simp) (by simp)
  simpa [hso] using h
theorem in_term : gIn false (.str (lit "term")) (.tup (kinds4.map .str)) = some (tb true) := by kernel_rfl
theorem in_phrase : gIn false (.str (lit "phrase")) (.tup (kinds4.map .str)) = some (tb true) := by kernel_rfl
theorem in_prefix : gIn false (.str (lit "prefix")) (.tup (kinds4.map .str)) = some (tb true) := by kernel_rfl
theorem in_range : gIn false (.str (lit "range")) (.tup (kinds4.map .str)) = some (tb true) := by kernel_rfl
theorem in_every : gIn false (.str (lit "everything")) (.tup (kinds4.map .str)) = some (tb false) := by kernel_rfl
end
end FL

/-! Part Qb: Term, Prefix, Phrase, Range, Everything are made. -/
namespace FL
open PySem L2
abbrev BQ (t : Tx) : Exc := ⟨"BadQuery", "reason", .str t⟩
theorem intT_small : ∀ k : Fin 21, (intT (k.val : Nat)).length ≤ 2 := by decide +kernel
theorem len20 {ws : List Tx} (h : ∀ w ∈ ws, w.length ≤ 20) : (ws.map List.length).sum ≤ 20 * ws.length := by
  induction ws with
  | nil => simp
  | cons w ws ih =>
    have h1 := h w (List.mem_cons_self ..)
    have h2 := ih fun v hv => h v (List.mem_cons_of_mem _ hv)
    simp only [List.map_cons, List.sum_cons, List.length_cons]
    omega
/-- notations -/
def phT (f : Tx) (ws : List Tx) (g : Int) : Tx := if g = 0 then f ++ lit ":\"" ++ joinT (lit " ") ws ++ lit "\"" else f ++ lit ":\"" ++ joinT (lit " ") ws ++ lit "\"" ++ lit "~" ++ intT g
def bdT : Option Int → Tx
  | none => []
  | some i => intT i
def bdD : Option Int → D
  | none => .non
  | some i => .int i
/-- what the constructors make -/
abbrev termD (f w : Tx) : D := qD "Term" [] 1 0 (.tup [.str (lit "term"), .tup [.str f, .str w], .tup []]) [f] (f ++ lit ":" ++ w) ["field", "word"] [.str f, .str w]
abbrev prefD (f w : Tx) : D := qD "Prefix" [] 1 0 (.tup [.str (lit "prefix"), .tup [.str f, .str w], .tup []]) [f] (f ++ lit ":" ++ w ++ lit "*") ["field", "start"] [.str f, .str w]
abbrev phraD (f : Tx) (ws : List Tx) (g : Int) : D := qD "Phrase" [] 1 0 (.tup [.str (lit "phrase"), .tup [.str f, .tup (ws.map .str), .int g], .tup []]) [f] (phT f ws g) ["field", "words", "distance"] [.str f, .tup (ws.map .str), .int g]
abbrev rangD (f : Tx) (a b : Option Int) : D := qD "Range" [] 1 0 (.tup [.str (lit "range"), .tup [.str f, bdD a, bdD b], .tup []]) [f] (f ++ lit ":[" ++ bdT a ++ lit "," ++ bdT b ++ lit "]") ["field", "low", "high"] [.str f, bdD a, bdD b]
abbrev everD : D := qD "Everything" [] 1 0 (.tup [.str (lit "everything"), .tup [], .tup []]) [] (lit "#") [] []
section
variable {μ : Mem} {at_ : String → String → Att} {k kd : Nat}
theorem wd_short {w : Tx} (h : Wd w) : shortD (.str w) = true := decide_eq_true (by have := h.2.1; omega)
theorem nm_short {w : Tx} (h : Nm w) : shortD (.str w) = true := decide_eq_true (by have := h.2.1; omega)
theorem need_word_ok {w : Tx} (h : Wd w) : S.m_need_word [.str w] μ = .ok (.fr .non) μ := by
  rw [need_word_sp (wd_short h), if_pos (show isWd (.str w) = true from decide_eq_true h)]
theorem need_field_ok {w : Tx} (h : Nm w) : S.m_need_field [.str w] μ = .ok (.fr .non) μ := by
  rw [need_field_sp (nm_short h), if_pos (show isNm (.str w) = true from decide_eq_true h)]
theorem need_word_no {d : D} (h : shortD d = true) (n : isWd d = false) : S.m_need_word [d] μ = .exc (BQ (lit "not a word")) μ := by
  rw [need_word_sp h, n]; rfl
theorem need_field_no {d : D} (h : shortD d = true) (n : isNm d = false) : S.m_need_field [d] μ = .exc (BQ (lit "not a field name")) μ := by
  rw [need_field_sp h, n]; rfl
theorem phT_sp {f : Tx} {ws : List Tx} {g : Int} (hf : Nm f) (hw : ∀ w ∈ ws, w.length ≤ 20) (h6 : ws.length ≤ 6) (g0 : 0 ≤ g) (g1 : g ≤ 20) : S.m_phrase_text [.str f, .tup (ws.map .str), .int g] μ = .ok (.fr (.str (phT f ws g))) μ := by
  have h1 := joinT_len (lit " ") ws
  have h2 := len20 hw
  have l1 : (lit " ").length = 1 := by decide
  have l2 : (lit ":\"").length = 2 := by decide
  have l3 : (lit "\"").length = 1 := by decide
  have l4 : (lit "~").length = 1 := by decide
  have hf2 := hf.2.1
  have hj : (joinT (lit " ") ws).length ≤ 200 := by rw [l1] at h1; omega
  have hlim : (ws.map List.length).sum + (lit " ").length * ws.length ≤ 16777216 := by rw [l1]; omega
  have hg : gJoin (.str (lit " ")) [.tup (ws.map .str)] = some (.fr (.str (joinT (lit " ") ws))) := by
    have e : ∀ xs : List Tx, strsD (xs.map D.str) = some xs := by
      intro xs
      induction xs with
      | nil => rfl
      | cons x xs ih => rw [List.map_cons]; simp [strsD, ih]
    simp only [gJoin, e]
    rw [if_pos (decide_eq_true hlim)]
  have hi : (intT g).length ≤ 2 := by
    have := intT_small ⟨g.toNat, by omega⟩
    have e : ((g.toNat : Nat) : Int) = g := by omega
    simpa only [e] using this
  have hlog : g.natAbs.log2 < 1920 := by
    by_cases hz : g.natAbs = 0
    · rw [hz]; decide
    · exact (Nat.log2_lt hz).mpr (by have : g.natAbs < 2 ^ 6 := by omega
                                     exact Nat.lt_of_lt_of_le this (Nat.pow_le_pow_right (by decide) (by decide)))
  have k1 : f.length + (lit ":\"").length ≤ 16777216 := by omega
  have k2 : (f ++ lit ":\"").length + (joinT (lit " ") ws).length ≤ 16777216 := by simp only [List.length_append]; omega
  have k3 : (f ++ lit ":\"" ++ joinT (lit " ") ws).length + (lit "\"").length ≤ 16777216 := by simp only [List.length_append]; omega
  have k4 : (f ++ lit ":\"" ++ joinT (lit " ") ws ++ lit "\"").length ≤ 1000 := by simp only [List.length_append]; omega
  have a1 : gAdd (.str f) (.str (lit ":\"")) = some (.fr (.str (f ++ lit ":\""))) := by rw [ev_addS, if_pos k1]
  have a2 : gAdd (.str (f ++ lit ":\"")) (.str (joinT (lit " ") ws)) = some (.fr (.str (f ++ lit ":\"" ++ joinT (lit " ") ws))) := by rw [ev_addS, if_pos k2]
  have a3 : gAdd (.str (f ++ lit ":\"" ++ joinT (lit " ") ws)) (.str (lit "\"")) = some (.fr (.str (f ++ lit ":\"" ++ joinT (lit " ") ws ++ lit "\""))) := by rw [ev_addS, if_pos k3]
  unfold phT
  rw [show S.m_phrase_text = mFn 4 S.b_phrase_text from rfl, ev_Fn]
  unfold S.b_phrase_text
  generalize f ++ lit ":\"" ++ joinT (lit " ") ws ++ lit "\"" = B at *
  generalize f ++ lit ":\"" ++ joinT (lit " ") ws = B1 at *
  generalize f ++ lit ":\"" = B2 at *
  generalize ws.map D.str = W at *
  generalize lit ":\"" = q1 at *
  generalize lit "\"" = q2 at *
  generalize lit "~" = q3 at *
  generalize lit " " = q4 at *
  have b1 : B.length ≤ 16777216 := by omega
  have b2 : B.length + q3.length ≤ 16777216 := by omega
  have b3 : B.length + (q3.length + (intT g).length) ≤ 16777216 := by omega
  by_cases z : g = 0
  · subst z
    simp [startD, a1, a2, a3, hg, -ev_addS]
  · simp [startD, a1, a2, a3, hg, z, b1, b2, b3, hlog, -ev_addS]
theorem need_words {a b c d : Option FL.Slot} : ∀ {xs : List D} {s4 : Option FL.Slot}, (∀ x ∈ xs, shortD x = true) →
    (xs.all isWd = true ∧ ∃ s, forD (turnD (tgV 4) S.f1_iPhrase) xs [a, b, c, d, s4] μ = .nx [a, b, c, d, s] μ) ∨ (xs.all isWd = false ∧ ∃ s, forD (turnD (tgV 4) S.f1_iPhrase) xs [a, b, c, d, s4] μ = .exc (BQ (lit "not a word")) [a, b, c, d, s] μ)
  | [], s4, _ => .inl ⟨rfl, s4, rfl⟩
  | x :: xs, s4, h => by
    have hx := h x (List.mem_cons_self ..)
    have e := need_word_sp (μ := μ) hx
    cases hw : isWd x with
    | false =>
      rw [hw] at e
      refine .inr ⟨by simp [hw], some (.fr x), ?_⟩
      show ((turnD (tgV 4) S.f1_iPhrase) x [a, b, c, d, s4] μ).loop _ = _
      simp [S.f1_iPhrase, e]
    | true =>
      rw [hw] at e
      have st : (turnD (tgV 4) S.f1_iPhrase) x [a, b, c, d, s4] μ = .nx [a, b, c, d, some (.fr x)] μ := by simp [S.f1_iPhrase, e]
      have st2 : ∀ r, forD (turnD (tgV 4) S.f1_iPhrase) (x :: xs) [a, b, c, d, s4] μ = r ↔ forD (turnD (tgV 4) S.f1_iPhrase) xs [a, b, c, d, some (.fr x)] μ = r := fun r => by
        have : forD (turnD (tgV 4) S.f1_iPhrase) (x :: xs) [a, b, c, d, s4] μ = forD (turnD (tgV 4) S.f1_iPhrase) xs [a, b, c, d, some (.fr x)] μ := by
          show ((turnD (tgV 4) S.f1_iPhrase) x [a, b, c, d, s4] μ).loop _ = _
          rw [st]; rfl
        rw [this]
      rcases need_words (a := a) (b := b) (c := c) (d := d) (s4 := some (.fr x)) (fun y hy => h y (List.mem_cons_of_mem _ hy)) with ⟨h1, s, h2⟩ | ⟨h1, s, h2⟩
      · exact .inl ⟨by simp [hw, h1], s, (st2 _).mpr h2⟩
      · exact .inr ⟨by simp [hw, h1], s, (st2 _).mpr h2⟩
/-- which values Phrase takes for its words -/
def goodW : D → Bool
  | .tup xs => decide (2 ≤ xs.length ∧ xs.length ≤ 6) && xs.all isWd
  | _ => false
def shortW : D → Prop
  | .tup xs => ∀ x ∈ xs, shortD x = true
  | d => flatD d = true
theorem shortW.flat {d : D} (h : shortW d) : flatD d = true := by
  cases d <;> first | rfl | exact h
theorem set3 {a b c e f : Own} : ((μ ++ [a, b]).set μ.length c) = μ ++ [c, b] := ec_set0
theorem iPhrase_ok {f : Tx} {ws : List Tx} {g : Int} (A : QAt at_ "Phrase" "phrase") (A1 : at_ "Phrase" "field" = .fld) (A2 : at_ "Phrase" "words" = .fld) (A3 : at_ "Phrase" "distance" = .fld) (hk : μ[k]? = some (.ins "Phrase" kd [] [])) (hf : Nm f) (hw : ∀ w ∈ ws, Wd w) (h2 : 2 ≤ ws.length) (h6 : ws.length ≤ 6) (g0 : 0 ≤ g) (g1 : g ≤ 20) :
    S.m_iPhrase at_ [.obj k, .str f, .tup (ws.map .str), .int g] μ = .ok (.fr .non) (μ.set k (.ins "Phrase" kd (ks6 ++ ["field", "words", "distance"]) ([.tup [], .int 1, .int 0, .tup [.str (lit "phrase"), .tup [.str f, .tup (ws.map .str), .int g], .tup []], .tup [.str f], .str (phT f ws g)] ++ [.str f, .tup (ws.map .str), .int g]))) := by
  have hlt : k < μ.length := (List.getElem?_eq_some_iff.mp hk).1
  have hs : ∀ x : Own, (μ.set k x)[k]? = some x := fun x => List.getElem?_set_self hlt
  have e1 := need_field_ok (μ := μ) hf
  have e2 := isi_tup (d := .tup (ws.map D.str)) rfl
  have e3 : (ws.map D.str).all isWd = true := by
    rw [List.all_eq_true]
    intro x hx
    obtain ⟨w, h, rfl⟩ := List.mem_map.mp hx
    exact decide_eq_true (hw w h)
  obtain ⟨s, e4⟩ : ∃ s, forD (turnD (tgV 4) S.f1_iPhrase) (ws.map D.str) [some (.fr (.obj k)), some (.fr (.str f)), some (.fr (.tup (ws.map .str))), some (.fr (.int g)), none] μ = .nx [some (.fr (.obj k)), some (.fr (.str f)), some (.fr (.tup (ws.map .str))), some (.fr (.int g)), s] μ := by
    rcases need_words (μ := μ) (a := some (.fr (.obj k))) (b := some (.fr (.str f))) (c := some (.fr (.tup (ws.map .str)))) (d := some (.fr (.int g))) (s4 := none) (xs := ws.map D.str) (fun x hx => by
      obtain ⟨w, h, rfl⟩ := List.mem_map.mp hx
      exact wd_short (hw w h)) with ⟨_, h⟩ | ⟨h, _⟩
    · exact h
    · rw [e3] at h; cases h
  have e5 := int_sp (μ := μ) (d := .int g) (lo := 0) (hi := 20) rfl
  rw [show inI 0 20 (.int g) = true from decide_eq_true ⟨g0, g1⟩] at e5
  have e6 := phT_sp (μ := μ) (f := f) (ws := ws) (g := g) hf (fun w h => by have := (hw w h).2.1; omega) h6 g0 g1
  have e7 := iQuery_leaf (μ := μ) (k := k) (kd := kd) (vals := [.str f, .tup (ws.map .str), .int g]) (init := [f]) (text := phT f ws g) A hk in_phrase (by simp; rfl)
  simp only [List.map_cons, List.map_nil] at e7
  have h2' : (2 : Int) ≤ (ws.map D.str).length := by rw [List.length_map]; omega
  have h6' : ((ws.map D.str).length : Int) ≤ 6 := by rw [List.length_map]; omega
  generalize ws.map D.str = W at *
  generalize phT f ws g = T at *
  simp [S.m_iPhrase, S.b_iPhrase, startD, e1, e2, e4, e5, e6, e7, hk, hs, A1, A2, A3, h2', h6', isTupD]
theorem iPhrase_no {f : Tx} {d e : D} (hf : Nm f) (hd : shortW d) (he : flatD e = true) (n : goodW d = false ∨ inI 0 20 e = false) : ∃ t, S.m_iPhrase at_ [.obj k, .str f, d, e] μ = .exc (BQ t) μ := by
  have e1 := need_field_ok (μ := μ) hf
  have e2 := isi_tup hd.flat
  have el := look_flatD (μ := μ) hd.flat
  have e5 := int_sp (μ := μ) (lo := 0) (hi := 20) he
  cases hT : isTupD d with
  | false =>
    rw [hT] at e2
    exact ⟨lit "expected a tuple of two to six words", by simp [S.m_iPhrase, S.b_iPhrase, startD, e1, e2, el]⟩
  | true =>
    rw [hT] at e2
    cases d <;> first | (cases hT; done) | skip
    rename_i xs
    by_cases h2 : (2 : Int) ≤ xs.length
    · by_cases h6 : (xs.length : Int) ≤ 6
      · rcases need_words (μ := μ) (a := some (.fr (.obj k))) (b := some (.fr (.str f))) (c := some (.fr (.tup xs))) (d := some (.fr e)) (s4 := none) (xs := xs) hd with ⟨h, s, e4⟩ | ⟨h, s, e4⟩
        · have : inI 0 20 e = false := by
            rcases n with n | n
            · exfalso
              have : goodW (.tup xs) = true := by
                show (decide (2 ≤ xs.length ∧ xs.length ≤ 6) && xs.all isWd) = true
                rw [h, decide_eq_true ⟨by omega, by omega⟩]
                rfl
              rw [n] at this
              cases this
            · exact n
          rw [this] at e5
          exact ⟨lit "the distance is not an integer from 0 to 20", by simp [S.m_iPhrase, S.b_iPhrase, startD, e1, e2, e4, e5, h2, h6]⟩
        · exact ⟨lit "not a word", by simp [S.m_iPhrase, S.b_iPhrase, startD, e1, e2, e4, h2, h6]⟩
      · exact ⟨lit "expected a tuple of two to six words", by simp [S.m_iPhrase, S.b_iPhrase, startD, e1, e2, h2, h6]⟩
    · exact ⟨lit "expected a tuple of two to six words", by simp [S.m_iPhrase, S.b_iPhrase, startD, e1, e2, h2]⟩
structure PhAt (at_ : String → String → Att) : Prop where
  q : QAt at_ "Phrase" "phrase"
  f : at_ "Phrase" "field" = .fld
  w : at_ "Phrase" "words" = .fld
  d : at_ "Phrase" "distance" = .fld
theorem phrase_ok {f : Tx} {ws : List Tx} {g : Int} (A : PhAt at_) (hf : Nm f) (hw : ∀ w ∈ ws, Wd w) (h2 : 2 ≤ ws.length) (h6 : ws.length ≤ 6) (g0 : 0 ≤ g) (g1 : g ≤ 20) : mkF "Phrase" (S.m_iPhrase at_) [.str f, .tup (ws.map .str), .int g] μ = .ok (.fr (phraD f ws g)) μ := by
  refine mkF_ok (ks := ks6 ++ ["field", "words", "distance"]) ?_ ?_
  · rw [iPhrase_ok (kd := μ.length + 1) A.q A.f A.w A.d ec_end0 hf hw h2 h6 g0 g1, ec_set0]
    rfl
  · simp [lb_strs]
theorem phrase_no {f : Tx} {d e : D} (hf : Nm f) (hd : shortW d) (he : flatD e = true) (n : goodW d = false ∨ inI 0 20 e = false) : ∃ t, mkF "Phrase" (S.m_iPhrase at_) [.str f, d, e] μ = .exc (BQ t) μ := by
  obtain ⟨t, h⟩ := iPhrase_no (μ := newM μ "Phrase" [] []) (at_ := at_) (k := μ.length) hf hd he n
  exact ⟨t, mkF_exc h (by simp)⟩
end
end FL

/-! Part Qc: small laws for the laws about queries. -/
namespace FL
open PySem L2
section
variable {d n : Nat}
theorem Sh.shaped {x : D} (h : Sh d n x) (hd : d ≤ 64) : ∃ q, D.py x = some q ∧ SeqAt.shaped q = true := by
  obtain ⟨q, a, b, c, l, g, k⟩ := h
  refine ⟨q, a, ?_⟩
  unfold SeqAt.shaped
  rw [l, decide_eq_true (show q.depth ≤ 64 by omega)]
  rfl
theorem eq_lst_nil (neg : Bool) {xs : List D} (h : ∀ x ∈ xs, Sh d n x) (hd : d < 64) : gEq neg (.lst xs) (.lst []) = some (tb (decide (xs = []) != neg)) := by
  obtain ⟨q, a, s⟩ := (Sh.lst h).shaped (by omega)
  have h0 := shaped_ints []
  simp only [List.map_nil] at h0
  obtain ⟨qs, a2, _⟩ := Sh.all h
  have e : q = .list qs := by
    rw [D.py, a2] at a
    cases a
    rfl
  subst e
  have e2 : PyData.eqvAll qs [] = decide (xs = []) := by
    cases xs with
    | nil => cases a2; rfl
    | cons x xs =>
      cases qs with
      | nil =>
        simp only [D.pys] at a2
        split at a2 <;> cases a2
      | cons y ys => simp [PyData.eqvAll]
  simp [gEq, eqS, eqP, a2, D.py, D.pys, s, h0, PyData.eqv, e2]
theorem eq_tup_nil (neg : Bool) {xs : List D} (h : ∀ x ∈ xs, Sh d n x) (hd : d < 64) : gEq neg (.tup xs) (.tup []) = some (tb (decide (xs = []) != neg)) := by
  obtain ⟨q, a, s⟩ := (Sh.tup h).shaped (by omega)
  have h0 := shaped_intsT []
  simp only [List.map_nil] at h0
  obtain ⟨qs, a2, _⟩ := Sh.all h
  have e : q = .tuple qs := by
    rw [D.py, a2] at a
    cases a
    rfl
  subst e
  have e2 : PyData.eqvAll qs [] = decide (xs = []) := by
    cases xs with
    | nil => cases a2; rfl
    | cons x xs =>
      cases qs with
      | nil =>
        simp only [D.pys] at a2
        split at a2 <;> cases a2
      | cons y ys => simp [PyData.eqvAll]
  simp [gEq, eqS, eqP, a2, D.py, D.pys, s, h0, PyData.eqv, e2]
theorem mem_cut {α : Type} {xs : List α} {lo hi : Option Int} {x : α} (h : x ∈ cutD xs lo hi) : x ∈ xs := List.mem_of_mem_drop (List.mem_of_mem_take h)
theorem len_cut {α : Type} (xs : List α) (lo hi : Option Int) : (cutD xs lo hi).length ≤ xs.length := by
  unfold cutD
  rw [List.length_take, List.length_drop]
  omega
end
section
variable {μ : Mem}
/-- is a value an int within bounds: the laws' way -/
theorem near_sp {e : D} {a c d4 d5 d6 d7 : Option FL.Slot} {lo hi : Int} (he : flatD e = true) : mAndV (mC gIsi [(.v 1), (.e (mD (.ty "int")))]) (mAndV (mNotV (mC gIsi [(.v 1), (.e (mD (.ty "bool")))])) (mChain gLe gLe (.e (mD (.int lo))) (.v 1) (.e (mD (.int hi))))) [a, some (.fr e), c, d4, d5, d6, d7] μ = .ok (.fr (.bl (inI lo hi e))) [a, some (.fr e), c, d4, d5, d6, d7] μ := by
  have e1 := isi_int he
  have e2 := isi_bl he
  cases e <;> first | (cases he; done) | skip
  case int i =>
    by_cases h1 : lo ≤ i <;> by_cases h2 : i ≤ hi <;> simp [e1, e2, isIntD, isBlD, inI, h1, h2]
  all_goals simp [e1, e2, isIntD, isBlD, inI]
end
end FL
namespace FL
open PySem L2
theorem Nx.seq {m n : MS} {δ : FL.Loc} {μ : Mem} {P Q : FL.Loc → Mem → Prop} (h : Nx (m δ μ) P) (k : ∀ δ μ, P δ μ → Nx (n δ μ) Q) : Nx (mSeq m n δ μ) Q := by
  obtain ⟨δ1, μ1, e, p⟩ := h
  show Nx ((m δ μ).seq n) Q
  rw [e]
  exact k δ1 μ1 p
end FL
namespace FL
open PySem L2
/-- the list of sources that the laws walk over -/
theorem sources_sp {ns : List Int} {μ : Mem} {rest : FL.Loc} {c : Nat} {n : Int} {e : ME} (hl : ns.length ≤ 63) (hc : c < rest.length) (hn : 1 ≤ n) (hn4 : n ≤ 10) (he : ∀ δ μ, e δ μ = mCall mSource [(mV 0), (mV (c + 1))] [] δ μ) :
    ∃ (K : Nat) (μ1 : Mem), 1 ≤ K ∧ K ≤ 10 ∧ mIt (mLc (mRange1 (.e (mC gMax2 [(.e (mD (.int 1))), (.e (mC gMin2 [(.e (mD (.int n))), (.e (mC gLen [(.v 0)]))]))]))) (tgV (c + 1)) mYes e [c + 1]) (some (.fr (.ro (ns.map .int))) :: rest) μ
      = .ok ((List.range K).map fun i => D.obj (μ.length + i)) (some (.fr (.ro (ns.map .int))) :: rest.set c none) μ1 ∧ (∀ i : Nat, i < K → Src μ1 (μ.length + i) 1000) ∧ (∀ i : Nat, i < μ.length → μ1[i]? = μ[i]?) ∧ μ1.length = μ.length + K := by
  have hb : ∀ L : Int, 0 ≤ L → 1 ≤ (if 1 < (if L < n then L else n) then (if L < n then L else n) else 1) ∧ (if 1 < (if L < n then L else n) then (if L < n then L else n) else 1) ≤ 10 := by
    intro L h
    by_cases h4 : L < n
    · rw [if_pos h4]; split <;> omega
    · rw [if_neg h4]; split <;> omega
  have hb := hb ns.length (by omega)
  have e1 : mC gMin2 [(.e (mD (.int n))), (.e (mC gLen [(.v 0)]))] (some (.fr (.ro (ns.map .int))) :: rest) μ = .ok (.fr (.int (if (ns.length : Int) < n then (ns.length : Int) else n))) (some (.fr (.ro (ns.map .int))) :: rest) μ := by
    simp only [ev_C, ev_evs1, ev_evs0, ev_e, ev_D, ev_b1, ev_v, List.getElem?_cons_zero, ev_ats1, ev_ats0, ev_at2, ev_at1, ev_dfr, ev_lk8, ev_lk2, ev_lenR, List.length_map, ev_lift1, ev_min2]
  generalize (if (ns.length : Int) < n then (ns.length : Int) else n) = L at e1 hb
  have e2 : mC gMax2 [(.e (mD (.int 1))), (.e (mC gMin2 [(.e (mD (.int n))), (.e (mC gLen [(.v 0)]))]))] (some (.fr (.ro (ns.map .int))) :: rest) μ = .ok (.fr (.int (if 1 < L then L else 1))) (some (.fr (.ro (ns.map .int))) :: rest) μ := by
    rw [ev_C, ev_evs1, ev_e, ev_D, ev_b1, ev_b1, ev_evs1, ev_e, e1]
    rfl
  generalize (if 1 < L then L else 1) = K at e2 hb
  have e3 : mRange1 (.e (mC gMax2 [(.e (mD (.int 1))), (.e (mC gMin2 [(.e (mD (.int n))), (.e (mC gLen [(.v 0)]))]))])) (some (.fr (.ro (ns.map .int))) :: rest) μ = .ok (rangeD 0 K.toNat) (some (.fr (.ro (ns.map .int))) :: rest) μ := by
    rw [ev_R1, ev_evs1, ev_e, e2]
    exact r1K_ok (by omega) (by omega)
  obtain ⟨s, δ', μ1, e4, acc, rfl, rfl, hacc, hlen, hsrc, hkeep⟩ := lcD_inv (f := tgV (c + 1)) (t := mYes) (m := e) (vs := [c + 1]) (fun i acc δ μ' => δ = some (.fr (.ro (ns.map .int))) :: rest.set c none ∧ acc = (List.range i).map (fun i => D.obj (μ.length + i)) ∧ μ'.length = μ.length + i ∧ (∀ i' : Nat, i' < i → Src μ' (μ.length + i') 1000) ∧ ∀ i : Nat, i < μ.length → μ'[i]? = μ[i]?)
    (rangeD 0 K.toNat) 0 [] (some (.fr (.ro (ns.map .int))) :: rest.set c none) μ ⟨rfl, rfl, rfl, fun i' h => absurd h (Nat.not_lt_zero _), fun _ _ => rfl⟩ (by rw [range_len]; simp; omega) (fun i d acc δ μ' hd ⟨hδ, hacc, hlen, hsrc, hkeep⟩ => by
      rw [Nat.zero_add] at hacc hlen hsrc ⊢
      obtain ⟨rfl, hi⟩ := range_at hd
      obtain ⟨μ2, e5, s2, t2⟩ := source_src (μ := μ') (k := (i : Nat)) hl (by omega) (by omega)
      have hg : (rest.set c (some (FL.Slot.fr (D.int (i : Nat)))))[c]? = some (some (.fr (.int (i : Nat)))) := List.getElem?_set_self hc
      refine ⟨some (.obj μ'.length), some (.fr (.ro (ns.map .int))) :: rest.set c none, μ2, ?_, rfl, ?_, ?_, ?_, ?_⟩
      · subst hδ
        have hg2 : ((rest.set c (some (FL.Slot.fr (D.int (i : Nat))))).set c (some (FL.Slot.fr (D.int (i : Nat)))))[c]? = some (some (.fr (.int (i : Nat)))) := by rw [List.set_set]; exact hg
        simp [lc1, he, e5, hg, List.set_set]
      · rw [hacc, hlen, List.range_succ, List.map_append]
        rfl
      · have h1 : μ2[μ'.length]? ≠ none := by
          obtain ⟨_, _, _, h, _⟩ := s2
          rw [h]; simp
        obtain ⟨cc, g, _, e6⟩ := source_spec (μ := μ') (k := (i : Nat)) hl (by omega) (by omega)
        rw [e5] at e6
        have e7 : μ2 = μ' ++ [.lst [.int cc, .int (3 * (i : Nat)), .int g]] := by injection e6
        rw [e7, List.length_append, hlen]
        simp
        omega
      · intro i' h'
        by_cases h2 : i' < i
        · obtain ⟨x1, x2, x3, x4, x5⟩ := hsrc i' h2
          exact ⟨x1, x2, x3, by rw [t2 _ (by omega)]; exact x4, x5⟩
        · have : i' = i := by omega
          subst this
          rw [hlen] at s2
          exact s2.mono (by omega)
      · intro i' h'
        rw [t2 _ (by omega)]
        exact hkeep i' h')
  rw [range_len, Nat.zero_add] at hacc hlen hsrc
  refine ⟨K.toNat, μ1, by omega, by omega, ?_, hsrc, hkeep, hlen⟩
  rw [ev_It, ev_Lc, e3, ev_b1, ev_wp1, ev_wp0, List.set_cons_succ, e4, ev_b1]
  simp [hacc]
end FL

namespace FL
open PySem L2
/-- what stood in memory stands there still, but for j -/
def Fw (j : Nat) (μ μ' : Mem) : Prop := μ.length ≤ μ'.length ∧ ∀ k : Nat, k < μ.length → k ≠ j → μ'[k]? = μ[k]?
theorem Fr.w {j : Nat} {μ μ' : Mem} (h : Fr j μ μ') : Fw j μ μ' := ⟨Nat.le_of_eq h.1.symm, fun k _ hk => h.2 k hk⟩
theorem Fw.refl {j : Nat} {μ : Mem} : Fw j μ μ := ⟨Nat.le_refl _, fun _ _ _ => rfl⟩
theorem Fw.trans {j : Nat} {μ μ1 μ2 : Mem} (a : Fw j μ μ1) (b : Fw j μ1 μ2) : Fw j μ μ2 := ⟨Nat.le_trans a.1 b.1, fun k hk hj => (b.2 k (by have := a.1; omega) hj).trans (a.2 k hk hj)⟩
theorem Fw.at0 {j : Nat} {μ μ' : Mem} {o : Own} (h : Fw j μ μ') (hj : j ≠ 0) (e : μ[0]? = some o) : μ'[0]? = some o := by
  rw [h.2 0 (List.getElem?_eq_some_iff.mp e).1 (Ne.symm hj)]; exact e
/-- the walk over the sources -/
theorem walk_sources {g : D → MS} {K m : Nat} {I : FL.Loc → Prop} {μ1 : Mem} {δ : FL.Loc} (hI : I δ) (hs : ∀ i : Nat, i < K → Src μ1 (m + i) 1000) (hm : m ≤ μ1.length)
    (step : ∀ (i : Nat) (δ : FL.Loc) (μ : Mem), i < K → I δ → Src μ (m + i) 1000 → (∀ k : Nat, k < m → μ[k]? = μ1[k]?) → Nx (g (.obj (m + i)) δ μ) fun δ' μ' => I δ' ∧ Fw (m + i) μ μ') :
    Nx (forD g ((List.range K).map fun i => D.obj (m + i)) δ μ1) fun δ' μ' => I δ' ∧ (∀ k : Nat, k < m → μ'[k]? = μ1[k]?) := by
  have key := forNx (g := g) (fun i δ μ => I δ ∧ (∀ k : Nat, k < m → μ[k]? = μ1[k]?) ∧ m ≤ μ.length ∧ ∀ i' : Nat, i ≤ i' → i' < K → Src μ (m + i') 1000) (ds := (List.range K).map fun i => D.obj (m + i)) (δ := δ) (μ := μ1) ⟨hI, fun _ _ => rfl, hm, fun i' _ h => hs i' h⟩ fun i d δ μ hd ⟨h1, h2, h3, h4⟩ => by
    rw [List.getElem?_map] at hd
    obtain ⟨i', hi', rfl⟩ := Option.map_eq_some_iff.mp hd
    have hlt : i < K := by
      have := (List.getElem?_eq_some_iff.mp hi').1
      simpa using this
    rw [List.getElem?_range hlt] at hi'
    cases hi'
    refine (step i δ μ hlt h1 (h4 i (Nat.le_refl _) hlt) h2).imp fun δ' μ' ⟨k1, k2⟩ => ⟨k1, fun k hk => ?_, ?_, fun i' hi1 hi2 => ?_⟩
    · rw [k2.2 k (by omega) (by omega)]; exact h2 k hk
    · have := k2.1; omega
    · obtain ⟨x1, x2, x3, x4, x5⟩ := h4 i' (by omega) hi2
      exact ⟨x1, x2, x3, by rw [k2.2 _ (List.getElem?_eq_some_iff.mp x4).1 (by omega)]; exact x4, x5⟩
  exact key.imp fun δ' μ' ⟨h1, h2, _⟩ => ⟨h1, h2⟩
end FL
namespace FL
open PySem L2
theorem shaped_tstrs {xs : List Tx} (h : ∀ x ∈ xs, ∀ c ∈ x, c < 128) : SeqAt.shaped (.tuple (xs.map fun x => PyData.str (toS x))) = true := by
  have := shaped_strs h
  simpa [SeqAt.shaped, PyData.canLay0, PyData.depth] using this
theorem eq_tstrs (neg : Bool) {xs ys : List Tx} (hx : ∀ x ∈ xs, ∀ c ∈ x, c < 128) (hy : ∀ x ∈ ys, ∀ c ∈ x, c < 128) :
    gEq neg (.tup (xs.map .str)) (.tup (ys.map .str)) = some (tb (decide (xs = ys) != neg)) := by
  simp [gEq, eqS, eqP, D.py, pys_strs, shaped_tstrs hx, shaped_tstrs hy, PyData.eqv, eqv_strs]
end FL

namespace L10
open PySem L2 FL
theorem es : m__law_source = mSource := rfl
theorem en : m__law_next = mNext := rfl
theorem ep : m__law_pick = mPick := rfl
theorem eP : m_iPhrase = S.m_iPhrase at_ := rfl
theorem A : PhAt at_ := ⟨⟨by kernel_rfl, by kernel_rfl, by kernel_rfl, by kernel_rfl, by kernel_rfl, by kernel_rfl, by kernel_rfl⟩, by kernel_rfl, by kernel_rfl, by kernel_rfl⟩
theorem p1 : pt_parts "Phrase" "parts" = some m_Query_parts := by kernel_rfl
theorem p2 : pt_size "Phrase" "size" = some m_Query_size := by kernel_rfl
theorem p3 : pt_levels "Phrase" "levels" = some m_Query_levels := by kernel_rfl
/-- the values that stand for words here -/
structure El (d : D) : Prop where
  s : shortD d = true
  a : ∀ x, d = .str x → ∀ c ∈ x, c < 128
  h : Sh 1 200 d
abbrev goods : List D := [.str (lit "a"), .str (lit "b"), .str (lit "7"), .str (List.replicate 20 120), .str (lit "a")]
abbrev odds : List D := [.str (lit ""), .str (lit "A"), .str (List.replicate 21 120), .str (lit "a b"), .non, .int 7, .tup [.str (lit "a")], .str (lit "a-")]
theorem el_str {x : Tx} (h1 : x.length < 16777216) (h2 : ∀ c ∈ x, c < 128) (h3 : (PyData.shown (.str (toS x))).length ≤ 200) : El (.str x) :=
  ⟨decide_eq_true h1, fun y e => by cases e; exact h2, .str (toS x), rfl, by simp [PyData.showable], by simp [PyData.hasDict], by simp only [PyData.canLay0]; exact strOk_ascii fun c hc => h2 c hc, by simp [PyData.depth], h3⟩
theorem el_good {d : D} (h : d ∈ goods) : El d := by
  simp only [List.mem_cons, List.not_mem_nil, or_false] at h
  rcases h with rfl | rfl | rfl | rfl | rfl <;> exact el_str (by decide +kernel) (by decide +kernel) (by decide +kernel)
theorem el_odd {d : D} (h : d ∈ odds) : El d := by
  simp only [List.mem_cons, List.not_mem_nil, or_false] at h
  rcases h with rfl | rfl | rfl | rfl | rfl | rfl | rfl | rfl <;> first
    | exact el_str (by decide +kernel) (by decide +kernel) (by decide +kernel)
    | skip
  · exact ⟨rfl, (fun x e => by cases e), .none, rfl, by simp [PyData.showable], by simp [PyData.hasDict], by simp [PyData.canLay0], by simp [PyData.depth], by decide +kernel⟩
  · exact ⟨rfl, (fun x e => by cases e), (Sh.int (by decide) (by decide)).mono (by decide) (by decide)⟩
  · exact ⟨rfl, (fun x e => by cases e), (Sh.tup (d := 0) (n := 3) fun y hy => by
      rw [List.mem_singleton.mp hy]
      exact Sh.letter (c := 97) (by decide) (by decide)).mono (by decide) (by decide)⟩
section
variable {μ : Mem} {tb : Nat → Addr}
theorem is_word_sp {d : D} (h : El d) : m__law_is_word [d] μ = .ok (.fr (.bl (isWd d))) μ := by
  have e1 := isi_st (shortD.flat h.s)
  have el := look_flatD (μ := μ) (shortD.flat h.s)
  by_cases hs : isStrD d = true
  · cases d <;> first | (cases hs; done) | skip
    rename_i x
    have hx := of_decide_eq_true (p := x.length < 16777216) h.s
    have hl : x.length ≤ 16777216 := by omega
    have hc := lcD_pure (f := tgV 2) (t := t1__law_is_word) (m := e2__law_is_word) (vs := [2]) (δ := [some (.fr (.str x)), some (.fr (.str WS)), none]) (μ := μ) (fun d => match d with | .str [c] => if c ∈ WS then none else some (.str [c]) | _ => none) (ds := chars x) (acc := []) (fun d hd => by
      obtain ⟨c, _, rfl⟩ := List.mem_map.mp hd
      by_cases hc : c ∈ WS <;> simp [lc1, t1__law_is_word, e2__law_is_word, hc]) (by simp [chars]; exact hx)
    have hfm : (chars x).filterMap (fun d => match d with | .str [c] => if c ∈ WS then none else some (.str [c]) | _ => none) = ((x.filter fun c => decide (c ∉ WS)).map fun c => [c]).map D.str := by
      clear hl hx e1 el h hs hc
      induction x with
      | nil => rfl
      | cons c x ih =>
        show List.filterMap _ (D.str [c] :: chars x) = _
        by_cases hc : c ∈ WS
        · rw [List.filterMap_cons_none (by simp [hc]), ih, List.filter_cons_of_neg (by simp [hc])]
        · rw [List.filterMap_cons_some (b := .str [c]) (by simp [hc]), ih, List.filter_cons_of_pos (by simp [hc])]
          rfl
    rw [List.nil_append, hfm] at hc
    have hq := eq_strs false (xs := (x.filter fun c => decide (c ∉ WS)).map fun c => [c]) (ys := []) (fun y hy c hcy => by
      obtain ⟨c', h1, rfl⟩ := List.mem_map.mp hy
      rw [List.mem_singleton.mp hcy]
      exact h.a x rfl c' (List.mem_filter.mp h1).1) (by simp)
    have hb : decide ((x.filter fun c => decide (c ∉ WS)).map (fun c => [c]) = []) = decide (∀ c ∈ x, c ∈ WS) := by
      rw [decide_eq_decide, List.map_eq_nil_iff, List.filter_eq_nil_iff]
      simp
    rw [hb] at hq
    simp only [List.map_nil] at hq
    generalize List.map D.str (List.map (fun c => [c]) (List.filter (fun c => decide (c ∉ WS)) x)) = L at hc hq
    by_cases h1 : (1 : Int) ≤ x.length
    · by_cases h2 : (x.length : Int) ≤ 20
      · have e : isWd (.str x) = decide (∀ c ∈ x, c ∈ WS) := by
          show decide (Wd x) = _
          rw [decide_eq_decide]
          exact ⟨fun w => w.2.2, fun w => ⟨by omega, h2, w⟩⟩
        rw [e]
        simp [m__law_is_word, b__law_is_word, startD, e1, isStrD, hl, h1, h2, ws_eq, hc, hq]
      · rw [show isWd (.str x) = false from decide_eq_false fun z : Wd x => h2 z.2.1]
        simp [m__law_is_word, b__law_is_word, startD, e1, isStrD, hl, h1, h2, ws_eq]
    · rw [show isWd (.str x) = false from decide_eq_false fun z : Wd x => h1 (by have := z.1; omega)]
      simp [m__law_is_word, b__law_is_word, startD, e1, isStrD, hl, h1, ws_eq]
  · have hs : isStrD d = false := by simpa using hs
    rw [hs] at e1
    have hw : isWd d = false := by cases d <;> first | rfl | (cases hs; done)
    rw [hw]
    simp [m__law_is_word, b__law_is_word, startD, e1, el, ws_eq]
theorem refused {act : Mem → OutF} {v : D} {a : String} {μ' : Mem} (h : act μ = .exc ⟨"BadQuery", a, v⟩ μ') : m__law_refused act μ = .ok (.fr (.bl true)) μ' := by
  simp [m__law_refused, mHelp, h, sub__law_refused, subl__law_refused, subT, r__law_refused]
  rfl
abbrev TB (tb : Nat → Addr) : Own := .tab (tb 0) "_law_phrase_right.<locals>.<lambda>"
def ElW : D → Prop
  | .tup xs => (∀ x ∈ xs, El x) ∧ xs.length < 1000
  | d => flatD d = true
theorem ElW.short {d : D} (h : ElW d) : shortW d := by
  cases d <;> first | exact h | exact fun x hx => (h.1 x hx).s
theorem good_sp {d e : D} (h : ElW d) : mAndV (mC gIsi [(.v 0), (.e (mD (.ty "tuple")))]) (mAndV (mChain gLe gLe (.e (mD (.int 2))) (.e (mC gLen [(.v 0)])) (.e (mD (.int 6)))) (m2 (gEq false) (.e (mLc (mIt (mV 0)) (tgV 6) (t1__law_phrase_right tb) (e2__law_phrase_right tb) [6])) (.e (mLst []))))
    [some (.fr d), some (.fr e), none, none, none, none, none] μ = .ok (.fr (.bl (goodW d))) [some (.fr d), some (.fr e), none, none, none, none, none] μ := by
  have e1 := isi_tup h.short.flat
  have el := look_flatD (μ := μ) h.short.flat
  cases hT : isTupD d with
  | false =>
    rw [hT] at e1
    have hw : goodW d = false := by cases d <;> first | rfl | (cases hT; done)
    rw [hw]
    simp [e1, el]
  | true =>
    rw [hT] at e1
    cases d <;> first | (cases hT; done) | skip
    rename_i xs
    obtain ⟨hx, hl⟩ := h
    have hc := lcD_pure (f := tgV 6) (t := t1__law_phrase_right tb) (m := e2__law_phrase_right tb) (vs := [6]) (δ := [some (.fr (.tup xs)), some (.fr e), none, none, none, none, none]) (μ := μ) (fun d => if isWd d = true then none else some d) (ds := xs) (acc := []) (fun d hd => by
      have := is_word_sp (μ := μ) (hx d hd)
      cases hw : isWd d <;> rw [hw] at this <;> simp [lc1, t1__law_phrase_right, e2__law_phrase_right, this]) (by simp; omega)
    rw [List.nil_append] at hc
    have hq := eq_lst_nil false (xs := xs.filterMap fun d => if isWd d = true then none else some d) (d := 1) (n := 200) (fun y hy => by
      obtain ⟨z, hz, e⟩ := List.mem_filterMap.mp hy
      split at e
      · cases e
      · cases e
        exact (hx _ hz).h) (by decide)
    have hb : decide ((xs.filterMap fun d => if isWd d = true then none else some d) = []) = xs.all isWd := by
      rw [Bool.eq_iff_iff, decide_eq_true_iff, List.filterMap_eq_nil_iff, List.all_eq_true]
      constructor
      · intro z x hx
        have := z x hx
        cases hw : isWd x with
        | true => rfl
        | false => rw [hw] at this; simp at this
      · intro z x hx
        rw [z x hx]
        rfl
    rw [hb] at hq
    generalize (xs.filterMap fun d => if isWd d = true then none else some d) = L at hc hq
    by_cases h2 : (2 : Int) ≤ xs.length
    · by_cases h6 : (xs.length : Int) ≤ 6
      · rw [show goodW (.tup xs) = xs.all isWd by show (decide (2 ≤ xs.length ∧ xs.length ≤ 6) && xs.all isWd) = _; rw [decide_eq_true ⟨by omega, by omega⟩]; rfl]
        simp [e1, h2, h6, hc, hq]
      · rw [show goodW (.tup xs) = false by show (decide (2 ≤ xs.length ∧ xs.length ≤ 6) && xs.all isWd) = _; rw [decide_eq_false (by omega)]; rfl]
        simp [e1, h2, h6]
    · rw [show goodW (.tup xs) = false by show (decide (2 ≤ xs.length ∧ xs.length ≤ 6) && xs.all isWd) = _; rw [decide_eq_false (by omega)]; rfl]
      simp [e1, h2]
theorem words_of_all {xs : List D} (h : xs.all isWd = true) : ∃ ws : List Tx, xs = ws.map .str ∧ ∀ w ∈ ws, Wd w := by
  induction xs with
  | nil => exact ⟨[], rfl, by simp⟩
  | cons x xs ih =>
    rw [List.all_cons, Bool.and_eq_true] at h
    obtain ⟨ws, e, hw⟩ := ih h.2
    cases x <;> first | (cases h.1; done) | skip
    rename_i x
    exact ⟨x :: ws, by rw [e]; rfl, fun w hm => by
      rcases List.mem_cons.mp hm with rfl | hm
      · exact of_decide_eq_true h.1
      · exact hw w hm⟩
theorem right_sp {d e : D} (h : ElW d) (he : flatD e = true) (ht : μ[0]? = some (TB tb)) : m__law_phrase_right tb [d, e] μ = .ok (.fr (.bl true)) μ := by
  have g := good_sp (μ := μ) (tb := tb) (e := e) h
  have n := near_sp (μ := μ) (e := e) (a := some (.fr d)) (c := some (.fr (.bl (goodW d)))) (d4 := none) (d5 := none) (d6 := none) (d7 := none) (lo := 0) (hi := 20) he
  have hf : Nm (lit "t") := by decide +kernel
  rw [show m__law_phrase_right tb = mFn 7 (b__law_phrase_right tb) from rfl, ev_Fn]
  unfold b__law_phrase_right
  rw [ev_Seq, ev_Set, show startD 7 [d, e] = [some (.fr d), some (.fr e), none, none, none, none, none] from rfl, g, ev_t1]
  rw [ev_s1]
  show (mSeq _ _ [some (.fr d), some (.fr e), some (.fr (.bl (goodW d))), none, none, none, none] μ).fin = _
  rw [ev_Seq, ev_Set, n, ev_t1, ev_s1]
  show (mSeq _ _ [some (.fr d), some (.fr e), some (.fr (.bl (goodW d))), some (.fr (.bl (inI 0 20 e))), none, none, none] μ).fin = _
  by_cases hb : goodW d = false ∨ inI 0 20 e = false
  · obtain ⟨t, k⟩ := phrase_no (μ := μ) (at_ := at_) hf h.short he hb
    have q : ∀ x, m__law_refused (actOf (mCallK (mkF "Phrase" m_iPhrase) [.pos 0, .pos 1, .key 0] [(mD (.str (lit "t"))), (mV 0)] [(mV 1)] []) [some (.fr d), some (.fr e), some (.fr (.bl (goodW d))), x, none, none, none]) μ = .ok (.fr (.bl true)) μ := fun x => refused (a := "reason") (v := .str t) (by simp [hide, eP, k])
    rcases hb with hb | hb
    · simp [hb, ht] at q ⊢
      simp [q]
    · cases hg : goodW d <;> simp [hb, hg, ht] at q ⊢ <;> simp [q]
  · have hb1 : goodW d = true := by cases hg : goodW d <;> simp [hg] at hb ⊢
    have hb2 : inI 0 20 e = true := by cases hg : inI 0 20 e <;> simp [hg] at hb ⊢
    cases d <;> first | (cases hb1; done) | skip
    rename_i xs
    cases e <;> first | (cases hb2; done) | skip
    rename_i i
    obtain ⟨hx, hl⟩ := h
    have hi := of_decide_eq_true (p := 0 ≤ i ∧ i ≤ 20) hb2
    rw [show goodW (.tup xs) = (decide (2 ≤ xs.length ∧ xs.length ≤ 6) && xs.all isWd) from rfl, Bool.and_eq_true, decide_eq_true_iff] at hb1
    obtain ⟨ws, rfl, hw⟩ := words_of_all hb1.2
    have hlen : 2 ≤ ws.length ∧ ws.length ≤ 6 := by simpa using hb1.1
    have k := phrase_ok (μ := μ) A hf hw hlen.1 hlen.2 hi.1 hi.2
    have hg : goodW (.tup (ws.map .str)) = true := by
      show (decide (2 ≤ (ws.map D.str).length ∧ (ws.map D.str).length ≤ 6) && (ws.map D.str).all isWd) = true
      rw [hb1.2, decide_eq_true hb1.1]
      rfl
    have sh : Sh 3 10000 (.lst [.str (lit "t"), .tup (ws.map .str), .int i, .tup [], .int 1, .int 0]) := by
      refine (Sh.lst (d := 2) (n := 1300) fun y hy => ?_).mono (by decide) (by simp)
      simp only [List.mem_cons, List.not_mem_nil, or_false] at hy
      rcases hy with rfl | rfl | rfl | rfl | rfl | rfl
      · exact (Sh.letter (c := 116) (by decide) (by decide)).mono (by decide) (by decide)
      · refine (Sh.tup (d := 1) (n := 200) fun z hz => (hx z hz).h).mono (by decide) ?_
        rw [List.length_map]
        omega
      · exact (Sh.int hi.1 (by omega)).mono (by decide) (by decide)
      · exact (Sh.tup (d := 0) (n := 0) fun z hz => by simp at hz).mono (by decide) (by decide)
      · exact (Sh.int (by decide) (by decide)).mono (by decide) (by decide)
      · exact (Sh.int (by decide) (by decide)).mono (by decide) (by decide)
    obtain ⟨t, ht2⟩ := sh.rep (by decide) (by decide)
    rw [hg, hb2]
    simp [k, eP, f3__law_phrase_right, A.f, A.w, A.d, A.q.p, A.q.s, A.q.l, p1, p2, p3, m_Query_parts, b_Query_parts, m_Query_size, b_Query_size, m_Query_levels, b_Query_levels, startD, ht2, forD]
end
end L10

namespace L10
open PySem L2 FL
abbrev gaps : List D := [.int 0, .int 1, .int 20, .int 5, .int 21, .int (-1), .non, .bl true, .str (lit "1"), .int 1000000000000000000000000000000, .tup [.int 1]]
theorem flat_gap {d : D} (h : d ∈ gaps) : flatD d = true := by
  simp only [List.mem_cons, List.not_mem_nil, or_false] at h
  rcases h with rfl | rfl | rfl | rfl | rfl | rfl | rfl | rfl | rfl | rfl | rfl <;> rfl
section
variable {μ : Mem} {tb : Nat → Addr} {z : D} {j : Nat} {B : Int} {a5 a6 a7 a8 a9 : Option FL.Slot} {s1 s2 s3 : FL.Slot}
/-- the state within a turn -/
def StT (z : D) (j : Nat) (P : Option FL.Slot → Prop) (δ : FL.Loc) : Prop := ∃ s1 s2 s3 b5 b6 b7 b8 b9, δ = [some (.fr z), some s1, some s2, some s3, some (.fr (.obj j)), b5, b6, b7, b8, b9] ∧ s1.d = .lst goods ∧ s2.d = .lst odds ∧ s3.d = .lst gaps ∧ P b6
theorem draw1 (h1 : s1.d = .lst goods) (h2 : s2.d = .lst odds) (h3 : s3.d = .lst gaps) (h : Src μ j B) (hB : B + 100 ≤ 2 ^ 40) :
    Nx (mSet 6 (mC gTuple [(.e (mLc (mRange1 (.e (mCall m__law_next [(mV 4), (mD (.int 8))] []))) (tgV 9) mYes (e2_law tb) [9]))]) [some (.fr z), some s1, some s2, some s3, some (.fr (.obj j)), a5, a6, a7, a8, a9] μ) fun δ μ' =>
      StT z j (fun b => ∃ xs, b = some (.fr (.tup xs)) ∧ (∀ x ∈ xs, x ∈ goods) ∧ xs.length ≤ 8) δ ∧ Src μ' j (B + 10) ∧ Fr j μ μ' := by
  obtain ⟨r, μ1, e1, r0, r8, hs, hf⟩ := next_spec (n := 8) h (by omega) (by decide) (by decide)
  have hr : r1K r [some (.fr z), some s1, some s2, some s3, some (.fr (.obj j)), a5, a6, a7, a8, a9] μ1 = .ok (rangeD 0 r.toNat) _ μ1 := r1K_ok (by omega) (by omega)
  obtain ⟨s, δ', μ2, e2, xs, rfl, ⟨s1', rfl, h1'⟩, hl, hm, hs2, hf2⟩ := lcD_inv (f := tgV 9) (t := mYes) (m := e2_law tb) (vs := [9]) (fun i acc δ μ' => (∃ s1', δ = [some (.fr z), some s1', some s2, some s3, some (.fr (.obj j)), a5, a6, a7, a8, none] ∧ s1'.d = .lst goods) ∧ acc.length = i ∧ (∀ x ∈ acc, x ∈ goods) ∧ Src μ' j (B + 1 + i) ∧ Fr j μ μ')
    (rangeD 0 r.toNat) 0 [] [some (.fr z), some s1, some s2, some s3, some (.fr (.obj j)), a5, a6, a7, a8, none] μ1 ⟨⟨s1, rfl, h1⟩, rfl, by simp, by simpa using hs, hf⟩ (by rw [range_len]; simp; omega) (fun i d acc δ μ' hd ⟨⟨s1', hδ, h1'⟩, hl, hm, hs, hf⟩ => by
      subst hδ
      rw [Nat.zero_add] at hl hs ⊢
      have hi := (range_at hd).2
      obtain ⟨x, μ2, hx, e, hs2, hf2⟩ := pick_lst (xs := goods) hs (by omega) (by simp) (by simp)
      refine ⟨some x, [some (.fr z), some (.fr (.lst goods)), some s2, some s3, some (.fr (.obj j)), a5, a6, a7, a8, none], μ2, ?_, ⟨_, rfl, rfl⟩, by simp [hl], fun y hy => ?_, hs2.mono (by omega), hf.trans hf2⟩
      · generalize goods = G at *
        simp [lc1, e2_law, ep, h1', e]
      · rcases List.mem_append.mp hy with hy | hy
        · exact hm y hy
        · have : y = x := by simpa using hy
          rw [this]; exact hx)
  rw [range_len, Nat.zero_add] at hl hs2
  refine ⟨[some (.fr z), some s1', some s2, some s3, some (.fr (.obj j)), a5, some (.fr (.tup xs)), a7, a8, none], μ2, ?_, ⟨s1', s2, s3, _, _, _, _, _, rfl, h1', h2, h3, xs, rfl, hm, by omega⟩, hs2.mono (by omega), hf2⟩
  simp [en, e1, hr, e2]
theorem draw2 {δ : FL.Loc} (hst : StT z j (fun b => ∃ xs, b = some (.fr (.tup xs)) ∧ (∀ x ∈ xs, x ∈ goods) ∧ xs.length ≤ 8) δ) (h : Src μ j B) (hB : B + 100 ≤ 2 ^ 40) :
    Nx (mIfS (mAnd (mTb (m2 (gEq true) (.v 6) (.e (mTup [])))) (mTb (m2 (gEq false) (.e (mCall m__law_next [(mV 4), (mD (.int 4))] [])) (.e (mD (.int 0)))))) (mSeq (mSet 7 (mCall m__law_next [(mV 4), (mC gLen [(.v 6)])] []))
    (mSet 6 (m2 gAdd (.e (m2 gAdd (.e (mSl gSl (.v 6) mNoP (mP (mV 7)))) (.e (mTup [(mCall m__law_pick [(mV 4), (mV 2)] [])])))) (.e (mSl gSl (.v 6) (mP (m2 gAdd (.v 7) (.e (mD (.int 1))))) mNoP)))))
    mPass δ μ) fun δ μ' => StT z j (fun b => ∃ d, b = some (.fr d) ∧ ElW d ∧ isTupD d = true) δ ∧ Src μ' j (B + 10) ∧ Fr j μ μ' := by
  obtain ⟨s1, s2, s3, b5, b6, b7, b8, b9, rfl, h1, h2, h3, xs, rfl, hm, hl⟩ := hst
  have hE : ∀ x ∈ xs, El x := fun x hx => el_good (hm x hx)
  have q := eq_tup_nil true (xs := xs) (d := 1) (n := 200) (fun x hx => (hE x hx).h) (by decide)
  by_cases hx : xs = []
  · rw [decide_eq_true hx] at q
    refine ⟨[some (.fr z), some s1, some s2, some s3, some (.fr (.obj j)), b5, some (.fr (.tup xs)), b7, b8, b9], μ, by simp [q], ⟨s1, s2, s3, _, _, _, _, _, rfl, h1, h2, h3, _, rfl, ⟨hE, by omega⟩, rfl⟩, h.mono (by omega), .refl⟩
  · rw [decide_eq_false hx] at q
    obtain ⟨r, μ1, e1, r0, r4, hs, hf⟩ := next_spec (n := 4) h (by omega) (by decide) (by decide)
    by_cases hr : r = 0
    · subst hr
      have hp := List.length_pos_iff.mpr hx
      obtain ⟨p, μ2, e2, p0, p1, hs2, hf2⟩ := next_spec (n := xs.length) hs (by omega) (by omega) (by omega)
      obtain ⟨x, μ3, hx3, e3, hs3, hf3⟩ := pick_lst (xs := odds) hs2 (by omega) (by simp) (by simp)
      have k1 := len_cut xs none (some p)
      have k2 := len_cut xs (some (p + 1)) none
      have k3 : (cutD xs none (some p)).length + 1 ≤ 16777216 := by omega
      have k4 : (cutD xs none (some p) ++ [x]).length + (cutD xs (some (p + 1)) none).length ≤ 16777216 := by
        rw [List.length_append]; simp; omega
      have m1 : ∀ y ∈ cutD xs none (some p), El y := fun y hy => hE y (mem_cut hy)
      have m2' : ∀ y ∈ cutD xs (some (p + 1)) none, El y := fun y hy => hE y (mem_cut hy)
      refine ⟨[some (.fr z), some s1, some (.fr (.lst odds)), some s3, some (.fr (.obj j)), b5, some (.fr (.tup (cutD xs none (some p) ++ [x] ++ cutD xs (some (p + 1)) none))), some (.fr (.int p)), b8, b9], μ3, ?_, ⟨s1, _, s3, _, _, _, _, _, rfl, h1, rfl, h3, _, rfl, ⟨fun y hy => ?_, ?_⟩, rfl⟩, hs3.mono (by omega), (hf.trans hf2).trans hf3⟩
      · have g1 : gAdd (.tup (cutD xs none (some p))) (.tup [x]) = some (.fr (.tup (cutD xs none (some p) ++ [x]))) := by
          simp [gAdd, gInt, gAddS, gAddL, gAddT, k3]
        have g2 : gAdd (.tup (cutD xs none (some p) ++ [x])) (.tup (cutD xs (some (p + 1)) none)) = some (.fr (.tup (cutD xs none (some p) ++ [x] ++ cutD xs (some (p + 1)) none))) := by
          simp only [gAdd, gInt, gAddS, gAddL, gAddT, Option.or, if_pos k4]
        generalize cutD xs none (some p) ++ [x] ++ cutD xs (some (p + 1)) none = C3 at *
        generalize cutD xs none (some p) ++ [x] = C2 at *
        generalize hO : odds = O at *
        simp [q, en, ep, e1, e2, e3, h2, g1, g2]
      · rcases List.mem_append.mp hy with hy | hy
        · rcases List.mem_append.mp hy with hy | hy
          · exact m1 y hy
          · rw [List.mem_singleton.mp hy]; exact el_odd hx3
        · exact m2' y hy
      · rw [List.length_append, List.length_append]; simp; omega
    · refine ⟨[some (.fr z), some s1, some s2, some s3, some (.fr (.obj j)), b5, some (.fr (.tup xs)), b7, b8, b9], μ1, by simp [q, en, e1, hr], ⟨s1, s2, s3, _, _, _, _, _, rfl, h1, h2, h3, _, rfl, ⟨hE, by omega⟩, rfl⟩, hs.mono (by omega), hf⟩
theorem draw3 {δ : FL.Loc} (hst : StT z j (fun b => ∃ d, b = some (.fr d) ∧ ElW d ∧ isTupD d = true) δ) (h : Src μ j B) (hB : B + 100 ≤ 2 ^ 40) :
    Nx (mIfS (mTb (m2 (gEq false) (.e (mCall m__law_next [(mV 4), (mD (.int 6))] [])) (.e (mD (.int 0))))) (mSet 6 (mCall m__law_pick [(mV 4), (mLst [(mC gList [(.v 6)]), (mD .non), (mD (.str (lit "a b"))), (mD (.int 5)), mDct0, (mD (.str (lit "ab")))])] []))
    mPass δ μ) fun δ μ' => StT z j (fun b => ∃ d, b = some (.fr d) ∧ ElW d) δ ∧ Src μ' j (B + 10) ∧ Fr j μ μ' := by
  obtain ⟨s1, s2, s3, b5, b6, b7, b8, b9, rfl, h1, h2, h3, d, rfl, hE, hT⟩ := hst
  obtain ⟨r, μ1, e1, r0, r4, hs, hf⟩ := next_spec (n := 6) h (by omega) (by decide) (by decide)
  by_cases hr : r = 0
  · subst hr
    cases d <;> first | (cases hT; done) | skip
    rename_i xs
    obtain ⟨x, μ3, hx3, e3, hs3, hf3⟩ := pick_lst (xs := [.lst xs, .non, .str (lit "a b"), .int 5, .dct [] [], .str (lit "ab")]) hs (by omega) (by simp) (by simp)
    refine ⟨[some (.fr z), some s1, some s2, some s3, some (.fr (.obj j)), b5, some (.fr x), b7, b8, b9], μ3, by simp [en, ep, e1, e3, gList], ⟨s1, s2, s3, _, _, _, _, _, rfl, h1, h2, h3, _, rfl, ?_⟩, hs3.mono (by omega), hf.trans hf3⟩
    simp only [List.mem_cons, List.not_mem_nil, or_false] at hx3
    rcases hx3 with rfl | rfl | rfl | rfl | rfl | rfl <;> rfl
  · exact ⟨[some (.fr z), some s1, some s2, some s3, some (.fr (.obj j)), b5, some (.fr d), b7, b8, b9], μ1, by simp [en, e1, hr], ⟨s1, s2, s3, _, _, _, _, _, rfl, h1, h2, h3, _, rfl, hE⟩, hs.mono (by omega), hf⟩
theorem draw4 {δ : FL.Loc} (hst : StT z j (fun b => ∃ d, b = some (.fr d) ∧ ElW d) δ) (h : Src μ j B) (hB : B + 100 ≤ 2 ^ 40) (hj : j ≠ 0) (ht : μ[0]? = some (TB tb)) :
    Nx (mIfS (mNot (mTb (mCall (m__law_phrase_right tb) [(mV 6), (mCall m__law_pick [(mV 4), (mV 3)] [])] []))) (mRet (mD (.bl false)))
    mPass δ μ) fun δ μ' => StT z j (fun _ => True) δ ∧ Src μ' j (B + 10) ∧ Fr j μ μ' := by
  obtain ⟨s1, s2, s3, b5, b6, b7, b8, b9, rfl, h1, h2, h3, d, rfl, hE⟩ := hst
  obtain ⟨x, μ3, hx3, e3, hs3, hf3⟩ := pick_lst (xs := gaps) h (by omega) (by simp) (by simp)
  have k := right_sp (μ := μ3) (tb := tb) hE (flat_gap hx3) (hf3.at0 hj ht)
  refine ⟨[some (.fr z), some s1, some s2, some (.fr (.lst gaps)), some (.fr (.obj j)), b5, some (.fr d), b7, b8, b9], μ3, ?_, ⟨s1, s2, _, _, _, _, _, _, rfl, h1, h2, rfl, trivial⟩, hs3.mono (by omega), hf3⟩
  generalize gaps = G at *
  simp [ep, e3, h3, k]
theorem turn_sp {δ : FL.Loc} {t : Int} (hst : StT z j (fun _ => True) δ) (h : Src μ j B) (hB : B + 1000 ≤ 2 ^ 40) (hj : j ≠ 0) (ht : μ[0]? = some (TB tb)) :
    Nx (turnD (tgV 5) (f3_law tb) (.int t) δ μ) fun δ μ' => StT z j (fun _ => True) δ ∧ Src μ' j (B + 40) ∧ Fr j μ μ' := by
  obtain ⟨s1, s2, s3, b5, b6, b7, b8, b9, rfl, h1, h2, h3, _⟩ := hst
  rw [ev_turn, ev_tgV]
  show Nx (f3_law tb [some (.fr z), some s1, some s2, some s3, some (.fr (.obj j)), some (.fr (.int t)), b6, b7, b8, b9] μ) _
  unfold f3_law
  refine Nx.seq (draw1 (tb := tb) h1 h2 h3 h (by omega)) fun δ1 μ1 ⟨c1, d1, f1⟩ => ?_
  refine Nx.seq (draw2 c1 d1 (by omega)) fun δ2 μ2 ⟨c2, d2, f2⟩ => ?_
  refine Nx.seq (draw3 c2 d2 (by omega)) fun δ3 μ3 ⟨c3, d3, f3⟩ => ?_
  exact (draw4 c3 d3 (by omega) hj (((f1.trans f2).trans f3).at0 hj ht)).imp fun δ4 μ4 ⟨c4, d4, f4⟩ => ⟨c4, d4.mono (by omega), ((f1.trans f2).trans f3).trans f4⟩
/-- the turns over one source -/
theorem source_sp {δ : FL.Loc} {o : Option FL.Slot} (hst : ∃ s1 s2 s3 b5 b6 b7 b8 b9, δ = [some (.fr z), some s1, some s2, some s3, o, b5, b6, b7, b8, b9] ∧ s1.d = .lst goods ∧ s2.d = .lst odds ∧ s3.d = .lst gaps) (h : Src μ j B) (hB : B + 1000 ≤ 2 ^ 39) (hj : j ≠ 0) (ht : μ[0]? = some (TB tb)) :
    Nx (turnD (tgV 4) (f4_law tb) (.obj j) δ μ) fun δ μ' => StT z j (fun _ => True) δ ∧ Fr j μ μ' := by
  obtain ⟨s1, s2, s3, b5, b6, b7, b8, b9, rfl, h1, h2, h3⟩ := hst
  rw [ev_turn, ev_tgV]
  show Nx (f4_law tb [some (.fr z), some s1, some s2, some s3, some (.fr (.obj j)), b5, b6, b7, b8, b9] μ) _
  have key := forNx (g := turnD (tgV 5) (f3_law tb)) (fun i δ μ' => StT z j (fun _ => True) δ ∧ Src μ' j (B + i * 40) ∧ Fr j μ μ') (ds := rangeD 0 8) (δ := [some (.fr z), some s1, some s2, some s3, some (.fr (.obj j)), b5, b6, b7, b8, b9]) (μ := μ)
    ⟨⟨s1, s2, s3, _, _, _, _, _, rfl, h1, h2, h3, trivial⟩, h.mono (by omega), .refl⟩ fun i d δ μ' hd ⟨c, hs, hf⟩ => by
      obtain ⟨rfl, hi⟩ := range_at hd
      exact (turn_sp c hs (by omega) hj (hf.at0 hj ht)).imp fun δ μ2 ⟨x1, x2, x3⟩ => ⟨x1, x2.mono (by omega), hf.trans x3⟩
  have hF : f4_law tb [some (.fr z), some s1, some s2, some s3, some (.fr (.obj j)), b5, b6, b7, b8, b9] μ = forD (turnD (tgV 5) (f3_law tb)) (rangeD 0 8) [some (.fr z), some s1, some s2, some s3, some (.fr (.obj j)), b5, b6, b7, b8, b9] μ := by
    have hr : r1K 8 [some (.fr z), some s1, some s2, some s3, some (.fr (.obj j)), b5, b6, b7, b8, b9] μ = .ok (rangeD 0 8) _ μ := r1K_ok (by decide) (by decide)
    unfold f4_law
    rw [ev_For, ev_R1]
    simp only [ev_evs1, ev_evs0, ev_e, ev_D, ev_b1, ev_dfr, ev_ats1, ev_ats0, ev_at1, ev_lk2, hr, ev_t1]
  rw [hF]
  exact key.imp fun δ μ2 ⟨x1, x2, x3⟩ => ⟨x1, x3⟩
end
theorem law_ok (tb : Nat → Addr) (ns : List Int) (hl : ns.length ≤ 63) : ∃ μ, m_law tb [.ro (ns.map .int)] [.tab (tb 0) (Str.ofString "_law_phrase_right.<locals>.<lambda>")] = .ok (.fr (.bl true)) μ := by
  have q1 : gMulB (.str (lit "x")) (.int 20) = some (.fr (.str (List.replicate 20 120))) := mulB_one (by decide) (by decide)
  have q2 : gMulB (.str (lit "x")) (.int 21) = some (.fr (.str (List.replicate 21 120))) := mulB_one (by decide) (by decide)
  have pw : FL.gPow (.int 10) (.int 30) = some (.fr (.int 1000000000000000000000000000000)) := by simp [gPow, gInt]
  have h1 : mPar 1 2 (mLst [(mD (.str (lit "a"))), (mD (.str (lit "b"))), (mD (.str (lit "7"))), (m2 gMulB (.e (mD (.str (lit "x")))) (.e (mD (.int 20)))), (mD (.str (lit "a")))]) (mLst [(mD (.str (lit ""))), (mD (.str (lit "A"))), (m2 gMulB (.e (mD (.str (lit "x")))) (.e (mD (.int 21)))), (mD (.str (lit "a b"))), (mD .non), (mD (.int 7)), (mTup [(mD (.str (lit "a")))]), (mD (.str (lit "a-")))]) (startD 10 [.ro (ns.map .int)]) [TB tb]
      = .nx [some (.fr (.ro (ns.map .int))), some (.own (.lst goods)), some (.own (.lst odds)), none, none, none, none, none, none, none] [TB tb] := by
    unfold goods odds
    generalize List.replicate 20 120 = R1 at *
    generalize List.replicate 21 120 = R2 at *
    simp [startD, q1, q2]
  have h2 : mSet 3 (mLst [(mD (.int 0)), (mD (.int 1)), (mD (.int 20)), (mD (.int 5)), (mD (.int 21)), (m2 gSub (.e (mD (.int 0))) (.e (mD (.int 1)))), (mD .non), (mD (.bl true)), (mD (.str (lit "1"))), (m2 gPow (.e (mD (.int 10))) (.e (mD (.int 30)))), (mTup [(mD (.int 1))])]) [some (.fr (.ro (ns.map .int))), some (.own (.lst goods)), some (.own (.lst odds)), none, none, none, none, none, none, none] [TB tb]
      = .nx [some (.fr (.ro (ns.map .int))), some (.own (.lst goods)), some (.own (.lst odds)), some (.own (.lst gaps)), none, none, none, none, none, none] [TB tb] := by
    generalize goods = G1
    generalize odds = G2
    simp [pw]
  obtain ⟨K, μ1, k1, k10, e3, hs, hkeep, hlen⟩ := sources_sp (ns := ns) (μ := [TB tb]) (rest := [some (.own (.lst goods)), some (.own (.lst odds)), some (.own (.lst gaps)), none, none, none, none, none, none]) (c := 7) (n := 3) (e := e1_law tb) hl (by simp) (by decide) (by decide) (fun δ μ => rfl)
  obtain ⟨δ, μ2, e4, hst, hk2⟩ := walk_sources (g := turnD (tgV 4) (f4_law tb)) (K := K) (m := 1) (I := fun δ => ∃ s1 s2 s3 o b5 b6 b7 b8 b9, δ = [some (.fr (.ro (ns.map .int))), some s1, some s2, some s3, o, b5, b6, b7, b8, b9] ∧ s1.d = .lst goods ∧ s2.d = .lst odds ∧ s3.d = .lst gaps)
    (δ := [some (.fr (.ro (ns.map .int))), some (.own (.lst goods)), some (.own (.lst odds)), some (.own (.lst gaps)), none, none, none, none, none, none]) (μ1 := μ1) ⟨_, _, _, _, _, _, _, _, _, rfl, rfl, rfl, rfl⟩ hs (by rw [hlen]; simp) fun i δ μ hi ⟨s1, s2, s3, o, b5, b6, b7, b8, b9, hδ, h1, h2, h3⟩ hsr hk => by
      have ht : μ[0]? = some (TB tb) := by
        rw [hk 0 (by decide), hkeep 0 (by simp)]
        rfl
      exact (source_sp (o := o) ⟨s1, s2, s3, b5, b6, b7, b8, b9, hδ, h1, h2, h3⟩ hsr (by decide) (by omega) ht).imp fun δ' μ' ⟨⟨s1, s2, s3, b5, b6, b7, b8, b9, hδ, h1, h2, h3, _⟩, hf⟩ => ⟨⟨s1, s2, s3, _, b5, b6, b7, b8, b9, hδ, h1, h2, h3⟩, hf.w⟩
  obtain ⟨s1, s2, s3, o, b5, b6, b7, b8, b9, rfl, -, -, -⟩ := hst
  have hf : Nm (lit "t") := by decide +kernel
  have ka := phrase_ok (μ := μ2) (f := lit "t") (ws := [lit "a", lit "b"]) (g := 0) A hf (by decide +kernel) (by decide) (by decide) (by decide) (by decide)
  have kb := phrase_ok (μ := μ2) (f := lit "t") (ws := [lit "a", lit "a"]) (g := 0) A hf (by decide +kernel) (by decide) (by decide) (by decide) (by decide)
  have qe := eq_tstrs false (xs := [lit "a", lit "a"]) (ys := [lit "a", lit "a"]) (by decide +kernel) (by decide +kernel)
  simp only [List.map_cons, List.map_nil, decide_true] at ka kb qe
  rw [show m_law tb = mFn 10 (b_law tb) from rfl, ev_Fn]
  unfold b_law
  refine ⟨μ2, ?_⟩
  rw [ev_Seq, show ([Own.tab (tb 0) (Str.ofString "_law_phrase_right.<locals>.<lambda>")] : Mem) = [TB tb] from rfl, h1, ev_s1, ev_Seq, h2, ev_s1, ev_Seq, ev_For, e3, ev_t1]
  show ((forD (turnD (tgV 4) (f4_law tb)) (List.map (fun i => D.obj (1 + i)) (List.range K)) [some (.fr (.ro (ns.map .int))), some (.own (.lst goods)), some (.own (.lst odds)), some (.own (.lst gaps)), none, none, none, none, none, none] μ1).seq _).fin = _
  rw [e4, ev_s1]
  simp [eP, ka, kb, A.d, A.w, qe]
end L10

namespace L10
open PySem PySem.Spec PyProof.Rows L2 FL LamX
theorem txt {w : World} {mg : Str → Option Value} {h base : Heap} {K : PySem.W.Frag} (X : K.In h) (G : h.Ns mainGlobals mg) (c : HkSays fs ds ts K) (_ : K.In base) (_ : base.Ns mainGlobals mg) (TB : ∀ p ∈ csOf K ts, TabB base mg p.1 p.2.1) : Txt (tbOf K ts) PySem.Challenge.pw_findlang_k10_phrases w K mg base where
  n_all := He.free_ok X G (c.fact 0 rfl)
  n_bool := He.free_ok X G (c.fact 1 rfl)
  n_int := He.free_ok X G (c.fact 2 rfl)
  n_isinstance := He.free_ok X G (c.fact 3 rfl)
  n_len := He.free_ok X G (c.fact 4 rfl)
  n_list := He.free_ok X G (c.fact 5 rfl)
  n_max := He.free_ok X G (c.fact 6 rfl)
  n_min := He.free_ok X G (c.fact 7 rfl)
  n_range := He.free_ok X G (c.fact 8 rfl)
  n_repr := He.free_ok X G (c.fact 9 rfl)
  n_set := He.free_ok X G (c.fact 10 rfl)
  n_sorted := He.free_ok X G (c.fact 11 rfl)
  n_str := He.free_ok X G (c.fact 12 rfl)
  n_sum := He.free_ok X G (c.fact 13 rfl)
  n_super := He.free_ok X G (c.fact 14 rfl)
  n_tuple := He.free_ok X G (c.fact 15 rfl)
  c_LEAST_WORDS := He.int_ok X G (c.fact 16 rfl)
  c_LETTERS := He.str_ok X G (c.fact 17 rfl)
  c_MAX_DISTANCE := He.int_ok X G (c.fact 18 rfl)
  c_MAX_LEVELS := He.int_ok X G (c.fact 19 rfl)
  c_MAX_NAME := He.int_ok X G (c.fact 20 rfl)
  c_MAX_SIZE := He.int_ok X G (c.fact 21 rfl)
  c_MAX_WORD := He.int_ok X G (c.fact 22 rfl)
  c_MOST_WORDS := He.int_ok X G (c.fact 23 rfl)
  c_WORD_SIGNS := He.str_ok X G (c.fact 24 rfl)
  t_FIELD_KINDS := tTup_ok X G (c.fact 25 rfl)
  x_BadQuery := (let ⟨_, Fx⟩ := c.fk 0 rfl rfl; xcH (h := h) sup_BadQuery (He.glo_ok X G (c.fact 26 rfl)) (He.free_ok X G (c.fact 14 rfl)) (c.fact 27 rfl) Fx (tCell_ok (c.fact 28 rfl)) (fun _ _ _ _ _ _ _ us hl => match us, hl with | [_, _], _ => by kernel_rfl))
  s__law_refused := ⟨_, He.glo_ok X G (c.fact 26 rfl), subs_of X G subl__law_refused (c.fact 29 rfl)⟩
  c_Phrase := He.glo_ok X G (c.fact 30 rfl)
  atts := attsOk_of X G attl (c.fact 31 rfl)
  prp := prpB_of X G prps (c.fact 32 rfl)
  mk_Phrase := (by have e : fAdF K (pM "Phrase" "__init__") = _ := tInit_ok (c.fact 33 rfl); rw [e]; exact He.mkr_ok (c.fact 34 rfl))
  f_iQuery := c.fd 1 rfl rfl
  f_iPhrase := c.fk 2 rfl rfl
  ce_iPhrase := (tCell_ok (c.fact 35 rfl))
  s_iPhrase := (let ⟨_, Fx⟩ := c.fk 2 rfl rfl; supP_of (sc := sc_iPhrase) Fx (tCell_ok (c.fact 35 rfl)) (He.free_ok X G (c.fact 14 rfl)) (by kernel_rfl) ⟨_, rfl, rfl⟩ (by kernel_rfl) (by decide +kernel) (by decide +kernel) (by decide +kernel) rfl)
  f_Query_parts := c.fd 3 rfl rfl
  f_Query_size := c.fd 4 rfl rfl
  f_Query_levels := c.fd 5 rfl rfl
  sb_Phrase := supB_of (He.glo_ok X G (c.fact 30 rfl)) (c.fact 36 rfl)
  kw_Phrase_distance := tKwI_ok (c.fact 37 rfl)
  d__law_source := (let ⟨_, Fx⟩ := c.fd 6 rfl rfl; ⟨_, _, Fx, (tFn_ok X G (c.fact 38 rfl)).1, (tFn_ok X G (c.fact 38 rfl)).2⟩)
  d__law_next := (let ⟨_, Fx⟩ := c.fd 7 rfl rfl; ⟨_, _, Fx, (tFn_ok X G (c.fact 39 rfl)).1, (tFn_ok X G (c.fact 39 rfl)).2⟩)
  d__law_pick := (let ⟨_, Fx⟩ := c.fd 8 rfl rfl; ⟨_, _, Fx, (tFn_ok X G (c.fact 40 rfl)).1, (tFn_ok X G (c.fact 40 rfl)).2⟩)
  d__law_is_word := (let ⟨_, Fx⟩ := c.fd 9 rfl rfl; ⟨_, _, Fx, (tFn_ok X G (c.fact 41 rfl)).1, (tFn_ok X G (c.fact 41 rfl)).2⟩)
  d__law_refused := (let ⟨_, Fx⟩ := c.fd 10 rfl rfl; ⟨_, _, Fx, (tFn_ok X G (c.fact 42 rfl)).1, (tFn_ok X G (c.fact 42 rfl)).2⟩)
  d_is_made_of := (let ⟨_, Fx⟩ := c.fd 11 rfl rfl; ⟨_, _, Fx, (tFn_ok X G (c.fact 43 rfl)).1, (tFn_ok X G (c.fact 43 rfl)).2⟩)
  d_is_field_name := (let ⟨_, Fx⟩ := c.fd 12 rfl rfl; ⟨_, _, Fx, (tFn_ok X G (c.fact 44 rfl)).1, (tFn_ok X G (c.fact 44 rfl)).2⟩)
  d_need_field := (let ⟨_, Fx⟩ := c.fd 13 rfl rfl; ⟨_, _, Fx, (tFn_ok X G (c.fact 45 rfl)).1, (tFn_ok X G (c.fact 45 rfl)).2⟩)
  d_is_word := (let ⟨_, Fx⟩ := c.fd 14 rfl rfl; ⟨_, _, Fx, (tFn_ok X G (c.fact 46 rfl)).1, (tFn_ok X G (c.fact 46 rfl)).2⟩)
  d_need_word := (let ⟨_, Fx⟩ := c.fd 15 rfl rfl; ⟨_, _, Fx, (tFn_ok X G (c.fact 47 rfl)).1, (tFn_ok X G (c.fact 47 rfl)).2⟩)
  d_is_integer := (let ⟨_, Fx⟩ := c.fd 16 rfl rfl; ⟨_, _, Fx, (tFn_ok X G (c.fact 48 rfl)).1, (tFn_ok X G (c.fact 48 rfl)).2⟩)
  d_fields_of := (let ⟨_, Fx⟩ := c.fd 17 rfl rfl; ⟨_, _, Fx, (tFn_ok X G (c.fact 49 rfl)).1, (tFn_ok X G (c.fact 49 rfl)).2⟩)
  d_phrase_text := (let ⟨_, Fx⟩ := c.fd 18 rfl rfl; ⟨_, _, Fx, (tFn_ok X G (c.fact 50 rfl)).1, (tFn_ok X G (c.fact 50 rfl)).2⟩)
  d__law_phrase_right := (let ⟨_, Fx⟩ := c.fl 19 rfl rfl; ⟨_, _, _, Fx, TB _ (List.mem_of_getElem? (i := 0) rfl), (tFn_ok X G (c.fact 51 rfl)).1, (tFn_ok X G (c.fact 51 rfl)).2⟩)
theorem lawF (w : World) (mg : Str → Option Value) (fa : Addr) (h : Heap) (K : PySem.W.Frag) (X : K.In h) (c : HkSays fs ds ts K) (G : h.Ns mainGlobals mg) (hfa : mg "law" = some (.ref fa)) :
    ∃ fd : FuncData, (∀ (s : Shared) (u : Value), BindsTo s fd ⟨[u], []⟩ [("_law_script", u)]) ∧
      ∀ base : Heap, K.In base → base.Ns mainGlobals mg → (∀ p ∈ csOf K ts, TabB base mg p.1 p.2.1) → FnG PySem.Challenge.pw_findlang_k10_phrases w K mg base (L2.CX PySem.Challenge.pw_findlang_k10_phrases w) 200 fa fd ["_law_script"] (spM K mg (m_law (tbOf K ts)) 1) := by
  have e := hfa.symm.trans (tFn_ok X G (c.fact 52 rfl)).1
  cases e
  obtain ⟨fd, Fx⟩ := c.fd 20 rfl rfl
  refine ⟨fd, fun s u => ?_, fun base hb hg TB => (g_law Fx (txt X G c hb hg TB)).mono (by decide)⟩
  obtain ⟨_, _, _, _, _, _, _, _, _, rfl, _, _⟩ := Fx.ex
  exact .of_eq (by kernel_rfl)
theorem lawM (K : PySem.W.Frag) (ns : List Int) (hl : ns.length ≤ 63) : ∃ μ', m_law (tbOf K ts) [.ro (ns.map .int)] (memT (csOf K ts)) = .ok (.fr (.bl true)) μ' := law_ok (tbOf K ts) ns hl
end L10
open PySem PySem.Spec PySem.W PySem.Calls PyProof.Rows in
set_option maxRecDepth 100000 in
set_option maxHeartbeats 0 in
theorem PySem.Challenge.cw_findlang_k10_phrases_holds : PySem.Challenge.rw_findlang_k10_phrases.Holds := by
  w_on; o_law
  refine HandSHeadRun.head_any (r := OpenLaw.row PySem.Challenge.rw_findlang_k10_phrases) (q := view (OpenLaw.row PySem.Challenge.rw_findlang_k10_phrases).prog [71]) (H := L10.hk) (ob := L10.ob) (M := 30000) (loose := L10.names) (d := HandSHeadRun.topDef (OpenLaw.row PySem.Challenge.rw_findlang_k10_phrases).prog 71) (kwd := []) L10.ob_eq
    (by kernel_rfl) (fun s => by kernel_rfl) L10.run (by kernel_rfl) (by kernel_rfl) (by kernel_rfl) (by rfl) (by first | assumption | decide +kernel) (by decide +kernel) ⟨rfl, rfl, rfl, rfl, rfl, by decide +kernel⟩ ?hw ?hc
  case hw => w_witness2
  case hc => exact FL.walkH (l := PySem.Challenge.rw_findlang_k10_phrases) (k := 200) (n := 5) (m := L10.m_law) rfl (by kernel_rfl) FL.room_caller L10.lawF L10.lawM
