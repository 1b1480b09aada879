import PyProof.Rows.All
import Wide.All
import OpenK.AllK
import Wide.FinOn
import HandS.ForMost
import HandS.ForExc
import HandS.CallSlots
import HandS.ExcInit
import HandS.Wide
import HandS.IsInst
import HandS.Flow
import HandS.Lambda
import HandS.EndTab
import HandS.TupAny
import HandS.More
import HandS.SortRule
import HandS.Iter
import HandS.Deep
import HandS.DictComp
import KE.GoesEnum
import PySem.Challenge.RW_findlang_k93_lists_made_again
set_option Elab.async false
set_option linter.all false
set_option maxRecDepth 100000
set_option maxHeartbeats 4000000
/-! Part A: data as trees, what stands for them in the abstract heap, the state of the mirror machine. -/
namespace FL
open PySem L2 LamX

/-- a text by its code points -/
abbrev Tx := List Nat
def toS (x : Tx) : Str := ⟨x.toArray⟩
theorem toS_cps (x : Tx) : (toS x).cps.toList = x := rfl
theorem toS_len (x : Tx) : (toS x).length = x.length := by simp [toS, Str.length]
theorem toS_of (z : Str) : toS z.cps.toList = z := by cases z; simp [toS]
theorem toS_app (x y : Tx) : toS x ++ toS y = toS (x ++ y) := by
  show Str.append (toS x) (toS y) = _
  simp [toS, Str.append]
theorem toS_inj {x y : Tx} (h : toS x = toS y) : x = y := by
  have := congrArg (fun z => z.cps.toList) h
  simpa [toS] using this
/-- written text -/
def lit (s : String) : Tx := s.toList.map Char.toNat
theorem ofS_lit (s : String) : Str.ofString s = toS (lit s) := Str.ofString_eq_toList s
theorem cps_lit (s : String) : (Str.ofString s).cps.toList = lit s := by rw [ofS_lit]; rfl

/-- keys of dicts -/
inductive DK where
  | i (n : Int) | s (x : Tx)
  deriving DecidableEq
def DK.key : DK → Key
  | .i n => .inl n
  | .s x => .inr (toS x)
/-- data -/
inductive D where
  | non | bl (b : Bool) | int (i : Int) | str (x : Tx)
  | lst (xs : List D) | tup (xs : List D)
  | ro (xs : List D)
  | dct (ks : List DK) (vs : List D)
  | obj (k : Nat)
  | glo (x : String)
  | ty (n : String)
  | exn (c attr : String) (v : D)
  | unk

/-- what is owned: it may be changed -/
inductive Own where
  | lst (xs : List D)
  | dct (ks : List DK) (vs : List D)
  | tab (P : Addr) (q : Str)
def Own.d : Own → D
  | .lst xs => .lst xs
  | .dct ks vs => .dct ks vs
  | .tab _ _ => .unk
inductive Slot where
  | fr (d : D) | own (o : Own)
def Slot.d : Slot → D
  | .fr d => d
  | .own o => o.d

section
variable (K : PySem.W.Frag) (mg : Str → Option Value) (F : Hp) (ρ : List Addr)
mutual
inductive Rep : V → D → Prop where
  | non : Rep .non .non
  | bl {b} : Rep (.bl b) (.bl b)
  | int {i} : Rep (.int i) (.int i)
  | str {x} : Rep (.str (toS x)) (.str x)
  | lst {p vs ds} (h : F p = some (.lst vs)) (r : RepL vs ds) : Rep (.ref p) (.lst ds)
  | ro {p vs ds} (h : SqL K F p vs) (r : RepL vs ds) : Rep (.ref p) (.ro ds)
  | tup {p vs ds} (h : SqT K F p vs) (r : RepL vs ds) : Rep (.ref p) (.tup ds)
  | dct {p ks vs ds} (h : Rd F p (.dK ((ks.map DK.key).zip vs))) (l : ks.length = vs.length) (r : RepL vs ds) : Rep (.ref p) (.dct ks ds)
  | obj {k p} (h : ρ[k]? = some p) : Rep (.ref p) (.obj k)
  | glo {x v u} (h : mg (Str.ofString x) = some u) (r : RelV v u) : Rep v (.glo x)
  | ty {n} : Rep (.ty n) (.ty n)
  | exn {c attr C dx v d p} (h : mg (Str.ofString c) = some (.ref C)) (e : Rd F dx (.xd [(Str.ofString attr, v)])) (r : Rep v d) : Rep (.ref p) (.exn c attr d)
  | unk {p} : Rep (.ref p) .unk
inductive RepL : List V → List D → Prop where
  | nil : RepL [] []
  | cons {v d vs ds} (h : Rep v d) (t : RepL vs ds) : RepL (v :: vs) (d :: ds)
end
end

/-- F' has what F has; what is new in it is free in Z -/
structure Le (Z F F' : Hp) : Prop where
  to : ∀ p o, F p = some o → F' p = some o
  new : ∀ p o, F' p = some o → F p = some o ∨ Z p = none
structure LeR (Z : Hp) (ρ ρ' : List Addr) : Prop where
  to : ∀ (k : Nat) p, ρ[k]? = some p → ρ'[k]? = some p
  new : ∀ p ∈ ρ', p ∈ ρ ∨ Z p = none
theorem Le.refl {Z F : Hp} : Le Z F F := ⟨fun _ _ h => h, fun _ _ h => .inl h⟩
theorem Le.trans {Z F F1 F2 : Hp} (a : Le Z F F1) (b : Le Z F1 F2) : Le Z F F2 :=
  ⟨fun p o h => b.to p o (a.to p o h), fun p o h => (b.new p o h).elim (fun h => a.new p o h) .inr⟩
theorem LeR.refl {Z : Hp} {ρ : List Addr} : LeR Z ρ ρ := ⟨fun _ _ h => h, fun _ h => .inl h⟩
theorem LeR.trans {Z : Hp} {ρ ρ1 ρ2 : List Addr} (a : LeR Z ρ ρ1) (b : LeR Z ρ1 ρ2) : LeR Z ρ ρ2 :=
  ⟨fun k p h => b.to k p (a.to k p h), fun p h => (b.new p h).elim (fun h => a.new p h) .inr⟩

section
variable {K : PySem.W.Frag} {mg : Str → Option Value} {Z F F' : Hp} {ρ ρ' : List Addr}
theorem Rd.up (l : ∀ p o, F p = some o → F' p = some o) {p : Addr} {u : HO} (h : Rd F p u) : Rd F' p u := by
  rcases h with h | ⟨o, h⟩
  · exact .inl (l _ _ h)
  · exact .inr ⟨o, l _ _ h⟩
theorem SqL.up (l : ∀ p o, F p = some o → F' p = some o) {p : Addr} {xs : List V} (h : SqL K F p xs) : SqL K F' p xs :=
  h.elim (fun h => .inl (Rd.up l h)) .inr
theorem SqT.up (l : ∀ p o, F p = some o → F' p = some o) {p : Addr} {xs : List V} (h : SqT K F p xs) : SqT K F' p xs :=
  h.elim (fun h => .inl (Rd.up l h)) .inr
mutual
theorem Rep.up (l : ∀ p o, F p = some o → F' p = some o) (lr : ∀ (k : Nat) p, ρ[k]? = some p → ρ'[k]? = some p) :
    ∀ {v : V} {d : D}, Rep K mg F ρ v d → Rep K mg F' ρ' v d
  | _, _, .non => .non
  | _, _, .bl => .bl
  | _, _, .int => .int
  | _, _, .str => .str
  | _, _, .lst h r => .lst (l _ _ h) (RepL.up l lr r)
  | _, _, .ro h r => .ro (SqL.up l h) (RepL.up l lr r)
  | _, _, .tup h r => .tup (SqT.up l h) (RepL.up l lr r)
  | _, _, .dct h e r => .dct (Rd.up l h) e (RepL.up l lr r)
  | _, _, .obj h => .obj (lr _ _ h)
  | _, _, .glo h r => .glo h r
  | _, _, .ty => .ty
  | _, _, .exn h e r => .exn h (Rd.up l e) (Rep.up l lr r)
  | _, _, .unk => .unk
theorem RepL.up (l : ∀ p o, F p = some o → F' p = some o) (lr : ∀ (k : Nat) p, ρ[k]? = some p → ρ'[k]? = some p) :
    ∀ {vs : List V} {ds : List D}, RepL K mg F ρ vs ds → RepL K mg F' ρ' vs ds
  | _, _, .nil => .nil
  | _, _, .cons h t => .cons (Rep.up l lr h) (RepL.up l lr t)
end
theorem RepL.len : ∀ {vs : List V} {ds : List D}, RepL K mg F ρ vs ds → vs.length = ds.length
  | _, _, .nil => rfl
  | _, _, .cons _ t => by rw [List.length_cons, List.length_cons, RepL.len t]
theorem RepL.app : ∀ {vs ws : List V} {ds es : List D}, RepL K mg F ρ vs ds → RepL K mg F ρ ws es → RepL K mg F ρ (vs ++ ws) (ds ++ es)
  | _, _, _, _, .nil, h => h
  | _, _, _, _, .cons h t, r => .cons h (RepL.app t r)
theorem RepL.get : ∀ {vs : List V} {ds : List D} {i : Nat} {d : D}, RepL K mg F ρ vs ds → ds[i]? = some d → ∃ v, vs[i]? = some v ∧ Rep K mg F ρ v d
  | _, _, _, _, .nil, e => by simp at e
  | _, _, 0, _, .cons h _, e => by simp at e; subst e; exact ⟨_, rfl, h⟩
  | _, _, i + 1, _, .cons _ t, e => by
    obtain ⟨v, h1, h2⟩ := RepL.get (i := i) t (by simpa using e)
    exact ⟨v, by simpa using h1, h2⟩
theorem RepL.getV : ∀ {vs : List V} {ds : List D} {i : Nat} {v : V}, RepL K mg F ρ vs ds → vs[i]? = some v → ∃ d, ds[i]? = some d ∧ Rep K mg F ρ v d
  | _, _, _, _, .nil, e => by simp at e
  | _, _, 0, _, .cons h _, e => by simp at e; subst e; exact ⟨_, rfl, h⟩
  | _, _, i + 1, _, .cons _ t, e => by
    obtain ⟨v, h1, h2⟩ := RepL.getV (i := i) t (by simpa using e)
    exact ⟨v, by simpa using h1, h2⟩
theorem RepL.take : ∀ {vs : List V} {ds : List D} (n : Nat), RepL K mg F ρ vs ds → RepL K mg F ρ (vs.take n) (ds.take n)
  | _, _, 0, _ => .nil
  | _, _, _ + 1, .nil => .nil
  | _, _, n + 1, .cons h t => .cons h (RepL.take n t)
theorem RepL.drop : ∀ {vs : List V} {ds : List D} (n : Nat), RepL K mg F ρ vs ds → RepL K mg F ρ (vs.drop n) (ds.drop n)
  | _, _, 0, r => r
  | _, _, _ + 1, .nil => .nil
  | _, _, n + 1, .cons h t => RepL.drop n t
theorem RepL.set {v : V} {d : D} (r : Rep K mg F ρ v d) : ∀ {vs : List V} {ds : List D} (i : Nat), RepL K mg F ρ vs ds → RepL K mg F ρ (vs.set i v) (ds.set i d)
  | _, _, _, .nil => .nil
  | _, _, 0, .cons _ t => .cons r t
  | _, _, i + 1, .cons h t => .cons h (RepL.set r i t)
theorem RepL.erase : ∀ {vs : List V} {ds : List D} (i : Nat), RepL K mg F ρ vs ds → RepL K mg F ρ (vs.eraseIdx i) (ds.eraseIdx i)
  | _, _, _, .nil => .nil
  | _, _, 0, .cons _ t => t
  | _, _, i + 1, .cons h t => .cons h (RepL.erase i t)
theorem RepL.rev {vs : List V} {ds : List D} (h : RepL K mg F ρ vs ds) : RepL K mg F ρ vs.reverse ds.reverse := by
  induction vs generalizing ds with
  | nil => cases h; exact .nil
  | cons v vs ih =>
    cases h with
    | cons h t =>
      rw [List.reverse_cons, List.reverse_cons]
      exact (ih t).app (.cons h .nil)
theorem RepL.ints : ∀ {vs : List V} {ns : List Int}, RepL K mg F ρ vs (ns.map D.int) → vs = ns.map V.int := by
  intro vs ns
  induction ns generalizing vs with
  | nil => intro h; cases h; rfl
  | cons n ns ih =>
    intro h
    rw [List.map_cons] at h
    cases h with
    | cons h t =>
      cases h
      rw [List.map_cons, ih t]
theorem RepL.ofInts : ∀ (ns : List Int), RepL K mg F ρ (ns.map V.int) (ns.map D.int)
  | [] => .nil
  | _ :: ns => .cons .int (RepL.ofInts ns)
theorem RepL.strs : ∀ {vs : List V} {xs : List Tx}, RepL K mg F ρ vs (xs.map D.str) → vs = (xs.map toS).map V.str := by
  intro vs xs
  induction xs generalizing vs with
  | nil => intro h; cases h; rfl
  | cons n ns ih =>
    intro h
    rw [List.map_cons] at h
    cases h with
    | cons h t =>
      cases h
      rw [List.map_cons, List.map_cons, ih t]
theorem RepL.ofStrs : ∀ (xs : List Tx), RepL K mg F ρ ((xs.map toS).map V.str) (xs.map D.str)
  | [] => .nil
  | _ :: ns => .cons .str (RepL.ofStrs ns)
theorem RepL.bls : ∀ {vs : List V} {xs : List Bool}, RepL K mg F ρ vs (xs.map D.bl) → vs = xs.map V.bl := by
  intro vs xs
  induction xs generalizing vs with
  | nil => intro h; cases h; rfl
  | cons n ns ih =>
    intro h
    rw [List.map_cons] at h
    cases h with
    | cons h t =>
      cases h
      rw [List.map_cons, ih t]
end

abbrev Loc := List (Option Slot)
abbrev Mem := List Own
section
variable (K : PySem.W.Frag) (mg : Str → Option Value)
/-- an owned thing stands at p -/
def OwnR (F : Hp) (ρ : List Addr) (H : Hp) (p : Addr) : Own → Prop
  | .lst ds => ∃ vs, H p = some (.lst vs) ∧ RepL K mg F ρ vs ds
  | .dct ks ds => ∃ vs, H p = some (.dK ((ks.map DK.key).zip vs)) ∧ ks.length = vs.length ∧ RepL K mg F ρ vs ds
  | .tab P q => p = P ∧ ∃ ps, H p = some (.tbl ps) ∧ TriplesOk ps.toList ∧ ∀ (pos : Pos) (cv : Value), codeAmong pos ps.toList = some cv → ∃ c, cv = .ref c ∧ F c = some (CodeO c q)
structure Free (Z F : Hp) (ρ : List Addr) (p : Addr) : Prop where
  f : F p = none
  z : Z p = none
  r : p ∉ ρ
/-- what a slot's value is -/
def SlotR (Z F : Hp) (ρ : List Addr) (H : Hp) (v : V) : Slot → Prop
  | .fr d => Rep K mg F ρ v d
  | .own o => ∃ p, v = .ref p ∧ Free Z F ρ p ∧ OwnR K mg F ρ H p o
structure Sim (Z F : Hp) (ρ : List Addr) (μ : Mem) (δ : Loc) (σ : St) (H : Hp) : Prop where
  le : ∀ p o, F p = some o → H p = some o ∨ ∃ ob kvs, o = .dK kvs ∧ H p = some (.frz ob (.dK kvs))
  zk : ∀ p o, Z p = some o → H p = some o
  len : σ.length = δ.length
  slot : ∀ (i : Nat) s, δ[i]? = some (some s) → ∃ v, σ[i]? = some (some v) ∧ SlotR K mg Z F ρ H v s
  apart : ∀ (i j : Nat) p s s', δ[i]? = some (some (.own s)) → δ[j]? = some (some (.own s')) → σ[i]? = some (some (.ref p)) → σ[j]? = some (some (.ref p)) → i = j
  mem : ∀ (k : Nat) c, μ[k]? = some c → ∃ a, ρ[k]? = some a ∧ F a = none ∧ Z a = none ∧ OwnR K mg F ρ H a c
  mlen : ρ.length = μ.length
  nod : ρ.Nodup
/-- a value that came: as a slot's, and what is owned stands in no slot -/
structure VR (Z F : Hp) (ρ : List Addr) (δ : Loc) (σ : St) (H : Hp) (v : V) (s : Slot) : Prop where
  r : SlotR K mg Z F ρ H v s
  no : ∀ o p, s = .own o → v = .ref p → ∀ (i : Nat) o', δ[i]? = some (some (.own o')) → σ[i]? ≠ some (some (.ref p))
end

section
variable {K : PySem.W.Frag} {mg : Str → Option Value} {Z F F' : Hp} {ρ ρ' : List Addr} {μ : Mem} {δ : Loc} {σ : St} {H H' : Hp} {p : Addr} {o : HO} {v : V} {s : Slot}
theorem OwnR.up {c : Own} (l : ∀ p o, F p = some o → F' p = some o) (lr : ∀ (k : Nat) p, ρ[k]? = some p → ρ'[k]? = some p) (hp : H' p = H p) (h : OwnR K mg F ρ H p c) : OwnR K mg F' ρ' H' p c := by
  cases c with
  | lst ds =>
    obtain ⟨vs, e, r⟩ := h
    exact ⟨vs, by rw [hp]; exact e, r.up l lr⟩
  | dct ks ds =>
    obtain ⟨vs, e, n, r⟩ := h
    exact ⟨vs, by rw [hp]; exact e, n, r.up l lr⟩
  | tab P q =>
    obtain ⟨e0, ps, e, t, r⟩ := h
    exact ⟨e0, ps, by rw [hp]; exact e, t, fun pos cv hc => by
      obtain ⟨c, e1, e2⟩ := r pos cv hc
      exact ⟨c, e1, l _ _ e2⟩⟩
theorem OwnR.some {c : Own} (h : OwnR K mg F ρ H p c) : ∃ o, H p = Option.some o := by
  cases c with
  | lst ds => obtain ⟨vs, e, r⟩ := h; exact ⟨_, e⟩
  | dct ks ds => obtain ⟨vs, e, n, r⟩ := h; exact ⟨_, e⟩
  | tab P q => obtain ⟨_, ps, e, _⟩ := h; exact ⟨_, e⟩
theorem Sim.rd (S : Sim K mg Z F ρ μ δ σ H) {u : HO} (h : Rd F p u) : Rd H p u := by
  rcases h with h | ⟨ob, h⟩
  · rcases S.le p u h with q | ⟨ob, kvs, e, q⟩
    · exact .inl q
    · subst e; exact .inr ⟨ob, q⟩
  · rcases S.le p _ h with q | ⟨ob, kvs, e, q⟩
    · exact .inr ⟨_, q⟩
    · have e' : HO.frz _ u = HO.dK kvs := e
      cases e'
theorem Sim.notIn (S : Sim K mg Z F ρ μ δ σ H) (h : H p = none) : F p = none ∧ Z p = none ∧ p ∉ ρ ∧ ∀ (i : Nat) s, δ[i]? = some (some (.own s)) → σ[i]? ≠ some (some (.ref p)) := by
  refine ⟨?_, ?_, ?_, ?_⟩
  · cases e : F p with
    | none => rfl
    | some o =>
      rcases S.le p o e with q | ⟨_, _, _, q⟩ <;> rw [h] at q <;> cases q
  · cases e : Z p with
    | none => rfl
    | some o => have := S.zk p o e; rw [h] at this; cases this
  · intro hm
    obtain ⟨k, hk⟩ := List.getElem?_of_mem hm
    have hlt : k < μ.length := by
      rw [← S.mlen]; exact (List.getElem?_eq_some_iff.mp hk).1
    obtain ⟨a, e, _, _, r⟩ := S.mem k μ[k] (List.getElem?_eq_getElem hlt)
    rw [hk] at e; cases e
    obtain ⟨o, q⟩ := r.some
    rw [h] at q; cases q
  · intro i s hi hs
    obtain ⟨v, e, p', ev, fr, r⟩ := S.slot i _ hi
    rw [hs] at e; cases e
    cases ev
    obtain ⟨o, q⟩ := r.some
    rw [h] at q; cases q
theorem Sim.free (S : Sim K mg Z F ρ μ δ σ H) (h : H p = none) : Free Z F ρ p := let ⟨a, b, c, _⟩ := S.notIn h; ⟨a, b, c⟩

/-- H' has what was there and is not p's; p is no owned thing of the state -/
theorem Sim.heap (S : Sim K mg Z F ρ μ δ σ H) (hk : ∀ a, a ≠ p → H' a = H a) (hF : F p = none) (hZ : Z p = none) (hρ : p ∉ ρ)
    (hs : ∀ (i : Nat) s, δ[i]? = some (some (.own s)) → σ[i]? ≠ some (some (.ref p))) : Sim K mg Z F ρ μ δ σ H' := by
  refine ⟨fun a u h => ?_, fun a u h => ?_, S.len, fun i s h => ?_, S.apart, fun k c h => ?_, S.mlen, S.nod⟩
  · have ne : a ≠ p := fun e => by
      subst e
      rw [hF] at h; cases h
    have := S.le a u h
    rw [hk a ne]; exact this
  · have ne : a ≠ p := fun e => by subst e; rw [hZ] at h; cases h
    rw [hk a ne]; exact S.zk a u h
  · obtain ⟨v, e, r⟩ := S.slot i s h
    refine ⟨v, e, ?_⟩
    cases s with
    | fr d => exact r
    | own c =>
      obtain ⟨q, ev, fr, r⟩ := r
      subst ev
      have ne : q ≠ p := fun z => by subst z; exact hs i c h e
      exact ⟨q, rfl, fr, r.up (fun _ _ h => h) (fun _ _ h => h) (hk q ne)⟩
  · obtain ⟨a, e, f1, f2, r⟩ := S.mem k c h
    have ne : a ≠ p := fun z => by subst z; exact hρ (List.mem_of_getElem? e)
    exact ⟨a, e, f1, f2, r.up (fun _ _ h => h) (fun _ _ h => h) (hk a ne)⟩
theorem Sim.laid (S : Sim K mg Z F ρ μ δ σ H) (h : H p = none) : Sim K mg Z F ρ μ δ σ (upd H p o) := by
  obtain ⟨a, b, c, d⟩ := S.notIn h
  exact S.heap (fun q ne => upd_ne ne) a b c d
/-- a thing that no slot owns is locked for good -/
theorem Sim.freeze (S : Sim K mg Z F ρ μ δ σ H) (h : H p = some o) (fr : Free Z F ρ p) (hs : ∀ (i : Nat) s, δ[i]? = some (some (.own s)) → σ[i]? ≠ some (some (.ref p))) :
    Le Z F (upd F p o) ∧ Sim K mg Z (upd F p o) ρ μ δ σ H := by
  have to : ∀ q u, F q = some u → upd F p o q = some u := fun q u e => by
    rw [upd_ne (fun z => by subst z; rw [fr.f] at e; cases e)]; exact e
  refine ⟨⟨to, fun q u e => ?_⟩, ⟨fun q u e => ?_, S.zk, S.len, fun i s e => ?_, S.apart, fun k c e => ?_, S.mlen, S.nod⟩⟩
  · by_cases z : q = p
    · subst z; exact .inr fr.z
    · rw [upd_ne z] at e; exact .inl e
  · by_cases z : q = p
    · subst z
      rw [upd_same] at e; cases e; exact .inl h
    · refine S.le q u ?_
      rw [upd_ne z] at e; exact e
  · obtain ⟨v, e1, r⟩ := S.slot i s e
    refine ⟨v, e1, ?_⟩
    cases s with
    | fr d => exact Rep.up to (fun _ _ h => h) r
    | own c =>
      obtain ⟨q, ev, f1, r⟩ := r
      subst ev
      have ne : q ≠ p := fun z => by subst z; exact hs i c e e1
      exact ⟨q, rfl, ⟨by rw [upd_ne ne]; exact f1.f, f1.z, f1.r⟩, r.up to (fun _ _ h => h) rfl⟩
  · obtain ⟨a, e1, f1, f2, r⟩ := S.mem k c e
    have ne : a ≠ p := fun z => by subst z; exact fr.r (List.mem_of_getElem? e1)
    exact ⟨a, e1, by rw [upd_ne ne]; exact f1, f2, r.up to (fun _ _ h => h) rfl⟩
/-- what an owned thing is, locked -/
theorem OwnR.rep {c : Own} (h : OwnR K mg F ρ H p c) : ∃ o, H p = Option.some o ∧ ∀ F' ρ', (∀ p o, F p = Option.some o → F' p = Option.some o) → (∀ (k : Nat) p, ρ[k]? = Option.some p → ρ'[k]? = Option.some p) → F' p = Option.some o → Rep K mg F' ρ' (.ref p) c.d := by
  cases c with
  | lst ds =>
    obtain ⟨vs, e, r⟩ := h
    exact ⟨_, e, fun F' ρ' l lr q => .lst q (r.up l lr)⟩
  | dct ks ds =>
    obtain ⟨vs, e, n, r⟩ := h
    exact ⟨_, e, fun F' ρ' l lr q => .dct (.inl q) n (r.up l lr)⟩
  | tab P q =>
    obtain ⟨_, ps, e, _⟩ := h
    exact ⟨_, e, fun F' ρ' l lr q => .unk⟩
/-- a value that came is locked -/
theorem Sim.lock (S : Sim K mg Z F ρ μ δ σ H) (h : VR K mg Z F ρ δ σ H v s) : ∃ F', Le Z F F' ∧ Sim K mg Z F' ρ μ δ σ H ∧ Rep K mg F' ρ v s.d := by
  cases s with
  | fr d => exact ⟨F, .refl, S, h.r⟩
  | own c =>
    obtain ⟨p, ev, fr, r⟩ := h.r
    subst ev
    obtain ⟨o, e, rep⟩ := r.rep
    obtain ⟨l, S'⟩ := S.freeze e fr (h.no c p rfl rfl)
    exact ⟨_, l, S', rep _ _ l.to (fun _ _ h => h) upd_same⟩
/-- the slot i is set -/
theorem Sim.store {i : Nat} (S : Sim K mg Z F ρ μ δ σ H) (h : VR K mg Z F ρ δ σ H v s) (hi : i < δ.length) : Sim K mg Z F ρ μ (δ.set i (some s)) (σ.set i (some v)) H := by
  refine ⟨S.le, S.zk, by simp [S.len], fun j t e => ?_, fun j k p t t' e1 e2 e3 e4 => ?_, S.mem, S.mlen, S.nod⟩
  · by_cases z : j = i
    · subst z
      rw [List.getElem?_set_self hi] at e
      cases e
      exact ⟨v, List.getElem?_set_self (by rw [S.len]; exact hi), h.r⟩
    · rw [List.getElem?_set_ne (Ne.symm z)] at e
      obtain ⟨w, e1, r⟩ := S.slot j t e
      exact ⟨w, by rw [List.getElem?_set_ne (Ne.symm z)]; exact e1, r⟩
  · by_cases z1 : j = i
    · by_cases z2 : k = i
      · rw [z1, z2]
      · subst z1
        rw [List.getElem?_set_self hi] at e1
        cases e1
        rw [List.getElem?_set_self (by rw [S.len]; exact hi)] at e3
        cases e3
        rw [List.getElem?_set_ne (Ne.symm z2)] at e2 e4
        exact absurd e4 (h.no _ _ rfl rfl k _ e2)
    · by_cases z2 : k = i
      · subst z2
        rw [List.getElem?_set_self hi] at e2
        cases e2
        rw [List.getElem?_set_self (by rw [S.len]; exact hi)] at e4
        cases e4
        rw [List.getElem?_set_ne (Ne.symm z1)] at e1 e3
        exact absurd e3 (h.no _ _ rfl rfl j _ e1)
      · rw [List.getElem?_set_ne (Ne.symm z1)] at e1 e3
        rw [List.getElem?_set_ne (Ne.symm z2)] at e2 e4
        exact S.apart j k p t t' e1 e2 e3 e4
/-- the slot i is known no longer, or holds nothing -/
theorem Sim.forget {i : Nat} {x : Option V} (S : Sim K mg Z F ρ μ δ σ H) : Sim K mg Z F ρ μ (δ.set i none) (σ.set i x) H := by
  refine ⟨S.le, S.zk, by simp [S.len], fun j t e => ?_, fun j k p t t' e1 e2 e3 e4 => ?_, S.mem, S.mlen, S.nod⟩
  · by_cases z : j = i
    · subst z
      by_cases hj : j < δ.length
      · rw [List.getElem?_set_self hj] at e; cases e
      · rw [List.getElem?_eq_none (by simpa using hj)] at e; cases e
    · rw [List.getElem?_set_ne (Ne.symm z)] at e
      obtain ⟨w, e1, r⟩ := S.slot j t e
      exact ⟨w, by rw [List.getElem?_set_ne (Ne.symm z)]; exact e1, r⟩
  · have n : ∀ {j : Nat} {t}, (δ.set i none)[j]? = some (some t) → j ≠ i := fun {j t} e z => by
      subst z
      by_cases hj : j < δ.length
      · rw [List.getElem?_set_self hj] at e; cases e
      · rw [List.getElem?_eq_none (by simpa using hj)] at e; cases e
    have z1 := n e1
    have z2 := n e2
    rw [List.getElem?_set_ne (Ne.symm z1)] at e1 e3
    rw [List.getElem?_set_ne (Ne.symm z2)] at e2 e4
    exact S.apart j k p t t' e1 e2 e3 e4
/-- the slot i is locked where it stands -/
theorem Sim.lockAt {i : Nat} (S : Sim K mg Z F ρ μ δ σ H) (e : δ[i]? = some (some s)) :
    ∃ F' v, Le Z F F' ∧ σ[i]? = some (some v) ∧ Sim K mg Z F' ρ μ (δ.set i (some (.fr s.d))) σ H ∧ Rep K mg F' ρ v s.d := by
  obtain ⟨v, ev, r⟩ := S.slot i s e
  have hi : i < δ.length := (List.getElem?_eq_some_iff.mp e).1
  have same : σ.set i (some v) = σ := by
    apply List.ext_getElem?
    intro j
    by_cases z : j = i
    · subst z; rw [List.getElem?_set_self (by rw [S.len]; exact hi), ev]
    · rw [List.getElem?_set_ne (Ne.symm z)]
  cases s with
  | fr d =>
    have S1 := S.store (i := i) (v := v) (s := .fr d) ⟨r, fun o p z => by cases z⟩ hi
    rw [same] at S1
    exact ⟨F, v, .refl, ev, S1, r⟩
  | own c =>
    obtain ⟨p, evp, fr, r⟩ := r
    subst evp
    obtain ⟨o, eo, rep⟩ := r.rep
    have S0 := S.forget (i := i) (x := some (.ref p))
    rw [same] at S0
    obtain ⟨l, S1⟩ := S0.freeze eo fr (fun j t ej => by
      have nj : j ≠ i := fun z => by
        subst z; rw [List.getElem?_set_self hi] at ej; cases ej
      rw [List.getElem?_set_ne (Ne.symm nj)] at ej
      intro q
      exact nj (S.apart j i p t c ej e q ev))
    have rp := rep _ ρ l.to (fun _ _ h => h) upd_same
    have S2 := S1.store (i := i) (v := .ref p) (s := .fr c.d) ⟨rp, fun o p z => by cases z⟩ (by simpa using hi)
    rw [same, List.set_set] at S2
    exact ⟨_, _, l, ev, S2, rp⟩
/-- what slot i owns is changed -/
theorem Sim.write {i : Nat} {c c' : Own} (S : Sim K mg Z F ρ μ δ σ H) (e : δ[i]? = some (some (.own c))) (ev : σ[i]? = some (some (.ref p))) (r : OwnR K mg F ρ (upd H p o) p c') :
    Sim K mg Z F ρ μ (δ.set i (some (.own c'))) σ (upd H p o) := by
  obtain ⟨v, ev', q, evq, fr, r0⟩ := S.slot i _ e
  rw [ev] at ev'; cases ev'; cases evq
  have hi : i < δ.length := (List.getElem?_eq_some_iff.mp e).1
  have same : σ.set i (some (.ref p)) = σ := by
    apply List.ext_getElem?
    intro j
    by_cases z : j = i
    · subst z; rw [List.getElem?_set_self (by rw [S.len]; exact hi), ev]
    · rw [List.getElem?_set_ne (Ne.symm z)]
  have S0 := S.forget (i := i) (x := some (.ref p))
  rw [same] at S0
  have no : ∀ (j : Nat) t, (δ.set i none)[j]? = some (some (.own t)) → σ[j]? ≠ some (some (.ref p)) := fun j t ej q => by
    have nj : j ≠ i := fun z => by
      subst z; rw [List.getElem?_set_self hi] at ej; cases ej
    rw [List.getElem?_set_ne (Ne.symm nj)] at ej
    exact nj (S.apart j i p t c ej e q ev)
  have S1 : Sim K mg Z F ρ μ (δ.set i none) σ (upd H p o) := S0.heap (fun a ne => upd_ne ne) fr.f fr.z fr.r no
  have S2 := S1.store (i := i) (v := .ref p) (s := .own c') ⟨⟨p, rfl, fr, r⟩, fun o' p' z1 z2 => by cases z2; exact fun j t ej => no j t ej⟩ (by simpa using hi)
  rw [same, List.set_set] at S2
  exact S2
/-- a shared object is changed -/
theorem Sim.writeM {k : Nat} {c c' : Own} (S : Sim K mg Z F ρ μ δ σ H) (e : μ[k]? = some c) (ev : ρ[k]? = some p) (r : OwnR K mg F ρ (upd H p o) p c') :
    Sim K mg Z F ρ (μ.set k c') δ σ (upd H p o) := by
  obtain ⟨a, ea, f1, f2, r0⟩ := S.mem k c e
  rw [ev] at ea; cases ea
  have hm : p ∈ ρ := List.mem_of_getElem? ev
  have hk : k < μ.length := (List.getElem?_eq_some_iff.mp e).1
  refine ⟨fun a u h => ?_, fun a u h => ?_, S.len, fun i s h => ?_, S.apart, fun j x h => ?_, by simp [S.mlen], S.nod⟩
  · have ne : a ≠ p := fun z => by
      subst z
      rw [f1] at h; cases h
    have := S.le a u h
    rw [upd_ne ne]; exact this
  · have ne : a ≠ p := fun z => by subst z; rw [f2] at h; cases h
    rw [upd_ne ne]; exact S.zk a u h
  · obtain ⟨v, e1, r⟩ := S.slot i s h
    refine ⟨v, e1, ?_⟩
    cases s with
    | fr d => exact r
    | own c =>
      obtain ⟨q, eq, fr, r⟩ := r
      subst eq
      have ne : q ≠ p := fun z => by subst z; exact fr.r hm
      exact ⟨q, rfl, fr, r.up (fun _ _ h => h) (fun _ _ h => h) (upd_ne ne)⟩
  · by_cases z : j = k
    · subst z
      rw [List.getElem?_set_self hk] at h
      cases h
      exact ⟨p, ev, f1, f2, r⟩
    · rw [List.getElem?_set_ne (Ne.symm z)] at h
      obtain ⟨a, ea, g1, g2, r1⟩ := S.mem j x h
      have ne : a ≠ p := fun q => by
        subst q
        have h1 := (List.getElem?_eq_some_iff.mp ea).1
        exact z ((List.getElem?_inj h1 S.nod).mp (ea.trans ev.symm))
      exact ⟨a, ea, g1, g2, r1.up (fun _ _ h => h) (fun _ _ h => h) (upd_ne ne)⟩
/-- a value that came becomes a shared object -/
theorem Sim.share {c : Own} (S : Sim K mg Z F ρ μ δ σ H) (h : VR K mg Z F ρ δ σ H v (.own c)) : ∃ p, v = .ref p ∧ LeR Z ρ (ρ ++ [p]) ∧ Sim K mg Z F (ρ ++ [p]) (μ ++ [c]) δ σ H ∧ Rep K mg F (ρ ++ [p]) v (.obj μ.length) := by
  obtain ⟨p, ev, fr, r⟩ := h.r
  subst ev
  have to : ∀ (k : Nat) a, ρ[k]? = some a → (ρ ++ [p])[k]? = some a := fun k a e => by
    rw [List.getElem?_append_left (List.getElem?_eq_some_iff.mp e).1]; exact e
  refine ⟨p, rfl, ⟨to, fun a ha => ?_⟩, ⟨S.le, S.zk, S.len, fun i s e => ?_, S.apart, fun k x e => ?_, by simp [S.mlen], ?_⟩, ?_⟩
  · rcases List.mem_append.mp ha with ha | ha
    · exact .inl ha
    · have : a = p := by simpa using ha
      subst this; exact .inr fr.z
  · obtain ⟨w, e1, r1⟩ := S.slot i s e
    refine ⟨w, e1, ?_⟩
    cases s with
    | fr d => exact Rep.up (fun _ _ h => h) to r1
    | own c1 =>
      obtain ⟨q, eq, fr1, r1⟩ := r1
      subst eq
      refine ⟨q, rfl, ⟨fr1.f, fr1.z, fun hm => ?_⟩, r1.up (fun _ _ h => h) to rfl⟩
      rcases List.mem_append.mp hm with hm | hm
      · exact fr1.r hm
      · have : q = p := by simpa using hm
        subst this
        exact h.no c q rfl rfl i c1 e e1
  · by_cases hk : k < μ.length
    · rw [List.getElem?_append_left hk] at e
      obtain ⟨a, ea, g1, g2, r1⟩ := S.mem k x e
      exact ⟨a, to k a ea, g1, g2, r1.up (fun _ _ h => h) to rfl⟩
    · rw [List.getElem?_append_right (by omega)] at e
      have hk2 : k = μ.length := by
        have := (List.getElem?_eq_some_iff.mp e).1
        simp at this
        omega
      subst hk2
      simp at e
      subst e
      refine ⟨p, ?_, fr.f, fr.z, r.up (fun _ _ h => h) to rfl⟩
      rw [← S.mlen]; simp
  · rw [List.nodup_append]
    refine ⟨S.nod, by simp, fun a ha b hb e => ?_⟩
    have : b = p := by simpa using hb
    subst this
    subst e
    exact fr.r ha
  · refine .obj ?_
    rw [← S.mlen]; simp
end
end FL

/-! Part B: what a piece of code does to the mirror state, and the judgements; expressions. -/
namespace FL
open PySem L2

/-- an exception of an own class with one attribute -/
structure Exc where
  cls : String
  attr : String
  arg : D
inductive Out (α : Type) where
  | ok (a : α) (δ : Loc) (μ : Mem)
  | exc (x : Exc) (δ : Loc) (μ : Mem)
  | bad
def Out.bind {α β : Type} (r : Out α) (f : α → Loc → Mem → Out β) : Out β :=
  match r with
  | .ok a δ μ => f a δ μ
  | .exc x δ μ => .exc x δ μ
  | .bad => .bad
theorem Out.bind_ok {α β : Type} {a : α} {δ : Loc} {μ : Mem} {f : α → Loc → Mem → Out β} : (Out.ok a δ μ).bind f = f a δ μ := rfl
theorem Out.bind_exc {α β : Type} {x : Exc} {δ : Loc} {μ : Mem} {f : α → Loc → Mem → Out β} : (Out.exc x δ μ : Out α).bind f = .exc x δ μ := rfl
theorem Out.bind_bad {α β : Type} {f : α → Loc → Mem → Out β} : (Out.bad : Out α).bind f = .bad := rfl
abbrev MM (α : Type) := Loc → Mem → Out α
abbrev ME := MM Slot
abbrev MT := MM Bool
def lift (o : Option Slot) : ME := fun δ μ => match o with
  | some s => .ok s δ μ
  | none => .bad

/-- the exception's class and dict -/
def ExcR (K : PySem.W.Frag) (mg : Str → Option Value) (F : Hp) (ρ : List Addr) (c : Value) (d : Option Addr) (x : Exc) : Prop :=
  ∃ C dx v, c = .ref C ∧ d = some dx ∧ mg (Str.ofString x.cls) = some (.ref C) ∧ Rd F dx (.xd [(Str.ofString x.attr, v)]) ∧ Rep K mg F ρ v x.arg

section
variable (X : Cx) (W : WX)
abbrev SimX (Z F : Hp) (ρ : List Addr) (μ : Mem) (δ : Loc) (σ : St) (H : Hp) : Prop := Sim X.K X.mg Z F ρ μ δ σ H
/-- what follows an outcome, the slots' values as they are -/
def FinE {α : Type} (Z F : Hp) (ρ : List Addr) (σ : St) (P : α → Loc → Mem → Hp → List Addr → Hp → Prop) : Out α → Prop
  | .ok a δ μ => ∀ H' F' ρ', Le Z F F' → LeR Z ρ ρ' → Sim X.K X.mg Z F' ρ' μ δ σ H' → P a δ μ F' ρ' H'
  | .exc x δ μ => ∀ c d H' F' ρ', Le Z F F' → LeR Z ρ ρ' → Sim X.K X.mg Z F' ρ' μ δ σ H' → ExcR X.K X.mg F' ρ' c d x → W c d σ H'
  | .bad => False
end
section
variable {X : Cx} {W : WX} {Z F F1 : Hp} {ρ ρ1 : List Addr} {σ : St} {α β : Type}
theorem FinE.mono {P : α → Loc → Mem → Hp → List Addr → Hp → Prop} {r : Out α} (h : FinE X W Z F ρ σ P r) (l : Le Z F F1) (lr : LeR Z ρ ρ1) : FinE X W Z F1 ρ1 σ P r := by
  cases r with
  | ok a δ μ => exact fun H' F' ρ' l' lr' S => h H' F' ρ' (l.trans l') (lr.trans lr') S
  | exc x δ μ => exact fun c d H' F' ρ' l' lr' S e => h c d H' F' ρ' (l.trans l') (lr.trans lr') S e
  | bad => exact h
theorem FinE.bind {P : β → Loc → Mem → Hp → List Addr → Hp → Prop} {r : Out α} {f : α → Loc → Mem → Out β} (h : FinE X W Z F ρ σ P (r.bind f)) :
    FinE X W Z F ρ σ (fun a δ μ F' ρ' H' => Sim X.K X.mg Z F' ρ' μ δ σ H' ∧ Le Z F F' ∧ LeR Z ρ ρ' ∧ FinE X W Z F' ρ' σ P (f a δ μ)) r := by
  cases r with
  | ok a δ μ => exact fun H' F' ρ' l lr S => ⟨S, l, lr, h.mono l lr⟩
  | exc x δ μ => exact h
  | bad => exact h
theorem FinE.imp {P P' : α → Loc → Mem → Hp → List Addr → Hp → Prop} {r : Out α} (h : FinE X W Z F ρ σ P r)
    (hp : ∀ a δ μ H' F' ρ', Le Z F F' → LeR Z ρ ρ' → Sim X.K X.mg Z F' ρ' μ δ σ H' → P a δ μ F' ρ' H' → P' a δ μ F' ρ' H') : FinE X W Z F ρ σ P' r := by
  cases r with
  | ok a δ μ => exact fun H' F' ρ' l lr S => hp a δ μ H' F' ρ' l lr S (h H' F' ρ' l lr S)
  | exc x δ μ => exact h
  | bad => exact h
end

theorem _root_.L2.PE.imp {X : Cx} {e : Expr} {t t' : TE} (h : PE X e t) (hi : ∀ σ H Q, t' σ H Q → t σ H Q) : PE X e t' := ⟨fun pins s σ H Q I q => h.run pins s σ H Q I (hi σ H Q q)⟩
theorem _root_.L2.PT.imp {X : Cx} {e : Expr} {t t' : TT} (h : PT X e t) (hi : ∀ σ H Q, t' σ H Q → t σ H Q) : PT X e t' := ⟨fun pins s σ H Q I q => h.run pins s σ H Q I (hi σ H Q q)⟩
theorem _root_.L2.PW.imp {X : Cx} {e : Expr} {t t' : TT} (h : PW X e t) (hi : ∀ σ H Q, t' σ H Q → t σ H Q) : PW X e t' := ⟨fun wh pins s σ H Q I q => h.run wh pins s σ H Q I (hi σ H Q q)⟩
theorem _root_.L2.PA.imp {X : Cx} {e : List Expr} {t t' : TA} (h : PA X e t) (hi : ∀ σ H Q, t' σ H Q → t σ H Q) : PA X e t' := ⟨fun pos pins s σ H Q I q => h.run pos pins s σ H Q I (hi σ H Q q)⟩

/-! ### the readings -/
section
variable (X : Cx) (W : WX)
/-- an expression that gives a value, perhaps an owned one -/
def rdE (m : ME) : TE := fun σ H Q => ∃ Z F ρ μ δ, Sim X.K X.mg Z F ρ μ δ σ H ∧
  FinE X W Z F ρ σ (fun s δ' _ F' ρ' H' => ∀ v, VR X.K X.mg Z F' ρ' δ' σ H' v s → Q v H') (m δ μ)
def rdT (m : MT) : TT := fun σ H Q => ∃ Z F ρ μ δ, Sim X.K X.mg Z F ρ μ δ σ H ∧ FinE X W Z F ρ σ (fun b _ _ _ _ H' => Q b H') (m δ μ)
end
abbrev JE (X : Cx) (W : WX) (e : Expr) (m : ME) : Prop := PE X e (rdE X W m)
abbrev JT (X : Cx) (W : WX) (e : Expr) (m : MT) : Prop := PT X e (rdT X W m)

/-- an operand: an expression, or a variable that is looked at where it stands -/
inductive Opn where
  | e (m : ME) | v (i : Nat)
inductive OR where
  | d (d : D) | i (i : Nat)
def Opn.ev : Opn → MM OR
  | .e m => fun δ μ => (m δ μ).bind fun s δ1 μ1 => .ok (.d s.d) δ1 μ1
  | .v i => fun δ μ => match δ[i]? with
    | some (some _) => .ok (.i i) δ μ
    | _ => .bad
/-- a shared object is looked into -/
def look (μ : Mem) : D → Option D
  | .obj k => (μ[k]?).map Own.d
  | d => some d
def OR.at (δ : Loc) (μ : Mem) : OR → Option D
  | .d x => look μ x
  | .i j => match δ[j]? with
    | some (some s) => look μ s.d
    | _ => none
section
variable (K : PySem.W.Frag) (mg : Str → Option Value)
def OrR (F : Hp) (ρ : List Addr) (σ : St) (v : V) : OR → Prop
  | .d x => Rep K mg F ρ v x
  | .i j => σ[j]? = some (some v)
/-- v stands for d now -/
inductive Bor (F : Hp) (ρ : List Addr) (H : Hp) : V → D → Prop where
  | fr {v d} (h : Rep K mg F ρ v d) : Bor F ρ H v d
  | own {p o} (h : OwnR K mg F ρ H p o) : Bor F ρ H (.ref p) o.d
inductive BorL (F : Hp) (ρ : List Addr) (H : Hp) : List V → List D → Prop where
  | nil : BorL F ρ H [] []
  | cons {v d vs ds} (h : Bor K mg F ρ H v d) (t : BorL F ρ H vs ds) : BorL F ρ H (v :: vs) (d :: ds)
inductive OrRs (F : Hp) (ρ : List Addr) (σ : St) : List V → List OR → Prop where
  | nil : OrRs F ρ σ [] []
  | cons {v d vs ds} (h : OrR K mg F ρ σ v d) (t : OrRs F ρ σ vs ds) : OrRs F ρ σ (v :: vs) (d :: ds)
end
def OR.ats (δ : Loc) (μ : Mem) : List OR → Option (List D)
  | [] => some []
  | r :: rs => match r.at δ μ, OR.ats δ μ rs with
    | some x, some xs => some (x :: xs)
    | _, _ => none
section
variable {K : PySem.W.Frag} {mg : Str → Option Value} {Z F F' : Hp} {ρ ρ' : List Addr} {μ : Mem} {δ : Loc} {σ : St} {H H' : Hp} {v : V} {d : D}
theorem OrR.up {r : OR} (h : OrR K mg F ρ σ v r) (l : Le Z F F') (lr : LeR Z ρ ρ') : OrR K mg F' ρ' σ v r := by
  cases r with
  | d x => exact Rep.up l.to lr.to h
  | i j => exact h
theorem OrRs.up {vs : List V} {rs : List OR} (h : OrRs K mg F ρ σ vs rs) (l : Le Z F F') (lr : LeR Z ρ ρ') : OrRs K mg F' ρ' σ vs rs := by
  induction h with
  | nil => exact .nil
  | cons h t ih => exact .cons (h.up l lr) ih
theorem look_flat {d d' : D} (e : look μ d = some d') : (∃ k c, d = .obj k ∧ μ[k]? = some c ∧ d' = c.d) ∨ d' = d := by
  cases d <;> first
    | (right; have e' := e; unfold look at e'; exact (Option.some.inj e').symm)
    | (rename_i k
       left
       unfold look at e
       obtain ⟨c, e1, e2⟩ := Option.map_eq_some_iff.mp e
       exact ⟨k, c, rfl, e1, e2.symm⟩)
theorem Rep.seen (S : Sim K mg Z F ρ μ δ σ H) {d' : D} (h : Rep K mg F ρ v d) (e : look μ d = some d') : Bor K mg F ρ H v d' := by
  rcases look_flat e with ⟨k, c, rfl, hc, rfl⟩ | rfl
  · cases h with
    | obj hp =>
      obtain ⟨a, ea, _, _, r⟩ := S.mem k c hc
      rw [hp] at ea; cases ea
      exact .own r
  · exact .fr h
theorem OrR.bor {r : OR} (S : Sim K mg Z F ρ μ δ σ H) (h : OrR K mg F ρ σ v r) (e : r.at δ μ = some d) : Bor K mg F ρ H v d := by
  cases r with
  | d d' => exact Rep.seen S h e
  | i i =>
    have h' : σ[i]? = some (some v) := h
    have e : (match δ[i]? with | some (some s) => look μ s.d | _ => none) = some d := e
    cases q : δ[i]? with
    | none => rw [q] at e; cases e
    | some o =>
      cases o with
      | none => rw [q] at e; cases e
      | some s =>
        rw [q] at e
        have e' : look μ s.d = some d := e
        obtain ⟨w, ew, r⟩ := S.slot i s q
        rw [h'] at ew
        cases ew
        cases s with
        | fr d => exact Rep.seen S r e'
        | own o =>
          obtain ⟨p, ep, _, r⟩ := r
          subst ep
          have e2 : look μ o.d = some o.d := by cases o <;> rfl
          have e3 : some d = some o.d := e'.symm.trans e2
          cases e3
          exact .own r
theorem OrRs.bor (S : Sim K mg Z F ρ μ δ σ H) : ∀ {vs : List V} {rs : List OR} {ds : List D}, OrRs K mg F ρ σ vs rs → OR.ats δ μ rs = some ds → BorL K mg F ρ H vs ds := by
  intro vs rs ds h
  induction h generalizing ds with
  | nil =>
    intro e
    have e' : some ([] : List D) = some ds := e
    cases e'
    exact .nil
  | @cons v r vs rs h t ih =>
    intro e
    unfold OR.ats at e
    cases q1 : r.at δ μ with
    | none => rw [q1] at e; cases e
    | some d =>
      cases q2 : OR.ats δ μ rs with
      | none => rw [q1, q2] at e; cases e
      | some dr =>
        rw [q1, q2] at e
        have e' : some (d :: dr) = some ds := e
        cases e'
        exact .cons (h.bor S q1) (ih q2)
/-- what a list is -/
theorem Bor.lst (S : Sim K mg Z F ρ μ δ σ H) {ds : List D} (h : Bor K mg F ρ H v (.lst ds)) : ∃ p vs, v = .ref p ∧ H p = some (.lst vs) ∧ RepL K mg F ρ vs ds := by
  generalize e : D.lst ds = d at h
  cases h with
  | fr h =>
    subst e
    cases h with
    | lst h r =>
      refine ⟨_, _, rfl, ?_, r⟩
      rcases S.le _ _ h with q | ⟨ob, kvs, e, q⟩
      · exact q
      · cases e
  | @own p o h =>
    cases o with
    | lst xs =>
      cases e
      obtain ⟨vs, e, r⟩ := h
      exact ⟨p, vs, rfl, e, r⟩
    | dct ks xs => cases e
    | tab P q => cases e
theorem Bor.tup (S : Sim K mg Z F ρ μ δ σ H) {ds : List D} (h : Bor K mg F ρ H v (.tup ds)) : ∃ p vs, v = .ref p ∧ SqT K H p vs ∧ RepL K mg F ρ vs ds := by
  generalize e : D.tup ds = d at h
  cases h with
  | fr h =>
    subst e
    cases h with
    | tup h r => exact ⟨_, _, rfl, h.elim (fun h => .inl (S.rd h)) .inr, r⟩
  | @own p o h => cases o <;> cases e
theorem Bor.ro (S : Sim K mg Z F ρ μ δ σ H) {ds : List D} (h : Bor K mg F ρ H v (.ro ds)) : ∃ p vs, v = .ref p ∧ SqL K H p vs ∧ RepL K mg F ρ vs ds := by
  generalize e : D.ro ds = d at h
  cases h with
  | fr h =>
    subst e
    cases h with
    | ro h r => exact ⟨_, _, rfl, h.elim (fun h => .inl (S.rd h)) .inr, r⟩
  | @own p o h => cases o <;> cases e
theorem Bor.dct (S : Sim K mg Z F ρ μ δ σ H) {ks : List DK} {ds : List D} (h : Bor K mg F ρ H v (.dct ks ds)) : ∃ p vs, v = .ref p ∧ Rd H p (.dK ((ks.map DK.key).zip vs)) ∧ ks.length = vs.length ∧ RepL K mg F ρ vs ds := by
  generalize e : D.dct ks ds = d at h
  cases h with
  | fr h =>
    subst e
    cases h with
    | dct h l r => exact ⟨_, _, rfl, S.rd h, l, r⟩
  | @own p o h =>
    cases o with
    | lst xs => cases e
    | dct ks xs =>
      cases e
      obtain ⟨vs, e, n, r⟩ := h
      exact ⟨p, vs, rfl, .inl e, n, r⟩
    | tab P q => cases e
theorem Bor.rep (h : Bor K mg F ρ H v d) (n : ∀ o, d ≠ Own.d o) : Rep K mg F ρ v d := by
  cases h with
  | fr h => exact h
  | own h => exact absurd rfl (n _)
theorem Bor.int {i : Int} (h : Bor K mg F ρ H v (.int i)) : v = .int i := by
  cases h.rep (fun o e => by cases o <;> cases e); rfl
theorem Bor.bl {i : Bool} (h : Bor K mg F ρ H v (.bl i)) : v = .bl i := by
  cases h.rep (fun o e => by cases o <;> cases e); rfl
theorem Bor.str {i : Tx} (h : Bor K mg F ρ H v (.str i)) : v = .str (toS i) := by
  cases h.rep (fun o e => by cases o <;> cases e); rfl
theorem Bor.non (h : Bor K mg F ρ H v .non) : v = .non := by
  cases h.rep (fun o e => by cases o <;> cases e); rfl
end

section
variable (X : Cx) (W : WX)
def rdO (m : Opn) : TE := fun σ H Q => ∃ Z F ρ μ δ, Sim X.K X.mg Z F ρ μ δ σ H ∧
  FinE X W Z F ρ σ (fun r _ _ F' ρ' H' => ∀ v, OrR X.K X.mg F' ρ' σ v r → Q v H') (m.ev δ μ)
def evs : List Opn → MM (List OR)
  | [] => fun δ μ => .ok [] δ μ
  | o :: os => fun δ μ => (o.ev δ μ).bind fun r δ1 μ1 => (evs os δ1 μ1).bind fun rs δ2 μ2 => .ok (r :: rs) δ2 μ2
def rdOs (m : List Opn) : TA := fun σ H Q => ∃ Z F ρ μ δ, Sim X.K X.mg Z F ρ μ δ σ H ∧
  FinE X W Z F ρ σ (fun rs _ _ F' ρ' H' => ∀ vs, OrRs X.K X.mg F' ρ' σ vs rs → Q vs H') (evs m δ μ)
/-- arguments that are kept by whom they are given: locked -/
def evA : List ME → MM (List D)
  | [] => fun δ μ => .ok [] δ μ
  | m :: ms => fun δ μ => (m δ μ).bind fun s δ1 μ1 => (evA ms δ1 μ1).bind fun ds δ2 μ2 => .ok (s.d :: ds) δ2 μ2
def rdA (m : List ME) : TA := fun σ H Q => ∃ Z F ρ μ δ, Sim X.K X.mg Z F ρ μ δ σ H ∧
  FinE X W Z F ρ σ (fun ds _ _ F' ρ' H' => ∀ vs, RepL X.K X.mg F' ρ' vs ds → Q vs H') (evA m δ μ)
end
abbrev JO (X : Cx) (W : WX) (e : Expr) (m : Opn) : Prop := PE X e (rdO X W m)
abbrev JOs (X : Cx) (W : WX) (e : List Expr) (m : List Opn) : Prop := PA X e (rdOs X W m)
abbrev JA (X : Cx) (W : WX) (e : List Expr) (m : List ME) : Prop := PA X e (rdA X W m)

section
variable {X : Cx} {W : WX} {e a b : Expr} {es : List Expr} {pos : Pos}
/-- an expression, its value locked -/
theorem JE.locked {m : ME} (h : JE X W e m) : PE X e (fun σ H Q => ∃ Z F ρ μ δ, Sim X.K X.mg Z F ρ μ δ σ H ∧
    FinE X W Z F ρ σ (fun s δ' μ' F' ρ' H' => ∀ v, Rep X.K X.mg F' ρ' v s.d → Q v H') (m δ μ)) := by
  refine h.imp fun σ H Q ⟨Z, F, ρ, μ, δ, S, q⟩ => ⟨Z, F, ρ, μ, δ, S, ?_⟩
  cases r : m δ μ with
  | ok s δ' μ' =>
    rw [r] at q
    refine fun H' F' ρ' l lr S' v vr => ?_
    obtain ⟨F2, l2, S2, rep⟩ := S'.lock vr
    exact q H' F2 ρ' (l.trans l2) lr S2 v rep
  | exc x δ' μ' => rw [r] at q; exact q
  | bad => rw [r] at q; exact q
theorem jo_e {m : ME} (h : JE X W e m) : JO X W e (.e m) := by
  refine PE.imp h.locked fun σ H Q ⟨Z, F, ρ, μ, δ, S, q⟩ => ⟨Z, F, ρ, μ, δ, S, ?_⟩
  have q' : FinE X W Z F ρ σ (fun r _ _ F' ρ' H' => ∀ v, OrR X.K X.mg F' ρ' σ v r → Q v H') ((m δ μ).bind fun s δ1 μ1 => .ok (.d s.d) δ1 μ1) := q
  refine q'.bind.imp fun s δ' μ' H' F' ρ' l lr S' ⟨S2, l2, lr2, p⟩ v r => ?_
  exact p H' F' ρ' .refl .refl S2 v r
theorem jo_v {i : Nat} (h : PE X e (tVar i)) : JO X W e (.v i) := by
  refine h.imp fun σ H Q ⟨Z, F, ρ, μ, δ, S, q⟩ => ?_
  unfold Opn.ev at q
  cases e1 : δ[i]? with
  | none => simp only [e1] at q; exact q.elim
  | some o =>
    cases o with
    | none => simp only [e1] at q; exact q.elim
    | some s =>
      simp only [e1] at q
      obtain ⟨v, ev, _⟩ := S.slot i s e1
      exact ⟨v, ev, q H F ρ .refl .refl S v ev⟩
theorem jos_nil : JOs X W [] [] := pa_nil.imp fun σ H Q ⟨Z, F, ρ, μ, δ, S, q⟩ => q H F ρ .refl .refl S [] .nil
theorem jos_cons {o : Opn} {os : List Opn} (h : JO X W e o) (t : JOs X W es os) (hs : starEach (e :: es) X.env = (false, eval e X.env) :: starEach es X.env := by rfl) : JOs X W (e :: es) (o :: os) := by
  refine (pa_cons h t hs).imp fun σ H Q ⟨Z, F, ρ, μ, δ, S, q⟩ => ?_
  have q' : FinE X W Z F ρ σ (fun rs _ _ F' ρ' H' => ∀ vs, OrRs X.K X.mg F' ρ' σ vs rs → Q vs H') ((o.ev δ μ).bind fun r δ1 μ1 => (evs os δ1 μ1).bind fun rs δ2 μ2 => .ok (r :: rs) δ2 μ2) := q
  refine ⟨Z, F, ρ, μ, δ, S, q'.bind.imp fun r δ1 μ1 H1 F1 ρ1 l lr S1 ⟨_, _, _, p⟩ v hv => ?_⟩
  refine ⟨Z, F1, ρ1, μ1, δ1, S1, p.bind.imp fun rs δ2 μ2 H2 F2 ρ2 l2 lr2 S2 ⟨_, _, _, p2⟩ vs hvs => ?_⟩
  exact p2 H2 F2 ρ2 .refl .refl S2 (v :: vs) (.cons (hv.up l2 lr2) hvs)
theorem ja_nil : JA X W [] [] := pa_nil.imp fun σ H Q ⟨Z, F, ρ, μ, δ, S, q⟩ => q H F ρ .refl .refl S [] .nil
theorem ja_cons {m : ME} {ms : List ME} (h : JE X W e m) (t : JA X W es ms) (hs : starEach (e :: es) X.env = (false, eval e X.env) :: starEach es X.env := by rfl) : JA X W (e :: es) (m :: ms) := by
  refine (pa_cons h.locked t hs).imp fun σ H Q ⟨Z, F, ρ, μ, δ, S, q⟩ => ?_
  have q' : FinE X W Z F ρ σ (fun ds _ _ F' ρ' H' => ∀ vs, RepL X.K X.mg F' ρ' vs ds → Q vs H') ((m δ μ).bind fun s δ1 μ1 => (evA ms δ1 μ1).bind fun ds δ2 μ2 => .ok (s.d :: ds) δ2 μ2) := q
  refine ⟨Z, F, ρ, μ, δ, S, q'.bind.imp fun s δ1 μ1 H1 F1 ρ1 l lr S1 ⟨_, _, _, p⟩ v hv => ?_⟩
  refine ⟨Z, F1, ρ1, μ1, δ1, S1, p.bind.imp fun ds δ2 μ2 H2 F2 ρ2 l2 lr2 S2 ⟨_, _, _, p2⟩ vs hvs => ?_⟩
  exact p2 H2 F2 ρ2 .refl .refl S2 (v :: vs) (.cons (hv.up l2.to lr2.to) hvs)

/-! ### names and constants -/
def mD (d : D) : ME := fun δ μ => .ok (.fr d) δ μ
theorem je_c {v : V} {d : D} (h : PE X e (tC v)) (r : ∀ F ρ, Rep X.K X.mg F ρ v d) : JE X W e (mD d) :=
  h.imp fun σ H Q ⟨Z, F, ρ, μ, δ, S, q⟩ => q H F ρ .refl .refl S v ⟨r F ρ, fun o p z => by cases z⟩
theorem je_int {i j} : JE X W (.Constant (.int i) j pos) (mD (.int i)) := je_c pe_int fun _ _ => .int
theorem je_bl {b j} : JE X W (.Constant (.bool b) j pos) (mD (.bl b)) := je_c pe_bl fun _ _ => .bl
theorem je_non {j} : JE X W (.Constant .none j pos) (mD .non) := je_c pe_non fun _ _ => .non
theorem je_str {x j} : JE X W (.Constant (.str (Str.ofString x)) j pos) (mD (.str (lit x))) := je_c pe_str fun _ _ => by rw [ofS_lit]; exact .str
/-- a variable, its value given away: locked -/
def mV (i : Nat) : ME := fun δ μ => match δ[i]? with
  | some (some s) => .ok (.fr s.d) (δ.set i (some (.fr s.d))) μ
  | _ => .bad
theorem je_v {i : Nat} (h : PE X e (tVar i)) : JE X W e (mV i) := by
  refine h.imp fun σ H Q ⟨Z, F, ρ, μ, δ, S, q⟩ => ?_
  unfold mV at q
  cases e1 : δ[i]? with
  | none => simp only [e1] at q; exact q.elim
  | some o =>
    cases o with
    | none => simp only [e1] at q; exact q.elim
    | some s =>
      simp only [e1] at q
      obtain ⟨F', v, l, ev, S', r⟩ := S.lockAt e1
      exact ⟨v, ev, q H F' ρ l .refl S' v ⟨r, fun o p z => by cases z⟩⟩
/-- a name of the module: a constant told as data -/
theorem je_glo {x : String} {u : Value} {v : V} {p : Pos} (hg : Gl X (Str.ofString x)) (hm : X.mg (Str.ofString x) = some u) (r : RelV v u) (hd : (Str.ofString x == ("__debug__" : Str)) = false := by decide +kernel) : JE X W (.Name (Str.ofString x) p) (mD (.glo x)) :=
  je_c (pe_glob hg hm r hd) fun _ _ => .glo hm r
theorem je_mod {x : Str} {u : Value} {v : V} {d : D} {p : Pos} (hg : Gl X x) (hm : X.mg x = some u) (r : RelV v u) (hr : ∀ F ρ, Rep X.K X.mg F ρ v d) (hd : (x == ("__debug__" : Str)) = false := by decide +kernel) : JE X W (.Name x p) (mD d) :=
  je_c (pe_glob hg hm r hd) hr

/-! ### operators by values -/
/-- the rule r does what g says -/
def R2J (X : Cx) (r : R2) (g : D → D → Option Slot) : Prop := ∀ Z F ρ μ δ σ H x y dx dy s Q, Sim X.K X.mg Z F ρ μ δ σ H → Bor X.K X.mg F ρ H x dx → Bor X.K X.mg F ρ H y dy → g dx dy = some s →
  (∀ v H' F', Le Z F F' → Sim X.K X.mg Z F' ρ μ δ σ H' → VR X.K X.mg Z F' ρ δ σ H' v s → Q v H') → r x y H Q
def m2 (g : D → D → Option Slot) (oa ob : Opn) : ME := fun δ μ => (oa.ev δ μ).bind fun ra δ1 μ1 => (ob.ev δ1 μ1).bind fun rb δ2 μ2 =>
  match ra.at δ2 μ2, rb.at δ2 μ2 with
  | some da, some db => lift (g da db) δ2 μ2
  | _, _ => .bad
theorem m2_read {r : R2} {g : D → D → Option Slot} {oa ob : Opn} (hr : R2J X r g) : ∀ σ H Q, rdE X W (m2 g oa ob) σ H Q → tOp r (rdO X W oa) (rdO X W ob) σ H Q := by
  intro σ H Q ⟨Z, F, ρ, μ, δ, S, q⟩
  refine ⟨Z, F, ρ, μ, δ, S, (FinE.bind q).imp fun ra δ1 μ1 H1 F1 ρ1 l lr S1 ⟨_, _, _, p⟩ x hx => ?_⟩
  refine ⟨Z, F1, ρ1, μ1, δ1, S1, p.bind.imp fun rb δ2 μ2 H2 F2 ρ2 l2 lr2 S2 ⟨_, _, _, p2⟩ y hy => ?_⟩
  cases ea : ra.at δ2 μ2 with
  | none => rw [ea] at p2; exact p2.elim
  | some da =>
    cases eb : rb.at δ2 μ2 with
    | none => rw [ea, eb] at p2; exact p2.elim
    | some db =>
      rw [ea, eb] at p2
      unfold lift at p2
      cases eg : g da db with
      | none => simp only [eg] at p2; exact p2.elim
      | some s =>
        simp only [eg] at p2
        exact hr Z F2 ρ2 μ2 δ2 σ H2 x y da db s Q S2 ((hx.up l2 lr2).bor S2 ea) (hy.bor S2 eb) eg fun v H' F' l' S' vr => p2 H' F' ρ2 l' .refl S' v vr
theorem je_bin {op : Operator} {r : R2} {g : D → D → Option Slot} {oa ob : Opn} (ho : OpR X (binaryOp op) r) (hr : R2J X r g) (ha : JO X W a oa) (hb : JO X W b ob) : JE X W (.BinOp a op b pos) (m2 g oa ob) :=
  (pe_op ho ha hb).imp (m2_read hr)
theorem je_cmp {op : CmpOp} {r : R2} {g : D → D → Option Slot} {oa ob : Opn} (ho : OpR X (compareOp op) r) (hr : R2J X r g) (ha : JO X W a oa) (hb : JO X W b ob) (hm : behindInMarks op b = false) : JE X W (.Compare a [op] [b] pos) (m2 g oa ob) :=
  (pe_cmpR ho ha hb hm).imp (m2_read hr)
theorem je_ix {r : R2} {g : D → D → Option Slot} {oa ob : Opn} (ho : IxR X r) (hr : R2J X r g) (ha : JO X W a oa) (hb : JO X W b ob) (hs : PlainIx b) : JE X W (.Subscript a b pos) (m2 g oa ob) :=
  (pe_ix ho ha hb hs).imp (m2_read hr)
theorem R2J.or {r r' : R2} {g g' : D → D → Option Slot} (h : R2J X r g) (h' : R2J X r' g') : R2J X (fun x y H Q => r x y H Q ∨ r' x y H Q) (fun x y => (g x y).or (g' x y)) := by
  intro Z F ρ μ δ σ H x y dx dy s Q S bx bY e q
  have e : (g dx dy).or (g' dx dy) = some s := e
  cases eg : g dx dy with
  | some s' => rw [eg] at e; exact .inl (h Z F ρ μ δ σ H x y dx dy s Q S bx bY (by rw [eg]; exact e) q)
  | none => rw [eg] at e; exact .inr (h' Z F ρ μ δ σ H x y dx dy s Q S bx bY e q)
/-- a test of a value that is a truth value -/
def mTb (m : ME) : MT := fun δ μ => (m δ μ).bind fun s δ1 μ1 => match s with
  | .fr (.bl b) => .ok b δ1 μ1
  | _ => .bad
theorem mTb_read {t : TE} {m : ME} (h : ∀ σ H Q, rdE X W m σ H Q → t σ H Q) : ∀ σ H Q, rdT X W (mTb m) σ H Q → t σ H fun x H' => ∃ k, x = .bl k ∧ Q k H' := by
  intro σ H Q ⟨Z, F, ρ, μ, δ, S, q⟩
  refine h σ H _ ⟨Z, F, ρ, μ, δ, S, (FinE.bind q).imp fun s δ1 μ1 H1 F1 ρ1 l lr S1 ⟨_, _, _, p⟩ v vr => ?_⟩
  cases s with
  | own o => exact p.elim
  | fr d =>
    cases d with
    | bl b =>
      cases vr.r
      exact ⟨b, rfl, p H1 F1 ρ1 .refl .refl S1⟩
    | _ => exact p.elim
theorem jt_cmp {op : CmpOp} {r : R2} {g : D → D → Option Slot} {oa ob : Opn} (ho : OpR X (compareOp op) r) (hr : R2J X r g) (ha : JO X W a oa) (hb : JO X W b ob) (hm : behindInMarks op b = false) : JT X W (.Compare a [op] [b] pos) (mTb (m2 g oa ob)) :=
  (pt_cmpR ho ha hb hm).imp (mTb_read (m2_read hr))
/-- an expression that gives a truth value, as a test -/
theorem jt_e {m : ME} (h : JE X W e m) (he : ∀ whole, isTrue e X.env whole = (do let v ← whole; standAt e.pos; holding [v] (truthy v)) := by intro _; rfl) : JT X W e (mTb m) :=
  (pt_val h he).imp (mTb_read fun _ _ _ q => q)

/-! ### and, or, not, if -/
def mNot (m : MT) : MT := fun δ μ => (m δ μ).bind fun b δ1 μ1 => .ok (!b) δ1 μ1
theorem jt_not {m : MT} (h : JT X W a m) : JT X W (.UnaryOp .Not a pos) (mNot m) := by
  refine (pt_not h).imp fun σ H Q ⟨Z, F, ρ, μ, δ, S, q⟩ => ⟨Z, F, ρ, μ, δ, S, (FinE.bind q).imp fun b δ1 μ1 H1 F1 ρ1 l lr S1 ⟨_, _, _, p⟩ => ?_⟩
  exact p H1 F1 ρ1 .refl .refl S1
abbrev JW (X : Cx) (W : WX) (e : Expr) (m : MT) : Prop := PW X e (rdT X W m)
def mAnd (m n : MT) : MT := fun δ μ => (m δ μ).bind fun b δ1 μ1 => if b = true then n δ1 μ1 else .ok false δ1 μ1
def mOr (m n : MT) : MT := fun δ μ => (m δ μ).bind fun b δ1 μ1 => if b = true then .ok true δ1 μ1 else n δ1 μ1
theorem jw_and1 {m : MT} (h : JT X W a m) : JW X W (.BoolOp .And [a] pos) m := pw_and1 h
theorem jw_or1 {m : MT} (h : JT X W a m) : JW X W (.BoolOp .Or [a] pos) m := pw_or1 h
theorem jw_and {m n : MT} {rest : List Expr} (h : JT X W a m) (t : JW X W (.BoolOp .And (b :: rest) pos) n) : JW X W (.BoolOp .And (a :: b :: rest) pos) (mAnd m n) := by
  refine (pw_and h t).imp fun σ H Q ⟨Z, F, ρ, μ, δ, S, q⟩ => ⟨Z, F, ρ, μ, δ, S, (FinE.bind q).imp fun c δ1 μ1 H1 F1 ρ1 l lr S1 ⟨_, _, _, p⟩ => ?_⟩
  cases c with
  | true => exact ⟨Z, F1, ρ1, μ1, δ1, S1, p⟩
  | false => exact p H1 F1 ρ1 .refl .refl S1
theorem jw_or {m n : MT} {rest : List Expr} (h : JT X W a m) (t : JW X W (.BoolOp .Or (b :: rest) pos) n) : JW X W (.BoolOp .Or (a :: b :: rest) pos) (mOr m n) := by
  refine (pw_or h t).imp fun σ H Q ⟨Z, F, ρ, μ, δ, S, q⟩ => ⟨Z, F, ρ, μ, δ, S, (FinE.bind q).imp fun c δ1 μ1 H1 F1 ρ1 l lr S1 ⟨_, _, _, p⟩ => ?_⟩
  cases c with
  | false => exact ⟨Z, F1, ρ1, μ1, δ1, S1, p⟩
  | true => exact p H1 F1 ρ1 .refl .refl S1
theorem jt_w {m : MT} (h : JW X W e m) : JT X W e m := h.pt
def mIf (t : MT) (m n : ME) : ME := fun δ μ => (t δ μ).bind fun b δ1 μ1 => if b = true then m δ1 μ1 else n δ1 μ1
theorem je_if {c : Expr} {t : MT} {m n : ME} (hc : JT X W c t) (ha : JE X W a m) (hb : JE X W b n) : JE X W (.IfExp c a b pos) (mIf t m n) := by
  refine (pe_ifExp hc ha hb).imp fun σ H Q ⟨Z, F, ρ, μ, δ, S, q⟩ => ⟨Z, F, ρ, μ, δ, S, (FinE.bind q).imp fun c δ1 μ1 H1 F1 ρ1 l lr S1 ⟨_, _, _, p⟩ => ?_⟩
  cases c with
  | true => exact ⟨Z, F1, ρ1, μ1, δ1, S1, p⟩
  | false => exact ⟨Z, F1, ρ1, μ1, δ1, S1, p⟩
/-- .. as values: truth values all -/
def mAndV (m n : ME) : ME := fun δ μ => (m δ μ).bind fun s δ1 μ1 => match s with
  | .fr (.bl true) => n δ1 μ1
  | .fr (.bl false) => .ok (.fr (.bl false)) δ1 μ1
  | _ => .bad
def mOrV (m n : ME) : ME := fun δ μ => (m δ μ).bind fun s δ1 μ1 => match s with
  | .fr (.bl false) => n δ1 μ1
  | .fr (.bl true) => .ok (.fr (.bl true)) δ1 μ1
  | _ => .bad
theorem VR.bl {K : PySem.W.Frag} {mg : Str → Option Value} {Z F H : Hp} {ρ : List Addr} {δ : Loc} {σ : St} {b : Bool} : VR K mg Z F ρ δ σ H (.bl b) (.fr (.bl b)) := ⟨.bl, fun o p z => by cases z⟩
theorem je_one {op} {m : ME} (h : JE X W a m) : JE X W (.BoolOp op [a] pos) m := pe_one h
theorem je_and {m n : ME} {rest : List Expr} (h : JE X W a m) (t : JE X W (.BoolOp .And (b :: rest) pos) n) : JE X W (.BoolOp .And (a :: b :: rest) pos) (mAndV m n) := by
  refine (pe_and h t).imp fun σ H Q ⟨Z, F, ρ, μ, δ, S, q⟩ => ⟨Z, F, ρ, μ, δ, S, (FinE.bind q).imp fun s δ1 μ1 H1 F1 ρ1 l lr S1 ⟨_, _, _, p⟩ v vr => ?_⟩
  cases s with
  | own o => exact p.elim
  | fr d =>
    cases d with
    | bl b =>
      cases vr.r
      refine ⟨b, rfl, ?_⟩
      cases b with
      | true => exact ⟨Z, F1, ρ1, μ1, δ1, S1, p⟩
      | false => exact p H1 F1 ρ1 .refl .refl S1 _ .bl
    | _ => exact p.elim
theorem je_or {m n : ME} {rest : List Expr} (h : JE X W a m) (t : JE X W (.BoolOp .Or (b :: rest) pos) n) : JE X W (.BoolOp .Or (a :: b :: rest) pos) (mOrV m n) := by
  refine (pe_or h t).imp fun σ H Q ⟨Z, F, ρ, μ, δ, S, q⟩ => ⟨Z, F, ρ, μ, δ, S, (FinE.bind q).imp fun s δ1 μ1 H1 F1 ρ1 l lr S1 ⟨_, _, _, p⟩ v vr => ?_⟩
  cases s with
  | own o => exact p.elim
  | fr d =>
    cases d with
    | bl b =>
      cases vr.r
      refine ⟨b, rfl, ?_⟩
      cases b with
      | false => exact ⟨Z, F1, ρ1, μ1, δ1, S1, p⟩
      | true => exact p H1 F1 ρ1 .refl .refl S1 _ .bl
    | _ => exact p.elim
def mNotV (m : ME) : ME := fun δ μ => (m δ μ).bind fun s δ1 μ1 => match s with
  | .fr (.bl b) => .ok (.fr (.bl (!b))) δ1 μ1
  | _ => .bad
theorem je_not {m : ME} (h : JE X W a m) : JE X W (.UnaryOp .Not a pos) (mNotV m) := by
  refine (pe_not h).imp fun σ H Q ⟨Z, F, ρ, μ, δ, S, q⟩ => ⟨Z, F, ρ, μ, δ, S, (FinE.bind q).imp fun s δ1 μ1 H1 F1 ρ1 l lr S1 ⟨_, _, _, p⟩ v vr => ?_⟩
  cases s with
  | own o => exact p.elim
  | fr d =>
    cases d with
    | bl b =>
      cases vr.r
      exact ⟨b, rfl, p H1 F1 ρ1 .refl .refl S1 _ .bl⟩
    | _ => exact p.elim

/-! ### displays -/
def mTup (ms : List ME) : ME := fun δ μ => (evA ms δ μ).bind fun ds δ1 μ1 => if ds.length ≤ 16777216 then .ok (.fr (.tup ds)) δ1 μ1 else .bad
def mLst (ms : List ME) : ME := fun δ μ => (evA ms δ μ).bind fun ds δ1 μ1 => if ds.length ≤ 16777216 then .ok (.own (.lst ds)) δ1 μ1 else .bad
theorem je_tup {k} {ms : List ME} (h : JA X W es ms) : JE X W (.Tuple es k pos) (mTup ms) := by
  refine (pe_tup h).imp fun σ H Q ⟨Z, F, ρ, μ, δ, S, q⟩ => ⟨Z, F, ρ, μ, δ, S, (FinE.bind q).imp fun ds δ1 μ1 H1 F1 ρ1 l lr S1 ⟨_, _, _, p⟩ vs hv => ?_⟩
  by_cases hz : ds.length ≤ 16777216
  · rw [if_pos hz] at p
    refine ⟨by rw [hv.len, sizeLine_eq]; exact hz, fun a ha => ?_⟩
    obtain ⟨n1, n2, n3, n4⟩ := S1.notIn ha
    have S2 := S1.laid (o := .tup vs) ha
    obtain ⟨l3, S3⟩ := S2.freeze (p := a) upd_same ⟨n1, n2, n3⟩ n4
    exact p _ _ ρ1 l3 .refl S3 _ ⟨.tup (.inl (.inl upd_same)) (hv.up l3.to fun _ _ h => h), fun o p z => by cases z⟩
  · rw [if_neg hz] at p; exact p.elim
theorem je_lst {ms : List ME} (h : JA X W es ms) : JE X W (.List es pos) (mLst ms) := by
  refine (pe_lst h).imp fun σ H Q ⟨Z, F, ρ, μ, δ, S, q⟩ => ⟨Z, F, ρ, μ, δ, S, (FinE.bind q).imp fun ds δ1 μ1 H1 F1 ρ1 l lr S1 ⟨_, _, _, p⟩ vs hv => ?_⟩
  by_cases hz : ds.length ≤ 16777216
  · rw [if_pos hz] at p
    refine ⟨by rw [hv.len, sizeLine_eq]; exact hz, fun a ha => ?_⟩
    obtain ⟨n1, n2, n3, n4⟩ := S1.notIn ha
    exact p _ F1 ρ1 .refl .refl (S1.laid ha) _ ⟨⟨a, rfl, ⟨n1, n2, n3⟩, vs, upd_same, hv⟩, fun o p z z2 => by cases z2; exact n4⟩
  · rw [if_neg hz] at p; exact p.elim
/-- an owned thing is made a shared object -/
def mShare (m : ME) : ME := fun δ μ => (m δ μ).bind fun s δ1 μ1 => match s with
  | .own o => .ok (.fr (.obj μ1.length)) δ1 (μ1 ++ [o])
  | _ => .bad
theorem je_share {m : ME} (h : JE X W e m) : JE X W e (mShare m) := by
  refine h.imp fun σ H Q ⟨Z, F, ρ, μ, δ, S, q⟩ => ⟨Z, F, ρ, μ, δ, S, (FinE.bind q).imp fun s δ1 μ1 H1 F1 ρ1 l lr S1 ⟨_, _, _, p⟩ v vr => ?_⟩
  cases s with
  | fr d => exact p.elim
  | own o =>
    obtain ⟨a, ea, lr2, S2, rp⟩ := S1.share vr
    exact p H1 F1 _ .refl lr2 S2 v ⟨rp, fun o p z => by cases z⟩
end
end FL

/-! Part C: operators, built-in functions and methods by values. -/
namespace FL
open PySem L2

theorem line_eq : sizeLine = 16777216 := sizeLine_eq
section
variable {X : Cx} {W : WX} {e a b : Expr} {es : List Expr} {pos : Pos}
/-! ### whole numbers -/
def gInt (c : Int → Int → Bool) (f : Int → Int → D) : D → D → Option Slot
  | .int i, .int j => if c i j = true then some (.fr (f i j)) else none
  | _, _ => none
theorem r2_flat {r : R2} {g : D → D → Option Slot} (h : ∀ F ρ H x y dx dy s Q, Bor X.K X.mg F ρ H x dx → Bor X.K X.mg F ρ H y dy → g dx dy = some s → ∃ v, (Q v H → r x y H Q) ∧ ∃ d, s = .fr d ∧ ∀ F' ρ', Rep X.K X.mg F' ρ' v d) : R2J X r g := by
  intro Z F ρ μ δ σ H x y dx dy s Q S bx bY e q
  obtain ⟨v, h1, d, rfl, h2⟩ := h F ρ H x y dx dy s Q bx bY e
  exact h1 (q v H F .refl S ⟨h2 F ρ, fun o p z => by cases z⟩)
theorem r2_int {C : Int → Int → Prop} {c : Int → Int → Bool} {f : Int → Int → Int} (h : ∀ i j, c i j = true → C i j) : R2J X (rI C fun i j => .int (f i j)) (gInt c fun i j => .int (f i j)) := by
  refine r2_flat fun F ρ H x y dx dy s Q bx bY e => ?_
  unfold gInt at e
  cases dx <;> cases dy <;> first | (cases e; done) | skip
  rename_i i j
  cases bx.int
  cases bY.int
  by_cases hc : c i j = true
  · simp only [hc, if_true] at e
    cases e
    exact ⟨.int (f i j), fun q => ⟨i, j, rfl, rfl, h i j hc, q⟩, _, rfl, fun _ _ => .int⟩
  · simp only [hc] at e
    cases e
theorem r2_int0 {f : Int → Int → Int} : R2J X (rI0 fun i j => .int (f i j)) (gInt (fun _ _ => true) fun i j => .int (f i j)) := by
  refine r2_flat fun F ρ H x y dx dy s Q bx bY e => ?_
  unfold gInt at e
  cases dx <;> cases dy <;> first | (cases e; done) | skip
  rename_i i j
  cases bx.int
  cases bY.int
  simp only [if_true] at e
  cases e
  exact ⟨.int (f i j), fun q => ⟨i, j, rfl, rfl, q⟩, _, rfl, fun _ _ => .int⟩
theorem r2_intB {f : Int → Int → Bool} : R2J X (rI0 fun i j => .bl (f i j)) (gInt (fun _ _ => true) fun i j => .bl (f i j)) := by
  refine r2_flat fun F ρ H x y dx dy s Q bx bY e => ?_
  unfold gInt at e
  cases dx <;> cases dy <;> first | (cases e; done) | skip
  rename_i i j
  cases bx.int
  cases bY.int
  simp only [if_true] at e
  cases e
  exact ⟨.bl (f i j), fun q => ⟨i, j, rfl, rfl, q⟩, _, rfl, fun _ _ => .bl⟩
abbrev gSub : D → D → Option Slot := gInt (fun _ _ => true) fun i j => .int (i - j)
abbrev gMul : D → D → Option Slot := gInt (fun i j => decide (i.natAbs.log2 + j.natAbs.log2 < 1000000)) fun i j => .int (i * j)
abbrev gDiv : D → D → Option Slot := gInt (fun _ j => decide (0 < j) && decide (j.natAbs.log2 < 9000)) fun i j => .int (i / j)
abbrev gMod : D → D → Option Slot := gInt (fun _ j => decide (0 < j)) fun i j => .int (i % j)
abbrev gPow : D → D → Option Slot := gInt (fun i j => decide (0 ≤ j) && decide (j ≤ 1000000) && decide (i.natAbs < 2 ^ 64)) fun i j => .int (i ^ j.toNat)
abbrev gShl : D → D → Option Slot := gInt (fun i j => decide (0 ≤ j) && decide (j ≤ 1000000) && decide (i.natAbs < 2 ^ 64)) fun i j => .int (i * 2 ^ j.toNat)
theorem o_sub : OpR X (binaryOp .Sub) (rI0 fun i j => .int (i - j)) := op_sub
theorem j_sub : R2J X (rI0 fun i j => .int (i - j)) gSub := r2_int0
theorem j_mulI : R2J X (rI CMulW fun i j => .int (i * j)) gMul := r2_int fun i j h => (show i.natAbs.log2 + j.natAbs.log2 < 1000000 from of_decide_eq_true h)
theorem j_div : R2J X (rI CDivW fun i j => .int (i / j)) gDiv := r2_int fun i j h => by
  have h' := Bool.and_eq_true_iff.mp h
  exact ⟨of_decide_eq_true h'.1, of_decide_eq_true h'.2⟩
theorem j_mod : R2J X (rI (fun _ j => 0 < j) fun i j => .int (i % j)) gMod := r2_int fun i j h => of_decide_eq_true h
theorem cpow {i j : Int} (h : (decide (0 ≤ j) && decide (j ≤ 1000000) && decide (i.natAbs < 2 ^ 64)) = true) : CPow i j := by
  have h' := Bool.and_eq_true_iff.mp h
  have h2 := Bool.and_eq_true_iff.mp h'.1
  exact ⟨of_decide_eq_true h2.1, of_decide_eq_true h2.2, of_decide_eq_true h'.2⟩
theorem j_pow : R2J X (rI CPow fun i j => .int (i ^ j.toNat)) gPow := r2_int fun i j h => cpow h
theorem j_shl : R2J X (rI CPow fun i j => .int (i * 2 ^ j.toNat)) gShl := r2_int fun i j h => cpow h
/-! ### + -/
def gAddS : D → D → Option Slot
  | .str x, .str y => if x.length + y.length ≤ 16777216 then some (.fr (.str (x ++ y))) else none
  | _, _ => none
def gAddL : D → D → Option Slot
  | .lst x, .lst y => if x.length + y.length ≤ 16777216 then some (.own (.lst (x ++ y))) else none
  | _, _ => none
def gAddT : D → D → Option Slot
  | .tup x, .tup y => if x.length + y.length ≤ 16777216 then some (.fr (.tup (x ++ y))) else none
  | _, _ => none
theorem j_addS : R2J X (fun x y H Q => ∃ i j, x = .str i ∧ y = .str j ∧ i.length + j.length ≤ sizeLine ∧ Q (.str (i ++ j)) H) gAddS := by
  refine r2_flat fun F ρ H x y dx dy s Q bx bY e => ?_
  unfold gAddS at e
  cases dx <;> cases dy <;> first | (cases e; done) | skip
  rename_i i j
  cases bx.str
  cases bY.str
  by_cases hz : i.length + j.length ≤ 16777216
  · simp only [hz, if_true] at e
    cases e
    exact ⟨.str (toS i ++ toS j), fun q => ⟨_, _, rfl, rfl, by rw [toS_len, toS_len, line_eq]; exact hz, q⟩, _, rfl, fun _ _ => by rw [toS_app]; exact .str⟩
  · simp only [hz] at e; cases e
/-- a list that is looked at is there to be copied: tracked, or locked -/
def rCatL (K : PySem.W.Frag) : R2 := fun x y H Q => ∃ a b xs zs, x = .ref a ∧ y = .ref b ∧ SqL K H a xs ∧ SqL K H b zs ∧ xs.length + zs.length ≤ sizeLine ∧ ∀ p, H p = none → Q (.ref p) (upd H p (.lst (xs ++ zs)))
theorem sum_lists {prog : Program} {w : World} {A : Around} {E : Value → Shared → Prop} {s : Shared} {l b : Addr} {u v : List Value} {Q : Value → Shared → Prop}
    (hl : s.heap.IsList l u.toArray) (hb : s.heap.IsList b v.toArray) (hz : u.length + v.length ≤ sizeLine)
    (h : Q (.ref s.heap.objs.size) { s with heap := s.heap.push { cls := .type "list", data := .seq (u ++ v).toArray } }) : wpAny (model prog w) A (binaryOp .Add (.ref l) (.ref b)) Q E s := by
  rcases hl with ⟨⟨k1, d1, t1, z1⟩, g1, y1, n1, x1⟩
  rcases hb with ⟨⟨k2, d2, t2, z2⟩, g2, y2, n2, x2⟩
  dsimp only at y1 x1 y2 x2
  cases y1; cases x1; cases y2; cases x2
  have hcat : (u ++ v).toArray = u.toArray ++ v.toArray := by simp
  rw [hcat] at h
  exact concat_meets ⟨_, g1, rfl⟩ ⟨_, g2, rfl⟩ noFill_list_add seq_list_add PySem.F.slot_list_add PySem.F.entry_list_add (PySem.F.args_list_add_2 _ _)
    (PyProof.Rows.list_addW l b u.toArray v.toArray n1 n2 d1 d2 z1 z2 (by simpa using hz)) ⟨g1, g2, h⟩
theorem o_cat : OpR X (binaryOp .Add) (rCatL X.K) := by
  intro pins s σ H x y v u Q I rx ry h
  obtain ⟨l, b, xs, zs, rfl, rfl, hl, hb, hz, q⟩ := h
  cases rx
  cases ry
  obtain ⟨ia, ra, pa, za⟩ := I.list hl
  obtain ⟨ib, rb, pb, zb⟩ := I.list hb
  refine sum_lists pa.isList pb.isList (by rw [← ra.length, ← rb.length]; exact hz) ?_
  exact ⟨.ref s.heap.objs.size, _, I.lnew (t' := s.toks) (ra.append rb) (by rw [List.length_append]; exact hz), rfl, q _ I.fresh⟩
theorem vr_newL {Z F : Hp} {ρ : List Addr} {μ : Mem} {δ : Loc} {σ : St} {H : Hp} {p : Addr} {vs : List V} {ds : List D} (S : Sim X.K X.mg Z F ρ μ δ σ H) (hp : H p = none) (r : RepL X.K X.mg F ρ vs ds) :
    Sim X.K X.mg Z F ρ μ δ σ (upd H p (.lst vs)) ∧ VR X.K X.mg Z F ρ δ σ (upd H p (.lst vs)) (.ref p) (.own (.lst ds)) := by
  obtain ⟨n1, n2, n3, n4⟩ := S.notIn hp
  exact ⟨S.laid hp, ⟨p, rfl, ⟨n1, n2, n3⟩, vs, upd_same, r⟩, fun o p z z2 => by cases z2; exact n4⟩
theorem vr_newT {Z F : Hp} {ρ : List Addr} {μ : Mem} {δ : Loc} {σ : St} {H : Hp} {p : Addr} {vs : List V} {ds : List D} (S : Sim X.K X.mg Z F ρ μ δ σ H) (hp : H p = none) (r : RepL X.K X.mg F ρ vs ds) :
    ∃ F', Le Z F F' ∧ Sim X.K X.mg Z F' ρ μ δ σ (upd H p (.tup vs)) ∧ VR X.K X.mg Z F' ρ δ σ (upd H p (.tup vs)) (.ref p) (.fr (.tup ds)) := by
  obtain ⟨n1, n2, n3, n4⟩ := S.notIn hp
  obtain ⟨l3, S3⟩ := (S.laid (o := .tup vs) hp).freeze (p := p) upd_same ⟨n1, n2, n3⟩ n4
  exact ⟨_, l3, S3, .tup (.inl (.inl upd_same)) (r.up l3.to fun _ _ h => h), fun o p z => by cases z⟩
theorem j_addL : R2J X (rCatL X.K) gAddL := by
  intro Z F ρ μ δ σ H x y dx dy s Q S bx bY e q
  unfold gAddL at e
  cases dx <;> cases dy <;> first | (cases e; done) | skip
  rename_i i j
  by_cases hz : i.length + j.length ≤ 16777216
  · simp only [hz, if_true] at e
    cases e
    obtain ⟨p1, v1, rfl, h1, r1⟩ := bx.lst S
    obtain ⟨p2, v2, rfl, h2, r2⟩ := bY.lst S
    refine ⟨p1, p2, v1, v2, rfl, rfl, .of h1, .of h2, by rw [r1.len, r2.len, line_eq]; exact hz, fun p hp => ?_⟩
    obtain ⟨S', vr⟩ := vr_newL S hp (r1.app r2)
    exact q _ _ F .refl S' vr
  · simp only [hz] at e; cases e
theorem j_addT : R2J X (rCatA X.K) gAddT := by
  intro Z F ρ μ δ σ H x y dx dy s Q S bx bY e q
  unfold gAddT at e
  cases dx <;> cases dy <;> first | (cases e; done) | skip
  rename_i i j
  by_cases hz : i.length + j.length ≤ 16777216
  · simp only [hz, if_true] at e
    cases e
    have b1 := bx.rep fun o e => by cases o <;> cases e
    have b2 := bY.rep fun o e => by cases o <;> cases e
    obtain ⟨p1, v1, rfl, h1, r1⟩ := bx.tup S
    obtain ⟨p2, v2, rfl, h2, r2⟩ := bY.tup S
    refine ⟨p1, p2, v1, v2, rfl, rfl, h1, h2, by rw [r1.len, r2.len, line_eq]; exact hz, fun z => ?_, fun _ z => ?_, fun _ _ p hp => ?_⟩
    · subst z
      cases r1
      exact q _ H F .refl S ⟨b2, fun o p z => by cases z⟩
    · subst z
      cases r2
      rw [List.append_nil] at q
      exact q _ H F .refl S ⟨b1, fun o p z => by cases z⟩
    · obtain ⟨F', l', S', vr⟩ := vr_newT S hp (r1.app r2)
      exact q _ _ F' l' S' vr
  · simp only [hz] at e; cases e
/-- + of any two things that can be added -/
def gAdd : D → D → Option Slot := fun x y => (gInt (fun _ _ => true) (fun i j => .int (i + j)) x y).or ((gAddS x y).or ((gAddL x y).or (gAddT x y)))
abbrev rAddA (K : PySem.W.Frag) : R2 := fun x y H Q => rI0 (fun i j => .int (i + j)) x y H Q ∨ ((∃ i j, x = .str i ∧ y = .str j ∧ i.length + j.length ≤ sizeLine ∧ Q (.str (i ++ j)) H) ∨ (rCatL K x y H Q ∨ rCatA K x y H Q))
theorem o_add : OpR X (binaryOp .Add) (rAddA X.K) := op_add.or (op_add_str.or (o_cat.or op_catA))
theorem j_add : R2J X (rAddA X.K) gAdd := R2J.or r2_int0 (R2J.or j_addS (R2J.or j_addL j_addT))
/-! ### * -/
def gRep : D → D → Option Slot
  | .lst x, .int k => if (decide (-(2 ^ 63) ≤ k) && decide (k < 2 ^ 63) && decide (x.length * k.toNat ≤ 16777216)) = true then some (.own (.lst (List.replicate k.toNat x).flatten)) else none
  | _, _ => none
theorem RepL.rep {F : Hp} {ρ : List Addr} {vs : List V} {ds : List D} (h : RepL X.K X.mg F ρ vs ds) : ∀ n : Nat, RepL X.K X.mg F ρ (List.replicate n vs).flatten (List.replicate n ds).flatten
  | 0 => .nil
  | n + 1 => by
    rw [List.replicate_succ, List.replicate_succ, List.flatten_cons, List.flatten_cons]
    exact h.app (RepL.rep h n)
theorem j_rep : R2J X rRep gRep := by
  intro Z F ρ μ δ σ H x y dx dy s Q S bx bY e q
  unfold gRep at e
  cases dx <;> cases dy <;> first | (cases e; done) | skip
  rename_i xs k
  cases bY.int
  by_cases hz : (decide (-(2 ^ 63) ≤ k) && decide (k < 2 ^ 63) && decide (xs.length * k.toNat ≤ 16777216)) = true
  · simp only [hz, if_true] at e
    cases e
    obtain ⟨p1, v1, rfl, h1, r1⟩ := bx.lst S
    have h' := Bool.and_eq_true_iff.mp hz
    have h2 := Bool.and_eq_true_iff.mp h'.1
    refine ⟨p1, k, v1, rfl, rfl, h1, of_decide_eq_true h2.1, of_decide_eq_true h2.2, by rw [r1.len, line_eq]; exact of_decide_eq_true h'.2, fun p hp => ?_⟩
    obtain ⟨S', vr⟩ := vr_newL S hp (r1.rep k.toNat)
    exact q _ _ F .refl S' vr
  · simp only [hz] at e; cases e
/-! ### order -/
abbrev tb (b : Bool) : Slot := .fr (.bl b)
abbrev gLtI : D → D → Option Slot := gInt (fun _ _ => true) fun i j => .bl (decide (i < j))
abbrev gLeI : D → D → Option Slot := gInt (fun _ _ => true) fun i j => .bl (decide (i ≤ j))
abbrev gGtI : D → D → Option Slot := gInt (fun _ _ => true) fun i j => .bl (decide (j < i))
abbrev gGeI : D → D → Option Slot := gInt (fun _ _ => true) fun i j => .bl (decide (j ≤ i))
def gTx (f : Tx → Tx → Bool) : D → D → Option Slot
  | .str x, .str y => some (tb (f x y))
  | _, _ => none
theorem r2_tx {f : List Nat → List Nat → Bool} : R2J X (fun x y H Q => ∃ i j, x = .str i ∧ y = .str j ∧ Q (.bl (f i.cps.toList j.cps.toList)) H) (gTx f) := by
  refine r2_flat fun F ρ H x y dx dy s Q bx bY e => ?_
  unfold gTx at e
  cases dx <;> cases dy <;> first | (cases e; done) | skip
  cases bx.str
  cases bY.str
  cases e
  exact ⟨.bl _, fun q => ⟨_, _, rfl, rfl, q⟩, _, rfl, fun _ _ => .bl⟩
def gLt : D → D → Option Slot := fun x y => (gLtI x y).or (gTx (fun x y => decide (x < y)) x y)
def gLe : D → D → Option Slot := fun x y => (gLeI x y).or (gTx (fun x y => !decide (y < x)) x y)
def gGt : D → D → Option Slot := fun x y => (gGtI x y).or (gTx (fun x y => decide (y < x)) x y)
def gGe : D → D → Option Slot := fun x y => (gGeI x y).or (gTx (fun x y => !decide (x < y)) x y)
abbrev rLtA : R2 := fun x y H Q => rI0 (fun i j => .bl (decide (i < j))) x y H Q ∨ ∃ i j, x = .str i ∧ y = .str j ∧ Q (.bl (decide (i.cps.toList < j.cps.toList))) H
abbrev rLeA : R2 := fun x y H Q => rI0 (fun i j => .bl (decide (i ≤ j))) x y H Q ∨ ∃ i j, x = .str i ∧ y = .str j ∧ Q (.bl (!decide (j.cps.toList < i.cps.toList))) H
abbrev rGtA : R2 := fun x y H Q => rI0 (fun i j => .bl (decide (j < i))) x y H Q ∨ ∃ i j, x = .str i ∧ y = .str j ∧ Q (.bl (decide (j.cps.toList < i.cps.toList))) H
abbrev rGeA : R2 := fun x y H Q => rI0 (fun i j => .bl (decide (j ≤ i))) x y H Q ∨ ∃ i j, x = .str i ∧ y = .str j ∧ Q (.bl (!decide (i.cps.toList < j.cps.toList))) H
theorem o_lt : OpR X (compareOp .Lt) rLtA := op_lt.or op_lt_str
theorem o_le : OpR X (compareOp .LtE) rLeA := op_le.or op_le_str
theorem o_gt : OpR X (compareOp .Gt) rGtA := op_gt.or op_gt_str
theorem o_ge : OpR X (compareOp .GtE) rGeA := op_ge.or op_ge_str
theorem j_lt : R2J X rLtA gLt := R2J.or r2_intB (r2_tx (f := fun x y => decide (x < y)))
theorem j_le : R2J X rLeA gLe := R2J.or r2_intB (r2_tx (f := fun x y => !decide (y < x)))
theorem j_gt : R2J X rGtA gGt := R2J.or r2_intB (r2_tx (f := fun x y => decide (y < x)))
theorem j_ge : R2J X rGeA gGe := R2J.or r2_intB (r2_tx (f := fun x y => !decide (x < y)))
/-! ### ==, != -/
def eqS : D → D → Option Bool
  | .int i, .int j => some (decide (i = j))
  | .str x, .str y => some (decide (x = y))
  | .bl a, .bl b => some (decide (a = b))
  | .non, .non => some true
  | .non, .int _ | .int _, .non | .non, .bl _ | .bl _, .non | .non, .str _ | .str _, .non | .int _, .str _ | .str _, .int _ | .bl _, .str _ | .str _, .bl _ => some false
  | _, _ => none
mutual
def D.py : D → Option PyData
  | .non => some .none
  | .bl b => some (.bool b)
  | .int i => some (.int i)
  | .str x => some (.str (toS x))
  | .lst xs => (D.pys xs).map .list
  | .tup xs => (D.pys xs).map .tuple
  | .ro xs => (D.pys xs).map .list
  | _ => none
def D.pys : List D → Option (List PyData)
  | [] => some []
  | x :: xs => match D.py x, D.pys xs with
    | some a, some r => some (a :: r)
    | _, _ => none
end
def eqP (x y : D) : Option Bool := match D.py x, D.py y with
  | some a, some b => if SeqAt.shaped a && SeqAt.shaped b then some (PyData.eqv a b) else none
  | _, _ => none
def gEq (neg : Bool) : D → D → Option Slot := fun x y => ((eqS x y).map fun b => tb (b != neg)).or ((eqP x y).map fun b => tb (b != neg))
abbrev rEqA (K : PySem.W.Frag) : R2 := fun x y H Q => rEq x y H Q ∨ rEqD K x y H Q
abbrev rNeA (K : PySem.W.Frag) : R2 := fun x y H Q => rNe x y H Q ∨ rNeD K x y H Q
theorem o_eq (hu : X.A.units + 64 < cLine) : OpR X (compareOp .Eq) (rEqA X.K) := op_eq.or (op_eqD hu)
theorem o_ne (hu : X.A.units + 64 < cLine) : OpR X (compareOp .NotEq) (rNeA X.K) := op_ne.or (op_neD hu)
mutual
theorem Rep.dp {K : PySem.W.Frag} {mg : Str → Option Value} {F H : Hp} {ρ : List Addr} (l : ∀ p u, Rd F p u → Rd H p u) : ∀ {v : V} {d : D} {q : PyData}, Rep K mg F ρ v d → D.py d = some q → Dp K H v q
  | _, _, _, .non, e => by simp only [D.py] at e; cases e; exact .non
  | _, _, _, .bl, e => by simp only [D.py] at e; cases e; exact .bl _
  | _, _, _, .int, e => by simp only [D.py] at e; cases e; exact .int _
  | _, _, _, .str, e => by simp only [D.py] at e; cases e; exact .str _
  | _, _, _, .lst h r, e => by
    simp only [D.py] at e
    obtain ⟨qs, e1, e2⟩ := Option.map_eq_some_iff.mp e
    subst e2
    exact .lst (.inl (l _ _ (.inl h))) (RepL.dp l r e1)
  | _, _, _, .ro h r, e => by
    simp only [D.py] at e
    obtain ⟨qs, e1, e2⟩ := Option.map_eq_some_iff.mp e
    subst e2
    exact .lst (h.elim (fun h => .inl (l _ _ h)) .inr) (RepL.dp l r e1)
  | _, _, _, .tup h r, e => by
    simp only [D.py] at e
    obtain ⟨qs, e1, e2⟩ := Option.map_eq_some_iff.mp e
    subst e2
    exact .tup (h.elim (fun h => .inl (l _ _ h)) .inr) (RepL.dp l r e1)
  | _, _, _, .dct _ _ _, e => by simp only [D.py] at e; cases e
  | _, _, _, .obj _, e => by simp only [D.py] at e; cases e
  | _, _, _, .glo _ _, e => by simp only [D.py] at e; cases e
  | _, _, _, .ty, e => by simp only [D.py] at e; cases e
  | _, _, _, .exn _ _ _, e => by simp only [D.py] at e; cases e
theorem RepL.dp {K : PySem.W.Frag} {mg : Str → Option Value} {F H : Hp} {ρ : List Addr} (l : ∀ p u, Rd F p u → Rd H p u) : ∀ {vs : List V} {ds : List D} {qs : List PyData}, RepL K mg F ρ vs ds → D.pys ds = some qs → DpAll K H vs qs
  | _, _, _, .nil, e => by simp only [D.pys] at e; cases e; exact .nil
  | _, _, _, .cons (d := d) (ds := ds) h t, e => by
    simp only [D.pys] at e
    cases e1 : D.py d with
    | none => simp only [e1] at e; cases e
    | some a =>
      cases e2 : D.pys ds with
      | none => simp only [e1, e2] at e; cases e
      | some r =>
        simp only [e1, e2] at e
        cases e
        exact .cons (Rep.dp l h e1) (RepL.dp l t e2)
end
theorem Bor.dp {Z F H : Hp} {ρ : List Addr} {μ : Mem} {δ : Loc} {σ : St} {v : V} {d : D} {q : PyData} (S : Sim X.K X.mg Z F ρ μ δ σ H) (h : Bor X.K X.mg F ρ H v d) (e : D.py d = some q) : Dp X.K H v q := by
  cases h with
  | fr h => exact h.dp (fun _ _ => S.rd) e
  | @own p o h =>
    cases o with
    | dct ks vs => simp only [Own.d, D.py] at e; cases e
    | tab P q => simp only [Own.d, D.py] at e; cases e
    | lst xs =>
      simp only [Own.d, D.py] at e
      obtain ⟨qs, e1, e2⟩ := Option.map_eq_some_iff.mp e
      subst e2
      obtain ⟨vs, eh, r⟩ := h
      exact .lst (.inl (.inl eh)) (r.dp (fun _ _ => S.rd) e1)
theorem eqS_V {F H : Hp} {ρ : List Addr} {x y : V} {dx dy : D} {b : Bool} (bx : Bor X.K X.mg F ρ H x dx) (bY : Bor X.K X.mg F ρ H y dy) (e : eqS dx dy = some b) : scal x y = true ∧ decide (x = y) = b := by
  unfold eqS at e
  cases dx <;> cases dy <;> first | (cases e; done) | skip
  all_goals cases e
  all_goals first
    | (cases bx.non; cases bY.non; exact ⟨rfl, rfl⟩)
    | (cases bx.non; cases bY.bl; exact ⟨rfl, rfl⟩)
    | (cases bx.bl; cases bY.non; exact ⟨rfl, rfl⟩)
    | (cases bx.non; cases bY.int; exact ⟨rfl, rfl⟩)
    | (cases bx.int; cases bY.non; exact ⟨rfl, rfl⟩)
    | (cases bx.non; cases bY.str; exact ⟨rfl, rfl⟩)
    | (cases bx.str; cases bY.non; exact ⟨rfl, rfl⟩)
    | (cases bx.int; cases bY.str; exact ⟨rfl, rfl⟩)
    | (cases bx.str; cases bY.int; exact ⟨rfl, rfl⟩)
    | (cases bx.bl; cases bY.str; exact ⟨rfl, rfl⟩)
    | (cases bx.str; cases bY.bl; exact ⟨rfl, rfl⟩)
    | (cases bx.bl; cases bY.bl; exact ⟨rfl, by simp⟩)
    | (cases bx.int; cases bY.int; exact ⟨rfl, by simp⟩)
    | (cases bx.str; cases bY.str
       refine ⟨rfl, ?_⟩
       rename_i i j
       by_cases q : i = j
       · subst q; simp
       · have n : ¬ (V.str (toS i) = V.str (toS j)) := fun z => q (toS_inj (by injection z))
         rw [decide_eq_false n, decide_eq_false q])
theorem j_eqN (neg : Bool) : R2J X (fun x y H Q => scal x y = true ∧ Q (.bl (decide (x = y) != neg)) H) (fun x y => (eqS x y).map fun b => tb (b != neg)) := by
  refine r2_flat fun F ρ H x y dx dy s Q bx bY e => ?_
  obtain ⟨b, e1, e2⟩ := Option.map_eq_some_iff.mp e
  obtain ⟨h1, h2⟩ := eqS_V bx bY e1
  subst e2 h2
  exact ⟨_, fun q => ⟨h1, q⟩, _, rfl, fun _ _ => .bl⟩
theorem j_eqD (neg : Bool) : R2J X (fun x y H Q => ∃ d e, Dp X.K H x d ∧ Dp X.K H y e ∧ SeqAt.shaped d = true ∧ SeqAt.shaped e = true ∧ Q (.bl (PyData.eqv d e != neg)) H) (fun x y => (eqP x y).map fun b => tb (b != neg)) := by
  intro Z F ρ μ δ σ H x y dx dy s Q S bx bY e q
  obtain ⟨b, e1, e2⟩ := Option.map_eq_some_iff.mp e
  subst e2
  unfold eqP at e1
  cases p1 : D.py dx with
  | none => simp only [p1] at e1; cases e1
  | some a =>
    cases p2 : D.py dy with
    | none => simp only [p1, p2] at e1; cases e1
    | some c =>
      simp only [p1, p2] at e1
      by_cases hs : (SeqAt.shaped a && SeqAt.shaped c) = true
      · rw [if_pos hs] at e1
        cases e1
        have hs' := Bool.and_eq_true_iff.mp hs
        exact ⟨a, c, bx.dp S p1, bY.dp S p2, hs'.1, hs'.2, q _ H F .refl S .bl⟩
      · rw [if_neg hs] at e1; cases e1
theorem j_eq : R2J X (rEqA X.K) (gEq false) := by
  have h := R2J.or (j_eqN (X := X) false) (j_eqD false)
  have e : gEq false = fun x y => ((eqS x y).map fun b => tb b).or ((eqP x y).map fun b => tb b) := by
    funext x y; unfold gEq; simp only [Bool.bne_false]
  rw [e]
  simp only [Bool.bne_false] at h
  exact h
theorem j_ne : R2J X (rNeA X.K) (gEq true) := by
  have h := R2J.or (j_eqN (X := X) true) (j_eqD true)
  have e : gEq true = fun x y => ((eqS x y).map fun b => tb (!b)).or ((eqP x y).map fun b => tb (!b)) := by
    funext x y; unfold gEq; simp only [Bool.bne_true]
  rw [e]
  simp only [Bool.bne_true] at h
  exact h
/-! ### is None -/
def gIsN (neg : Bool) : D → D → Option Slot
  | .non, .non => some (tb (true != neg))
  | .glo _, .non => none
  | _, .non => some (tb (false != neg))
  | _, _ => none
theorem isN_V {F H : Hp} {ρ : List Addr} {x : V} {dx : D} (bx : Bor X.K X.mg F ρ H x dx) (ng : ∀ g, dx ≠ .glo g) : decide (x = V.non) = match dx with | .non => true | _ => false := by
  cases bx with
  | fr h => cases h <;> first | rfl | exact absurd rfl (ng _)
  | @own p o h => cases o <;> rfl
theorem j_isN (neg : Bool) : R2J X (fun x y H Q => y = V.non ∧ Q (.bl (decide (x = .non) != neg)) H) (gIsN neg) := by
  refine r2_flat fun F ρ H x y dx dy s Q bx bY e => ?_
  unfold gIsN at e
  cases dy <;> first | (cases dx <;> cases e; done) | skip
  cases bY.non
  cases dx <;> first | (cases e; done) | skip
  all_goals
    have h := isN_V bx (fun g z => by cases z)
    cases e
    rw [h]
    exact ⟨_, fun q => ⟨rfl, q⟩, _, rfl, fun _ _ => .bl⟩
theorem o_isN : OpR X (compareOp .Is) (fun x y H Q => y = V.non ∧ Q (.bl (decide (x = .non) != false)) H) := by simpa only [Bool.bne_false] using op_isN (X := X)
theorem o_notN : OpR X (compareOp .IsNot) (fun x y H Q => y = V.non ∧ Q (.bl (decide (x = .non) != true)) H) := by simpa only [Bool.bne_true] using op_notN (X := X)
/-! ### in -/
def gInS (neg : Bool) : D → D → Option Slot
  | .str [c], .str y => some (tb (decide (c ∈ y) != neg))
  | _, _ => none
theorem j_inS (neg : Bool) : R2J X (fun x y H Q => ∃ (c : Nat) (z : Str), x = .str ⟨#[c]⟩ ∧ y = .str z ∧ Q (.bl (decide (c ∈ z.cps.toList) != neg)) H) (gInS neg) := by
  refine r2_flat fun F ρ H x y dx dy s Q bx bY e => ?_
  unfold gInS at e
  cases dx <;> first | (cases e; done) | skip
  rename_i xs
  cases xs with
  | nil => cases e
  | cons c r =>
    cases r with
    | cons _ _ => cases e
    | nil =>
      cases dy <;> first | (cases e; done) | skip
      cases bx.str
      cases bY.str
      cases e
      exact ⟨_, fun q => ⟨c, _, rfl, rfl, q⟩, _, rfl, fun _ _ => .bl⟩
def D.fv : D → Option V
  | .non => some .non
  | .bl b => some (.bl b)
  | .int i => some (.int i)
  | .str x => some (.str (toS x))
  | _ => none
def fvs : List D → Option (List V)
  | [] => some []
  | x :: xs => match D.fv x, fvs xs with
    | some a, some r => some (a :: r)
    | _, _ => none
def gInL (neg : Bool) : D → D → Option Slot := fun x y => match D.fv x, (match y with | .lst ys => fvs ys | .tup ys => fvs ys | _ => none) with
  | some a, some vs => some (tb (inV a vs != neg))
  | _, _ => none
theorem Bor.fv {F H : Hp} {ρ : List Addr} {x w : V} {d : D} (h : Bor X.K X.mg F ρ H x d) (e : D.fv d = some w) : x = w ∧ flatV w = true := by
  cases d <;> first | (cases e; done) | skip
  · cases e; exact ⟨h.non, rfl⟩
  · cases e; exact ⟨h.bl, rfl⟩
  · cases e; exact ⟨h.int, rfl⟩
  · cases e; exact ⟨h.str, rfl⟩
theorem RepL.fvs {F : Hp} {ρ : List Addr} : ∀ {vs ws : List V} {ds : List D}, RepL X.K X.mg F ρ vs ds → fvs ds = some ws → vs = ws ∧ ws.all flatV = true := by
  intro vs ws ds
  induction ds generalizing vs ws with
  | nil => intro h e; cases h; cases e; exact ⟨rfl, rfl⟩
  | cons d ds ih =>
    intro h e
    cases h with
    | cons h t =>
      unfold FL.fvs at e
      cases e1 : D.fv d with
      | none => simp only [e1] at e; cases e
      | some a =>
        cases e2 : FL.fvs ds with
        | none => simp only [e1, e2] at e; cases e
        | some r =>
          simp only [e1, e2] at e
          cases e
          obtain ⟨h1, h2⟩ := ih t e2
          obtain ⟨h3, h4⟩ := Bor.fv (X := X) (H := F) (.fr h) e1
          exact ⟨by rw [h1, h3], by rw [List.all_cons, h4, h2]; rfl⟩
theorem j_inL (neg : Bool) : R2J X (rIn X.K neg) (gInL neg) := by
  intro Z F ρ μ δ σ H x y dx dy s Q S bx bY e q
  unfold gInL at e
  cases e1 : D.fv dx with
  | none => simp only [e1] at e; cases e
  | some a =>
    obtain ⟨rfl, fa⟩ := bx.fv e1
    have fin : ∀ {vs : List V} {ds : List D} {ws : List V}, RepL X.K X.mg F ρ vs ds → fvs ds = some ws → s = tb (inV x ws != neg) → x = x → ∀ p, y = .ref p → (SqL X.K H p vs ∨ SqT X.K H p vs) → rIn X.K neg x y H Q := by
      intro vs ds ws r e2 es _ p ey hq
      obtain ⟨rfl, f2⟩ := r.fvs e2
      refine ⟨p, vs, ey, hq, fa, f2, ?_⟩
      have qq := q (.bl (inV x vs != neg)) H F .refl S (by rw [es]; exact .bl)
      cases neg with
      | true => rw [if_pos rfl]; simpa only [Bool.bne_true] using qq
      | false => rw [if_neg Bool.false_ne_true]; simpa only [Bool.bne_false] using qq
    cases dy <;> first | (simp only [e1] at e; cases e; done) | skip
    · rename_i ys
      cases e2 : fvs ys with
      | none => simp only [e1, e2] at e; cases e
      | some ws =>
        simp only [e1, e2] at e
        obtain ⟨p, vs, ey, hl, r⟩ := bY.lst S
        exact fin r e2 (by injection e with e; exact e.symm) rfl p ey (.inl (.of hl))
    · rename_i ys
      cases e2 : fvs ys with
      | none => simp only [e1, e2] at e; cases e
      | some ws =>
        simp only [e1, e2] at e
        obtain ⟨p, vs, ey, hl, r⟩ := bY.tup S
        exact fin r e2 (by injection e with e; exact e.symm) rfl p ey (.inr hl)
def gIn (neg : Bool) : D → D → Option Slot := fun x y => (gInS neg x y).or (gInL neg x y)
abbrev rInA (K : PySem.W.Frag) (neg : Bool) : R2 := fun x y H Q => (∃ (c : Nat) (z : Str), x = .str ⟨#[c]⟩ ∧ y = .str z ∧ Q (.bl (decide (c ∈ z.cps.toList) != neg)) H) ∨ rIn K neg x y H Q
theorem o_in : OpR X (compareOp .In) (rInA X.K false) := OpR.or (by simpa only [Bool.bne_false] using op_in_sign (X := X)) op_in_seq
theorem o_nin : OpR X (compareOp .NotIn) (rInA X.K true) := OpR.or (by simpa only [Bool.bne_true] using op_notIn_sign (X := X)) op_notIn_seq
theorem j_in (neg : Bool) : R2J X (rInA X.K neg) (gIn neg) := R2J.or (j_inS neg) (j_inL neg)
/-! ### items -/
def gIxL : D → D → Option Slot
  | .lst x, .int i => (atI x i).map .fr
  | .tup x, .int i => (atI x i).map .fr
  | .ro x, .int i => (atI x i).map .fr
  | .str x, .int i => if x.length ≤ 16777216 then (atI x i).map fun c => .fr (.str [c]) else none
  | _, _ => none
theorem RepL.atI {F : Hp} {ρ : List Addr} {vs : List V} {ds : List D} {i : Int} {d : D} (r : RepL X.K X.mg F ρ vs ds) (e : L2.atI ds i = some d) : ∃ v, L2.atI vs i = some v ∧ Rep X.K X.mg F ρ v d := by
  unfold L2.atI at e ⊢
  rw [r.len]
  cases h : ixN ds.length i with
  | none => rw [h] at e; cases e
  | some j =>
    rw [h] at e
    exact r.get e
theorem j_ix : R2J X (rIx X.K) gIxL := by
  intro Z F ρ μ δ σ H x y dx dy s Q S bx bY e q
  unfold gIxL at e
  cases dx <;> cases dy <;> first | (cases e; done) | skip
  · rename_i x i
    cases bx.str
    cases bY.int
    by_cases hz : x.length ≤ 16777216
    · simp only [hz, if_true] at e
      obtain ⟨c, e1, e2⟩ := Option.map_eq_some_iff.mp e
      subst e2
      exact .inr (.inr ⟨_, _, c, rfl, rfl, by rw [toS_len, line_eq]; exact hz, e1, q _ H F .refl S ⟨Rep.str (x := [c]), fun o p z => by cases z⟩⟩)
    · simp only [hz] at e; cases e
  · rename_i x i
    obtain ⟨d, e1, e2⟩ := Option.map_eq_some_iff.mp e
    subst e2
    cases bY.int
    obtain ⟨p, vs, rfl, hl, r⟩ := bx.lst S
    obtain ⟨v, ev, rv⟩ := r.atI e1
    exact .inl ⟨p, vs, _, v, rfl, rfl, .of hl, ev, q _ H F .refl S ⟨rv, fun o p z => by cases z⟩⟩
  · rename_i x i
    obtain ⟨d, e1, e2⟩ := Option.map_eq_some_iff.mp e
    subst e2
    cases bY.int
    obtain ⟨p, vs, rfl, hl, r⟩ := bx.tup S
    obtain ⟨v, ev, rv⟩ := r.atI e1
    exact .inr (.inl ⟨p, vs, _, v, rfl, rfl, hl, ev, q _ H F .refl S ⟨rv, fun o p z => by cases z⟩⟩)
  · rename_i x i
    obtain ⟨d, e1, e2⟩ := Option.map_eq_some_iff.mp e
    subst e2
    cases bY.int
    obtain ⟨p, vs, rfl, hl, r⟩ := bx.ro S
    obtain ⟨v, ev, rv⟩ := r.atI e1
    exact .inl ⟨p, vs, _, v, rfl, rfl, hl, ev, q _ H F .refl S ⟨rv, fun o p z => by cases z⟩⟩
end
end FL

/-! Part D: calls of built-in functions and types, methods of built-in types, slices. -/
namespace FL
open PySem L2

section
variable {X : Cx} {W : WX} {e a b o : Expr} {es : List Expr} {pos p apos : Pos}
/-! ### calls -/
def RLJ (X : Cx) (r : List V → Hp → VK → Prop) (g : List D → Option Slot) : Prop := ∀ Z F ρ μ δ σ H xs ds s Q, Sim X.K X.mg Z F ρ μ δ σ H → BorL X.K X.mg F ρ H xs ds → g ds = some s →
  (∀ v H' F', Le Z F F' → Sim X.K X.mg Z F' ρ μ δ σ H' → VR X.K X.mg Z F' ρ δ σ H' v s → Q v H') → r xs H Q
def mC (g : List D → Option Slot) (os : List Opn) : ME := fun δ μ => (evs os δ μ).bind fun rs δ1 μ1 => match OR.ats δ1 μ1 rs with
  | some ds => lift (g ds) δ1 μ1
  | none => .bad
theorem mC_read {r : List V → Hp → VK → Prop} {g : List D → Option Slot} {os : List Opn} (hr : RLJ X r g) : ∀ σ H Q, rdE X W (mC g os) σ H Q → tCB r (rdOs X W os) σ H Q := by
  intro σ H Q ⟨Z, F, ρ, μ, δ, S, q⟩
  refine ⟨Z, F, ρ, μ, δ, S, (FinE.bind q).imp fun rs δ1 μ1 H1 F1 ρ1 l lr S1 ⟨_, _, _, p⟩ xs hx => ?_⟩
  cases ea : OR.ats δ1 μ1 rs with
  | none => simp only [ea] at p; exact p.elim
  | some ds =>
    simp only [ea] at p
    unfold lift at p
    cases eg : g ds with
    | none => simp only [eg] at p; exact p.elim
    | some s =>
      simp only [eg] at p
      exact hr Z F1 ρ1 μ1 δ1 σ H1 xs ds s Q S1 (hx.bor S1 ea) eg fun v H' F' l' S' vr => p H' F' ρ1 l' .refl S' v vr
theorem je_callB {x : Str} {id : String} {r : List V → Hp → VK → Prop} {g : List D → Option Slot} {os : List Opn} (hc : CallR X (.builtin id) r) (hr : RLJ X r g) (hg : Gl X x) (hm : X.mg x = none) (hv : bootBuiltins x = some (.builtin id)) (ha : JOs X W (e :: es) os)
    (hn : x ≠ "__name__" := by decide) (hdb : (x == ("__debug__" : Str)) = false := by decide)
    (he : starEach (e :: es) X.env = (false, eval e X.env) :: starEach es X.env := by rfl) (hpl : (backTo pos (starEach es X.env)).any (·.1) = false := by rfl) : JE X W (.Call (.Name x p) (e :: es) [] pos) (mC g os) :=
  (pe_callB hc hg hm hv ha hn hdb he hpl).imp (mC_read hr)
theorem je_callTy {x : Str} {T : String} {r : List V → Hp → VK → Prop} {g : List D → Option Slot} {os : List Opn} (hc : CallR X (.type T) r) (hr : RLJ X r g) (hg : Gl X x) (hm : X.mg x = none) (hv : bootBuiltins x = some (.type T)) (ha : JOs X W (e :: es) os)
    (hn : x ≠ "__name__" := by decide) (hdb : (x == ("__debug__" : Str)) = false := by decide)
    (he : starEach (e :: es) X.env = (false, eval e X.env) :: starEach es X.env := by rfl) (hpl : (backTo pos (starEach es X.env)).any (·.1) = false := by rfl) : JE X W (.Call (.Name x p) (e :: es) [] pos) (mC g os) :=
  (pe_callTy hc hg hm hv ha hn hdb he hpl).imp (mC_read hr)
/-- the name of a built-in type, as a value -/
theorem je_ty {x : Str} {T : String} (hg : Gl X x) (hm : X.mg x = none) (hv : bootBuiltins x = some (.type T)) (hn : x ≠ "__name__" := by decide) (hdb : (x == ("__debug__" : Str)) = false := by decide) : JE X W (.Name x pos) (mD (.ty T)) :=
  je_c (pe_bltn hg hm hv (v := .ty T) rfl hn hdb) fun _ _ => .ty
theorem RLJ.or {r r' : List V → Hp → VK → Prop} {g g' : List D → Option Slot} (h : RLJ X r g) (h' : RLJ X r' g') : RLJ X (fun x H Q => r x H Q ∨ r' x H Q) (fun x => (g x).or (g' x)) := by
  intro Z F ρ μ δ σ H xs ds s Q S b e q
  have e : (g ds).or (g' ds) = some s := e
  cases eg : g ds with
  | some s' => rw [eg] at e; exact .inl (h Z F ρ μ δ σ H xs ds s Q S b (by rw [eg]; exact e) q)
  | none => rw [eg] at e; exact .inr (h' Z F ρ μ δ σ H xs ds s Q S b e q)
theorem BorL.one {F H : Hp} {ρ : List Addr} {xs : List V} {d : D} (h : BorL X.K X.mg F ρ H xs [d]) : ∃ v, xs = [v] ∧ Bor X.K X.mg F ρ H v d := by
  cases h with
  | cons h t => cases t; exact ⟨_, rfl, h⟩
theorem BorL.two {F H : Hp} {ρ : List Addr} {xs : List V} {d d' : D} (h : BorL X.K X.mg F ρ H xs [d, d']) : ∃ v w, xs = [v, w] ∧ Bor X.K X.mg F ρ H v d ∧ Bor X.K X.mg F ρ H w d' := by
  cases h with
  | cons h t => obtain ⟨w, rfl, h'⟩ := t.one; exact ⟨_, w, rfl, h, h'⟩
/-- one argument, a value that is no object comes back -/
theorem rl1_flat {r : List V → Hp → VK → Prop} {g : D → Option Slot} (h : ∀ Z F ρ μ δ σ H x dx s Q, Sim X.K X.mg Z F ρ μ δ σ H → Bor X.K X.mg F ρ H x dx → g dx = some s → ∃ v, (Q v H → r [x] H Q) ∧ ∃ d, s = .fr d ∧ Rep X.K X.mg F ρ v d) :
    RLJ X r (fun ds => match ds with | [d] => g d | _ => none) := by
  intro Z F ρ μ δ σ H xs ds s Q S b e q
  cases ds with
  | nil => cases e
  | cons d r' =>
    cases r' with
    | cons _ _ => cases e
    | nil =>
      obtain ⟨v, rfl, hb⟩ := b.one
      obtain ⟨w, h1, d', rfl, h2⟩ := h Z F ρ μ δ σ H v d s Q S hb e
      exact h1 (q w H F .refl S ⟨h2, fun o p z => by cases z⟩)
/-- len -/
def gLen1 : D → Option Slot
  | .str x => if x.length ≤ 16777216 then some (.fr (.int x.length)) else none
  | .lst x => some (.fr (.int x.length))
  | .tup x => some (.fr (.int x.length))
  | .ro x => some (.fr (.int x.length))
  | _ => none
def gLen : List D → Option Slot := fun ds => match ds with
  | [d] => gLen1 d
  | _ => none
abbrev rLen (K : PySem.W.Frag) : List V → Hp → VK → Prop := fun xs H Q => ∃ x n, xs = [x] ∧ LenV K x H n ∧ Q (.int n) H
theorem j_len : RLJ X (rLen X.K) gLen := rl1_flat fun Z F ρ μ δ σ H x dx s Q S b e => by
  unfold gLen1 at e
  cases dx <;> first | (cases e; done) | skip
  · rename_i t
    cases b.str
    by_cases hz : t.length ≤ 16777216
    · simp only [hz, if_true] at e
      cases e
      exact ⟨.int (toS t).length, fun q => ⟨_, _, rfl, ⟨by rw [toS_len, line_eq]; exact hz, rfl⟩, q⟩, _, rfl, by rw [toS_len]; exact .int⟩
    · simp only [hz] at e; cases e
  · cases e
    obtain ⟨p, vs, rfl, h, r⟩ := b.lst S
    exact ⟨.int vs.length, fun q => ⟨_, _, rfl, .inl ⟨vs, .of h, rfl⟩, q⟩, _, rfl, by rw [r.len]; exact .int⟩
  · cases e
    obtain ⟨p, vs, rfl, h, r⟩ := b.tup S
    exact ⟨.int vs.length, fun q => ⟨_, _, rfl, .inr ⟨vs, h, rfl⟩, q⟩, _, rfl, by rw [r.len]; exact .int⟩
  · cases e
    obtain ⟨p, vs, rfl, h, r⟩ := b.ro S
    exact ⟨.int vs.length, fun q => ⟨_, _, rfl, .inl ⟨vs, h, rfl⟩, q⟩, _, rfl, by rw [r.len]; exact .int⟩
theorem o_len : CallR X (.builtin "len") (rLen X.K) := call_len
/-- max, min of two -/
def gMax2 : List D → Option Slot
  | [.int i, .int j] => some (.fr (.int (if j > i then j else i)))
  | _ => none
def gMin2 : List D → Option Slot
  | [.int i, .int j] => some (.fr (.int (if j < i then j else i)))
  | _ => none
theorem rl_ii {f : Int → Int → Int} {g : List D → Option Slot} (hg : ∀ ds s, g ds = some s → ∃ i j, ds = [.int i, .int j] ∧ s = .fr (.int (f i j))) : RLJ X (fun xs H Q => ∃ i j, xs = [.int i, .int j] ∧ Q (.int (f i j)) H) g := by
  intro Z F ρ μ δ σ H xs ds s Q S b e q
  obtain ⟨i, j, rfl, rfl⟩ := hg ds s e
  obtain ⟨v, w, rfl, h1, h2⟩ := b.two
  cases h1.int
  cases h2.int
  exact ⟨i, j, rfl, q _ H F .refl S ⟨.int, fun o p z => by cases z⟩⟩
theorem j_max2 : RLJ X (fun xs H Q => ∃ i j, xs = [V.int i, V.int j] ∧ Q (.int (if j > i then j else i)) H) gMax2 := rl_ii (f := fun i j => if j > i then j else i) fun ds s e => by
  unfold gMax2 at e
  split at e
  · cases e; exact ⟨_, _, rfl, rfl⟩
  · cases e
theorem j_min2 : RLJ X (fun xs H Q => ∃ i j, xs = [V.int i, V.int j] ∧ Q (.int (if j < i then j else i)) H) gMin2 := rl_ii (f := fun i j => if j < i then j else i) fun ds s e => by
  unfold gMin2 at e
  split at e
  · cases e; exact ⟨_, _, rfl, rfl⟩
  · cases e
/-- abs -/
def gAbs : List D → Option Slot := fun ds => match ds with
  | [d] => match d with
    | .int i => some (.fr (.int (if i < 0 then -i else i)))
    | _ => none
  | _ => none
theorem j_abs : RLJ X (fun xs H Q => ∃ i, xs = [V.int i] ∧ Q (.int (if i < 0 then -i else i)) H) gAbs :=
  rl1_flat (g := fun d => match d with | .int i => some (.fr (.int (if i < 0 then -i else i))) | _ => none) fun Z F ρ μ δ σ H x dx s Q S b e => by
    cases dx <;> first | (cases e; done) | skip
    cases b.int
    cases e
    exact ⟨_, fun q => ⟨_, rfl, q⟩, _, rfl, .int⟩
/-- sum of whole numbers -/
def intsD : List D → Option (List Int)
  | [] => some []
  | .int i :: r => (intsD r).map (i :: ·)
  | _ :: _ => none
theorem intsD_map : ∀ {ds : List D} {ns : List Int}, intsD ds = some ns → ds = ns.map .int
  | [], ns, e => by cases e; rfl
  | d :: r, ns, e => by
    cases d <;> first | (cases e; done) | skip
    rename_i i
    unfold intsD at e
    obtain ⟨m, e1, e2⟩ := Option.map_eq_some_iff.mp e
    subst e2
    rw [intsD_map e1]; rfl
theorem intsD_of : ∀ ns : List Int, intsD (ns.map .int) = some ns
  | [] => rfl
  | n :: ns => by show (intsD (ns.map D.int)).map (n :: ·) = _; rw [intsD_of ns]; rfl
def gSum : List D → Option Slot := fun ds => match ds with
  | [d] => match d with
    | .lst xs => (intsD xs).map fun ns => .fr (.int ns.sum)
    | _ => none
  | _ => none
theorem j_sum : RLJ X (rSum X.K) gSum :=
  rl1_flat (g := fun d => match d with | .lst xs => (intsD xs).map fun ns => .fr (.int ns.sum) | _ => none) fun Z F ρ μ δ σ H x dx s Q S b e => by
    cases dx <;> first | (cases e; done) | skip
    obtain ⟨ns, e1, e2⟩ := Option.map_eq_some_iff.mp e
    subst e2
    obtain ⟨p, vs, rfl, h, r⟩ := b.lst S
    rw [intsD_map e1] at r
    have ev := r.ints
    subst ev
    exact ⟨_, fun q => ⟨p, ns, rfl, .of h, q⟩, _, rfl, .int⟩
/-- all, any of truth values -/
def blsD : List D → Option (List Bool)
  | [] => some []
  | .bl i :: r => (blsD r).map (i :: ·)
  | _ :: _ => none
theorem blsD_map : ∀ {ds : List D} {ns : List Bool}, blsD ds = some ns → ds = ns.map .bl
  | [], ns, e => by cases e; rfl
  | d :: r, ns, e => by
    cases d <;> first | (cases e; done) | skip
    rename_i i
    unfold blsD at e
    obtain ⟨m, e1, e2⟩ := Option.map_eq_some_iff.mp e
    subst e2
    rw [blsD_map e1]; rfl
theorem blsD_of : ∀ ns : List Bool, blsD (ns.map .bl) = some ns
  | [] => rfl
  | n :: ns => by show (blsD (ns.map D.bl)).map (n :: ·) = _; rw [blsD_of ns]; rfl
def gAll : List D → Option Slot := fun ds => match ds with
  | [d] => match d with
    | .lst xs => (blsD xs).map fun ns => .fr (.bl (ns.all id))
    | _ => none
  | _ => none
def gAny : List D → Option Slot := fun ds => match ds with
  | [d] => match d with
    | .lst xs => (blsD xs).map fun ns => .fr (.bl (ns.any id))
    | _ => none
  | _ => none
theorem j_all : RLJ X (rAll X.K) gAll :=
  rl1_flat (g := fun d => match d with | .lst xs => (blsD xs).map fun ns => .fr (.bl (ns.all id)) | _ => none) fun Z F ρ μ δ σ H x dx s Q S b e => by
    cases dx <;> first | (cases e; done) | skip
    obtain ⟨ns, e1, e2⟩ := Option.map_eq_some_iff.mp e
    subst e2
    obtain ⟨p, vs, rfl, h, r⟩ := b.lst S
    rw [blsD_map e1] at r
    have ev := r.bls
    subst ev
    exact ⟨_, fun q => ⟨p, ns, rfl, .of h, q⟩, _, rfl, .bl⟩
theorem j_any : RLJ X (rAny X.K) gAny :=
  rl1_flat (g := fun d => match d with | .lst xs => (blsD xs).map fun ns => .fr (.bl (ns.any id)) | _ => none) fun Z F ρ μ δ σ H x dx s Q S b e => by
    cases dx <;> first | (cases e; done) | skip
    obtain ⟨ns, e1, e2⟩ := Option.map_eq_some_iff.mp e
    subst e2
    obtain ⟨p, vs, rfl, h, r⟩ := b.lst S
    rw [blsD_map e1] at r
    have ev := r.bls
    subst ev
    exact ⟨_, fun q => ⟨p, ns, rfl, .of h, q⟩, _, rfl, .bl⟩
/-- list(x), tuple(x) -/
def gList : List D → Option Slot
  | [.lst xs] => some (.own (.lst xs))
  | [.tup xs] => some (.own (.lst xs))
  | [.ro xs] => some (.own (.lst xs))
  | _ => none
abbrev rList (K : PySem.W.Frag) : List V → Hp → VK → Prop := fun xs H Q => ∃ p ys, xs = [.ref p] ∧ (SqL K H p ys ∨ SqT K H p ys) ∧ ∀ l, H l = none → Q (.ref l) (upd H l (.lst ys))
theorem j_list : RLJ X (rList X.K) gList := by
  intro Z F ρ μ δ σ H xs ds s Q S b e q
  unfold gList at e
  split at e
  · cases e
    obtain ⟨v, rfl, hb⟩ := b.one
    obtain ⟨p, vs, rfl, h, r⟩ := hb.lst S
    refine ⟨p, vs, rfl, .inl (.of h), fun l hl => ?_⟩
    obtain ⟨S', vr⟩ := vr_newL S hl r
    exact q _ _ F .refl S' vr
  · cases e
    obtain ⟨v, rfl, hb⟩ := b.one
    obtain ⟨p, vs, rfl, h, r⟩ := hb.tup S
    refine ⟨p, vs, rfl, .inr h, fun l hl => ?_⟩
    obtain ⟨S', vr⟩ := vr_newL S hl r
    exact q _ _ F .refl S' vr
  · cases e
    obtain ⟨v, rfl, hb⟩ := b.one
    obtain ⟨p, vs, rfl, h, r⟩ := hb.ro S
    refine ⟨p, vs, rfl, .inl h, fun l hl => ?_⟩
    obtain ⟨S', vr⟩ := vr_newL S hl r
    exact q _ _ F .refl S' vr
  · cases e
theorem o_list : CallR X (.type "list") (rList X.K) := call_list_of
def gTuple : List D → Option Slot
  | [.lst xs] => some (.fr (.tup xs))
  | [.tup xs] => some (.fr (.tup xs))
  | _ => none
abbrev rTuple (K : PySem.W.Frag) : List V → Hp → VK → Prop := fun xs H Q => ∃ p ys, xs = [.ref p] ∧ ((SqL K H p ys ∧ ∀ l, H l = none → Q (.ref l) (upd H l (.tup ys))) ∨ (SqT K H p ys ∧ Q (.ref p) H))
theorem j_tuple : RLJ X (rTuple X.K) gTuple := by
  intro Z F ρ μ δ σ H xs ds s Q S b e q
  unfold gTuple at e
  split at e
  · cases e
    obtain ⟨v, rfl, hb⟩ := b.one
    obtain ⟨p, vs, rfl, h, r⟩ := hb.lst S
    refine ⟨p, vs, rfl, .inl ⟨.of h, fun l hl => ?_⟩⟩
    obtain ⟨F', l', S', vr⟩ := vr_newT S hl r
    exact q _ _ F' l' S' vr
  · cases e
    obtain ⟨v, rfl, hb⟩ := b.one
    have rp := hb.rep fun o e => by cases o <;> cases e
    obtain ⟨p, vs, rfl, h, r⟩ := hb.tup S
    exact ⟨p, vs, rfl, .inr ⟨h, q _ H F .refl S ⟨rp, fun o p z => by cases z⟩⟩⟩
  · cases e
theorem o_tuple : CallR X (.type "tuple") (rTuple X.K) := call_tuple_of
/-- isinstance(x, T), T a built-in type -/
def tyN : D → Option String
  | .non => some "NoneType"
  | .bl _ => some "bool"
  | .int _ => some "int"
  | .str _ => some "str"
  | .lst _ => some "list"
  | .tup _ => some "tuple"
  | .dct _ _ => some "dict"
  | _ => none
def gIsi : List D → Option Slot
  | [d, .ty T] => match tyN d with
    | some t => (kitB t T).map fun b => tb b
    | none => none
  | _ => none
theorem Bor.ty {F H : Hp} {ρ : List Addr} {v : V} {T : String} (h : Bor X.K X.mg F ρ H v (.ty T)) : v = .ty T := by
  cases h.rep (fun o e => by cases o <;> cases e)
  rfl
theorem tyX_tup {H : Hp} {p : Addr} {vs : List V} (h : SqT X.K H p vs) : TyX X.K H (.ref p) (.type "tuple") := by
  rcases h with (h | ⟨ob, h⟩) | ⟨o, its, n, hk, hc, _⟩
  · exact .base (.tup h)
  · exact .fTuple h
  · exact .kTuple hk hc
theorem tyX_of {Z F H : Hp} {ρ : List Addr} {μ : Mem} {δ : Loc} {σ : St} {v : V} {d : D} {t : String} (S : Sim X.K X.mg Z F ρ μ δ σ H) (h : Bor X.K X.mg F ρ H v d) (e : tyN d = some t) : TyX X.K H v (.type t) := by
  cases d <;> first | (cases e; done) | skip
  · cases e; cases h.non; exact .base .non
  · cases e; cases h.bl; exact .base (.bl _)
  · cases e; cases h.int; exact .base (.int _)
  · cases e; cases h.str; exact .base (.str _)
  · cases e; obtain ⟨p, vs, rfl, q, _⟩ := h.lst S; exact .base (.lst q)
  · cases e; obtain ⟨p, vs, rfl, q, _⟩ := h.tup S; exact tyX_tup q
  · cases e
    obtain ⟨p, vs, rfl, q, _⟩ := h.dct S
    rcases q with q | ⟨ob, q⟩
    · exact .base (.dK q)
    · exact .fDict q
theorem j_isi : RLJ X (rIsi X.K) gIsi := by
  intro Z F ρ μ δ σ H xs ds s Q S b e q
  unfold gIsi at e
  split at e
  · rename_i d T
    cases et : tyN d with
    | none => simp only [et] at e; cases e
    | some t =>
      simp only [et] at e
      obtain ⟨k, e1, e2⟩ := Option.map_eq_some_iff.mp e
      subst e2
      obtain ⟨v, w, rfl, h1, h2⟩ := b.two
      cases h2.ty
      exact ⟨v, _, _, _, k, rfl, .ty T, tyX_of S h1 et, kit_ty e1, q _ H F .refl S .bl⟩
  · cases e
/-- int(x), str(x) -/
def gInt1 : List D → Option Slot
  | [.int i] => some (.fr (.int i))
  | [.bl k] => some (.fr (.int (if k then 1 else 0)))
  | _ => none
abbrev rInt1 : List V → Hp → VK → Prop := fun xs H Q => (∃ i, xs = [.int i] ∧ Q (.int i) H) ∨ ∃ k, xs = [.bl k] ∧ Q (.int (if k then 1 else 0)) H
theorem j_int1 : RLJ X rInt1 gInt1 := by
  intro Z F ρ μ δ σ H xs ds s Q S b e q
  unfold gInt1 at e
  split at e
  · cases e
    obtain ⟨v, rfl, hb⟩ := b.one
    cases hb.int
    exact .inl ⟨_, rfl, q _ H F .refl S ⟨.int, fun o p z => by cases z⟩⟩
  · cases e
    obtain ⟨v, rfl, hb⟩ := b.one
    cases hb.bl
    exact .inr ⟨_, rfl, q _ H F .refl S ⟨.int, fun o p z => by cases z⟩⟩
  · cases e
theorem o_int1 : CallR X (.type "int") rInt1 := call_int1

/-! ### methods -/
def isTy (T : String) : D → Bool
  | .str _ => T == "str"
  | .lst _ => T == "list"
  | _ => false
def RMJ (X : Cx) (r : V → List V → Hp → VK → Prop) (g : D → List D → Option Slot) : Prop := ∀ Z F ρ μ δ σ H x xs dx ds s Q, Sim X.K X.mg Z F ρ μ δ σ H → Bor X.K X.mg F ρ H x dx → BorL X.K X.mg F ρ H xs ds → g dx ds = some s →
  (∀ v H' F', Le Z F F' → Sim X.K X.mg Z F' ρ μ δ σ H' → VR X.K X.mg Z F' ρ δ σ H' v s → Q v H') → r x xs H Q
def mM (T : String) (g : D → List D → Option Slot) (o : Opn) (os : List Opn) : ME := fun δ μ => (o.ev δ μ).bind fun r δ1 μ1 => match r.at δ1 μ1 with
  | some d0 => if isTy T d0 = true then (evs os δ1 μ1).bind fun rs δ2 μ2 => match r.at δ2 μ2, OR.ats δ2 μ2 rs with
      | some d, some ds => lift (g d ds) δ2 μ2
      | _, _ => .bad
    else .bad
  | none => .bad
theorem isTy_V {Z F H : Hp} {ρ : List Addr} {μ : Mem} {δ : Loc} {σ : St} {v : V} {d : D} {T : String} (S : Sim X.K X.mg Z F ρ μ δ σ H) (h : Bor X.K X.mg F ρ H v d) (e : isTy T d = true) : tyV X.K T v H := by
  cases d <;> first | (cases e; done) | skip
  · have e' : (T == "str") = true := e
    cases h.str
    exact beq_iff_eq.mp e'
  · have e' : (T == "list") = true := e
    obtain ⟨p, vs, rfl, q, _⟩ := h.lst S
    exact .inl ⟨beq_iff_eq.mp e', vs, .of q⟩
theorem mM_read {T : String} {r : V → List V → Hp → VK → Prop} {g : D → List D → Option Slot} {oo : Opn} {os : List Opn} (hr : RMJ X r g) : ∀ σ H Q, rdE X W (mM T g oo os) σ H Q → tBM X.K T r (rdO X W oo) (rdOs X W os) σ H Q := by
  intro σ H Q ⟨Z, F, ρ, μ, δ, S, q⟩
  refine ⟨Z, F, ρ, μ, δ, S, (FinE.bind q).imp fun ra δ1 μ1 H1 F1 ρ1 l lr S1 ⟨_, _, _, p⟩ x hx => ?_⟩
  cases e0 : ra.at δ1 μ1 with
  | none => simp only [e0] at p; exact p.elim
  | some d0 =>
    simp only [e0] at p
    by_cases ht : isTy T d0 = true
    · rw [if_pos ht] at p
      refine ⟨isTy_V S1 (hx.bor S1 e0) ht, Z, F1, ρ1, μ1, δ1, S1, p.bind.imp fun rs δ2 μ2 H2 F2 ρ2 l2 lr2 S2 ⟨_, _, _, p2⟩ xs hxs => ?_⟩
      cases ea : ra.at δ2 μ2 with
      | none => simp only [ea] at p2; exact p2.elim
      | some d =>
        cases eb : OR.ats δ2 μ2 rs with
        | none => simp only [ea, eb] at p2; exact p2.elim
        | some ds =>
          simp only [ea, eb] at p2
          unfold lift at p2
          cases eg : g d ds with
          | none => simp only [eg] at p2; exact p2.elim
          | some s =>
            simp only [eg] at p2
            exact hr Z F2 ρ2 μ2 δ2 σ H2 x xs d ds s Q S2 ((hx.up l2 lr2).bor S2 ea) (hxs.bor S2 eb) eg fun v H' F' l' S' vr => p2 H' F' ρ2 l' .refl S' v vr
    · rw [if_neg ht] at p; exact p.elim
/-- o.m(e, ..) of a built-in type that changes nothing -/
theorem je_bm {T id : String} {name : Str} {r : V → List V → Hp → VK → Prop} {g : D → List D → Option Slot} {oo : Opn} {os : List Opn} (pa : PlainAttrs T) (slot : PySem.Slot T name id) (hty : typeOf (.builtin id) = pure (.type "method_descriptor")) (hm : MtR X id r) (hr : RMJ X r g) (ho : JO X W o oo) (ha : JOs X W (e :: es) os)
    (hbase : attributeBase o name X.env (eval o X.env) = eval o X.env := by rfl)
    (hfew : ((backTo pos (starEach (e :: es) X.env)).all (fun x => !x.1) && (backToKw pos (keywordEach [] X.env)).all (fun x => x.1.isSome)
      && decide ((e :: es).length + ([] : List Keyword).length + (if ([] : List Keyword).isEmpty then 0 else 1) < 30)) = true := by rfl)
    (hline : (apos.endLine == pos.line) = true := by rfl) (hs : starEach (e :: es) X.env = (false, eval e X.env) :: starEach es X.env := by rfl) (hplain : (backTo pos (starEach es X.env)).any (·.1) = false := by rfl) :
    JE X W (.Call (.Attribute o name apos) (e :: es) [] pos) (mM T g oo os) :=
  (pe_bm pa slot hty hm ho ha hbase hfew hline hs hplain).imp (mM_read hr)
theorem je_bm0 {T id : String} {name : Str} {r : V → List V → Hp → VK → Prop} {g : D → List D → Option Slot} {oo : Opn} (pa : PlainAttrs T) (slot : PySem.Slot T name id) (hty : typeOf (.builtin id) = pure (.type "method_descriptor")) (hm : MtR X id r) (hr : RMJ X r g) (ho : JO X W o oo)
    (hbase : attributeBase o name X.env (eval o X.env) = eval o X.env := by rfl) (hline : (apos.endLine == pos.line) = true := by rfl) :
    JE X W (.Call (.Attribute o name apos) [] [] pos) (mM T g oo []) := by
  refine (pe_bm0 pa slot hty hm ho hbase hline).imp fun σ H Q h => ?_
  obtain ⟨Z, F, ρ, μ, δ, S, q⟩ := mM_read hr σ H Q h
  refine ⟨Z, F, ρ, μ, δ, S, q.imp fun ra δ1 μ1 H1 F1 ρ1 l lr S1 p x hx => ?_⟩
  obtain ⟨ty, Z2, F2, ρ2, μ2, δ2, S2, q2⟩ := p x hx
  exact ⟨ty, q2 H1 F2 ρ2 .refl .refl S2 [] .nil⟩
/-- texts -/
def gLower : D → List D → Option Slot
  | .str x, [] => if x.all (· < 128) && decide (x.length ≤ 5592405) then some (.fr (.str (x.map PyProof.Rows.lo1))) else none
  | _, _ => none
def gUpper : D → List D → Option Slot
  | .str x, [] => if x.all (· < 128) && decide (x.length ≤ 5592405) then some (.fr (.str (x.map PyProof.Rows.up1))) else none
  | _, _ => none
theorem lower_tx {x : Tx} (h : x.all (· < 128) = true) : Txt.lower (toS x) = toS (x.map PyProof.Rows.lo1) := by
  rw [PyProof.Rows.lower_ascii fun c hc => of_decide_eq_true (List.all_eq_true.mp h c hc)]
  simp [toS]
theorem upper_tx {x : Tx} (h : x.all (· < 128) = true) : Txt.upper (toS x) = toS (x.map PyProof.Rows.up1) := by
  rw [PyProof.Rows.upper_ascii fun c hc => of_decide_eq_true (List.all_eq_true.mp h c hc)]
  simp [toS]
theorem BorL.nil_of {F H : Hp} {ρ : List Addr} {xs : List V} (h : BorL X.K X.mg F ρ H xs []) : xs = [] := by cases h; rfl
theorem j_lower : RMJ X (fun x xs H Q => ∃ a, x = .str a ∧ xs = [] ∧ a.length ≤ 5592405 ∧ Q (.str (Txt.lower a)) H) gLower := by
  intro Z F ρ μ δ σ H x xs dx ds s Q S bx bs e q
  unfold gLower at e
  split at e
  · rename_i t
    by_cases h : (t.all (· < 128) && decide (t.length ≤ 5592405)) = true
    · rw [if_pos h] at e
      cases e
      have h' := Bool.and_eq_true_iff.mp h
      cases bx.str
      exact ⟨_, rfl, bs.nil_of, by rw [toS_len]; exact of_decide_eq_true h'.2, by rw [lower_tx h'.1]; exact q _ H F .refl S ⟨.str, fun o p z => by cases z⟩⟩
    · rw [if_neg h] at e; cases e
  · cases e
theorem j_upper : RMJ X (fun x xs H Q => ∃ a, x = .str a ∧ xs = [] ∧ a.length ≤ 5592405 ∧ Q (.str (Txt.upper a)) H) gUpper := by
  intro Z F ρ μ δ σ H x xs dx ds s Q S bx bs e q
  unfold gUpper at e
  split at e
  · rename_i t
    by_cases h : (t.all (· < 128) && decide (t.length ≤ 5592405)) = true
    · rw [if_pos h] at e
      cases e
      have h' := Bool.and_eq_true_iff.mp h
      cases bx.str
      exact ⟨_, rfl, bs.nil_of, by rw [toS_len]; exact of_decide_eq_true h'.2, by rw [upper_tx h'.1]; exact q _ H F .refl S ⟨.str, fun o p z => by cases z⟩⟩
    · rw [if_neg h] at e; cases e
  · cases e
def strsD : List D → Option (List Tx)
  | [] => some []
  | .str i :: r => (strsD r).map (i :: ·)
  | _ :: _ => none
theorem strsD_map : ∀ {ds : List D} {ns : List Tx}, strsD ds = some ns → ds = ns.map .str
  | [], ns, e => by cases e; rfl
  | d :: r, ns, e => by
    cases d <;> first | (cases e; done) | skip
    rename_i i
    unfold strsD at e
    obtain ⟨m, e1, e2⟩ := Option.map_eq_some_iff.mp e
    subst e2
    rw [strsD_map e1]; rfl
theorem strsD_of : ∀ ns : List Tx, strsD (ns.map .str) = some ns
  | [] => rfl
  | n :: ns => by show (strsD (ns.map D.str)).map (n :: ·) = _; rw [strsD_of ns]; rfl
/-- sep.join(xs) -/
def joinT (sep : Tx) : List Tx → Tx
  | [] => []
  | [x] => x
  | x :: r => x ++ sep ++ joinT sep r
def gJoin : D → List D → Option Slot
  | .str x, [.lst ys] => match strsD ys with
    | some zs => if decide ((zs.map List.length).sum + x.length * zs.length ≤ 16777216) then some (.fr (.str (joinT x zs))) else none
    | none => none
  | .str x, [.tup ys] => match strsD ys with
    | some zs => if decide ((zs.map List.length).sum + x.length * zs.length ≤ 16777216) then some (.fr (.str (joinT x zs))) else none
    | none => none
  | _, _ => none
end
end FL

/-! Part E: statements, loops. -/
namespace FL
open PySem L2

section
variable {K : PySem.W.Frag} {mg : Str → Option Value} {Z F F' : Hp} {ρ ρ' : List Addr} {μ : Mem} {δ : Loc} {σ : St} {H H' : Hp} {p : Addr} {o : HO} {v : V} {s : Slot}
theorem Sim.put {i : Nat} (S : Sim K mg Z F ρ μ δ σ H) (h : VR K mg Z F ρ δ σ H v s) : Sim K mg Z F ρ μ (δ.set i (some s)) (σ.set i (some v)) H := by
  by_cases hi : i < δ.length
  · exact S.store h hi
  · rw [List.set_eq_of_length_le (by omega), List.set_eq_of_length_le (by rw [S.len]; omega)]
    exact S
theorem Sim.drop (S : Sim K mg Z F ρ μ δ σ H) : Sim K mg Z F ρ μ [] [] H :=
  ⟨S.le, S.zk, rfl, fun i s e => by simp at e, fun i j p s s' e => by simp at e, S.mem, S.mlen, S.nod⟩
/-- one more thing is kept as it is -/
theorem Sim.guard (S : Sim K mg Z F ρ μ δ σ H) (hp : H p = some o) (fr : Free Z F ρ p) (no : ∀ (i : Nat) s, δ[i]? = some (some (.own s)) → σ[i]? ≠ some (some (.ref p))) : Sim K mg (upd Z p o) F ρ μ δ σ H := by
  refine ⟨S.le, fun q u h => ?_, S.len, fun i t e => ?_, S.apart, fun k c e => ?_, S.mlen, S.nod⟩
  · by_cases z : q = p
    · subst z; rw [upd_same] at h; cases h; exact hp
    · rw [upd_ne z] at h; exact S.zk q u h
  · obtain ⟨w, e1, r⟩ := S.slot i t e
    refine ⟨w, e1, ?_⟩
    cases t with
    | fr d => exact r
    | own c =>
      obtain ⟨q, ev, f1, r⟩ := r
      subst ev
      have ne : q ≠ p := fun z => by subst z; exact no i c e e1
      exact ⟨q, rfl, ⟨f1.f, by rw [upd_ne ne]; exact f1.z, f1.r⟩, r⟩
  · obtain ⟨a, e1, f1, f2, r⟩ := S.mem k c e
    have ne : a ≠ p := fun z => by subst z; exact fr.r (List.mem_of_getElem? e1)
    exact ⟨a, e1, f1, by rw [upd_ne ne]; exact f2, r⟩
theorem guard_z {q : Addr} (h : upd Z p o q = none) : q ≠ p ∧ Z q = none := by
  by_cases z : q = p
  · subst z; rw [upd_same] at h; cases h
  · rw [upd_ne z] at h; exact ⟨z, h⟩
theorem Sim.unguard (S : Sim K mg (upd Z p o) F ρ μ δ σ H) (hz : Z p = none) : Sim K mg Z F ρ μ δ σ H := by
  refine ⟨S.le, fun q u h => S.zk q u ?_, S.len, fun i t e => ?_, S.apart, fun k c e => ?_, S.mlen, S.nod⟩
  · rw [upd_ne (fun z => by subst z; rw [hz] at h; cases h)]; exact h
  · obtain ⟨w, e1, r⟩ := S.slot i t e
    refine ⟨w, e1, ?_⟩
    cases t with
    | fr d => exact r
    | own c =>
      obtain ⟨q, ev, f1, r⟩ := r
      exact ⟨q, ev, ⟨f1.f, (guard_z f1.z).2, f1.r⟩, r⟩
  · obtain ⟨a, e1, f1, f2, r⟩ := S.mem k c e
    exact ⟨a, e1, f1, (guard_z f2).2, r⟩
theorem Sim.guarded (S : Sim K mg (upd Z p o) F ρ μ δ σ H) : H p = some o := S.zk p o upd_same
theorem Sim.guardNo (S : Sim K mg (upd Z p o) F ρ μ δ σ H) : ∀ (i : Nat) s, δ[i]? = some (some (.own s)) → σ[i]? ≠ some (some (.ref p)) := by
  intro i c e e1
  obtain ⟨w, e2, q, ev, f1, r⟩ := S.slot i _ e
  rw [e1] at e2; cases e2; cases ev
  exact (guard_z f1.z).1 rfl
theorem Le.unguard (l : Le (upd Z p o) F F') : Le Z F F' := ⟨l.to, fun q u h => (l.new q u h).elim .inl fun z => .inr (guard_z z).2⟩
theorem LeR.unguard (l : LeR (upd Z p o) ρ ρ') : LeR Z ρ ρ' := ⟨l.to, fun q h => (l.new q h).elim .inl fun z => .inr (guard_z z).2⟩
theorem Free.on (fr : Free Z F ρ p) (l : Le (upd Z p o) F F') (lr : LeR (upd Z p o) ρ ρ') : Free Z F' ρ' p := by
  refine ⟨?_, fr.z, fun h => ?_⟩
  · cases e : F' p with
    | none => rfl
    | some u =>
      rcases l.new p u e with h | h
      · rw [fr.f] at h; cases h
      · exact absurd rfl (guard_z h).1
  · rcases lr.new p h with h | h
    · exact fr.r h
    · exact absurd rfl (guard_z h).1
/-- all that the slots own is kept as it is -/
def Held (δ : Loc) (σ : St) (p : Addr) : Prop := ∃ (i : Nat) (s : Own), δ[i]? = some (some (.own s)) ∧ σ[i]? = some (some (.ref p))
open Classical in
noncomputable def zone (Z H : Hp) (δ : Loc) (σ : St) : Hp := fun p => if Held δ σ p then H p else Z p
theorem zone_in (h : Held δ σ p) : zone Z H δ σ p = H p := if_pos h
theorem zone_out (h : ¬ Held δ σ p) : zone Z H δ σ p = Z p := if_neg h
theorem Sim.held (S : Sim K mg Z F ρ μ δ σ H) (h : Held δ σ p) : Free Z F ρ p ∧ ∃ o, H p = some o := by
  obtain ⟨i, c, e1, e2⟩ := h
  obtain ⟨w, e3, q, ev, f1, r⟩ := S.slot i _ e1
  rw [e2] at e3; cases e3; cases ev
  exact ⟨f1, r.some⟩
theorem Sim.zone_none (S : Sim K mg Z F ρ μ δ σ H) (h : zone Z H δ σ p = none) : ¬ Held δ σ p ∧ Z p = none := by
  by_cases c : Held δ σ p
  · rw [zone_in c] at h
    obtain ⟨_, o, e⟩ := S.held c
    rw [e] at h; cases h
  · rw [zone_out c] at h; exact ⟨c, h⟩
theorem Sim.enter (S : Sim K mg Z F ρ μ δ σ H) : Sim K mg (zone Z H δ σ) F ρ μ [] [] H := by
  refine ⟨S.le, fun q u h => ?_, rfl, fun i s e => by simp at e, fun i j p s s' e => by simp at e, fun k c e => ?_, S.mlen, S.nod⟩
  · by_cases c : Held δ σ q
    · rw [zone_in c] at h; exact h
    · rw [zone_out c] at h; exact S.zk q u h
  · obtain ⟨a, e1, f1, f2, r⟩ := S.mem k c e
    refine ⟨a, e1, f1, ?_, r⟩
    rw [zone_out fun h => (S.held h).1.r (List.mem_of_getElem? e1)]
    exact f2
theorem Sim.leLeave (S : Sim K mg Z F ρ μ δ σ H) (l : Le (zone Z H δ σ) F F') : Le Z F F' := ⟨l.to, fun q u h => (l.new q u h).elim .inl fun z => .inr (S.zone_none z).2⟩
theorem Sim.leRLeave (S : Sim K mg Z F ρ μ δ σ H) (l : LeR (zone Z H δ σ) ρ ρ') : LeR Z ρ ρ' := ⟨l.to, fun q h => (l.new q h).elim .inl fun z => .inr (S.zone_none z).2⟩
theorem Sim.leave {μ' : Mem} (S : Sim K mg Z F ρ μ δ σ H) (S1 : Sim K mg (zone Z H δ σ) F' ρ' μ' [] [] H') (l : Le (zone Z H δ σ) F F') (lr : LeR (zone Z H δ σ) ρ ρ') : Sim K mg Z F' ρ' μ' δ σ H' := by
  refine ⟨S1.le, fun q u h => S1.zk q u ?_, S.len, fun i t e => ?_, S.apart, fun k c e => ?_, S1.mlen, S1.nod⟩
  · rw [zone_out fun c => by rw [(S.held c).1.z] at h; cases h]; exact h
  · obtain ⟨w, e1, r⟩ := S.slot i t e
    refine ⟨w, e1, ?_⟩
    cases t with
    | fr d => exact Rep.up l.to lr.to r
    | own c =>
      obtain ⟨q, ev, f1, r⟩ := r
      subst ev
      have hq : Held δ σ q := ⟨i, c, e, e1⟩
      obtain ⟨o, eo⟩ := r.some
      have z1 : zone Z H δ σ q = some o := by rw [zone_in hq]; exact eo
      refine ⟨q, rfl, ⟨?_, f1.z, fun hm => ?_⟩, r.up l.to lr.to (by rw [S1.zk q o z1, eo])⟩
      · cases e2 : F' q with
        | none => rfl
        | some u =>
          rcases l.new q u e2 with h | h
          · rw [f1.f] at h; cases h
          · rw [z1] at h; cases h
      · rcases lr.new q hm with h | h
        · exact f1.r h
        · rw [z1] at h; cases h
  · obtain ⟨a, e1, f1, f2, r⟩ := S1.mem k c e
    exact ⟨a, e1, f1, (S.zone_none f2).2, r⟩
theorem Sim.came (S : Sim K mg Z F ρ μ δ σ H) (h : SlotR K mg (zone Z H δ σ) F' ρ' H' v s) : VR K mg Z F' ρ' δ σ H' v s := by
  cases s with
  | fr d => exact ⟨h, fun o p z => by cases z⟩
  | own c =>
    obtain ⟨q, ev, f1, r⟩ := h
    obtain ⟨n1, n2⟩ := S.zone_none f1.z
    refine ⟨⟨q, ev, ⟨f1.f, n2, f1.r⟩, r⟩, fun o p z1 z2 i o' e1 e2 => ?_⟩
    rw [ev] at z2; cases z2
    exact n1 ⟨i, o', e1, e2⟩
end

/-! ### statements -/
inductive OutS where
  | nx (δ : Loc) (μ : Mem)
  | rt (s : Slot) (μ : Mem)
  | bk (δ : Loc) (μ : Mem)
  | ct (δ : Loc) (μ : Mem)
  | exc (x : Exc) (δ : Loc) (μ : Mem)
  | bad
abbrev MS := Loc → Mem → OutS
def Out.thn {α : Type} (r : Out α) (f : α → Loc → Mem → OutS) : OutS :=
  match r with
  | .ok a δ μ => f a δ μ
  | .exc x δ μ => .exc x δ μ
  | .bad => .bad
def OutS.seq (r : OutS) (k : MS) : OutS :=
  match r with
  | .nx δ μ => k δ μ
  | .rt s μ => .rt s μ
  | .bk δ μ => .bk δ μ
  | .ct δ μ => .ct δ μ
  | .exc x δ μ => .exc x δ μ
  | .bad => .bad
def OutS.loop (r : OutS) (k : MS) : OutS :=
  match r with
  | .nx δ μ => k δ μ
  | .ct δ μ => k δ μ
  | .bk δ μ => .nx δ μ
  | .rt s μ => .rt s μ
  | .exc x δ μ => .exc x δ μ
  | .bad => .bad
section
variable (X : Cx) (W : WX)
def FinS (Z F : Hp) (ρ : List Addr) (D : Ends) : OutS → Prop
  | .nx δ μ => ∀ σ' H' F' ρ', Le Z F F' → LeR Z ρ ρ' → Sim X.K X.mg Z F' ρ' μ δ σ' H' → D.nx σ' H'
  | .bk δ μ => ∀ σ' H' F' ρ', Le Z F F' → LeR Z ρ ρ' → Sim X.K X.mg Z F' ρ' μ δ σ' H' → D.bk σ' H'
  | .ct δ μ => ∀ σ' H' F' ρ', Le Z F F' → LeR Z ρ ρ' → Sim X.K X.mg Z F' ρ' μ δ σ' H' → D.ct σ' H'
  | .rt s μ => ∀ v H' F' ρ', Le Z F F' → LeR Z ρ ρ' → Sim X.K X.mg Z F' ρ' μ [] [] H' → SlotR X.K X.mg Z F' ρ' H' v s → D.rt v H'
  | .exc x δ μ => ∀ c d σ' H' F' ρ', Le Z F F' → LeR Z ρ ρ' → Sim X.K X.mg Z F' ρ' μ δ σ' H' → ExcR X.K X.mg F' ρ' c d x → W c d σ' H'
  | .bad => False
def rdS (m : MS) : TS := fun D σ H => ∃ Z F ρ μ δ, Sim X.K X.mg Z F ρ μ δ σ H ∧ FinS X W Z F ρ D (m δ μ)
end
theorem _root_.L2.PS.imp {X : Cx} {s : Stmt} {t t' : TS} (h : PS X s t) (hi : ∀ D σ H, t' D σ H → t D σ H) : PS X s t' := ⟨fun pins s σ H D I q => h.run pins s σ H D I (hi D σ H q)⟩
theorem _root_.L2.PSs.imp {X : Cx} {s : List Stmt} {t t' : TS} (h : PSs X s t) (hi : ∀ D σ H, t' D σ H → t D σ H) : PSs X s t' := ⟨fun pins s σ H D I q => h.run pins s σ H D I (hi D σ H q)⟩
abbrev JS (X : Cx) (W : WX) (s : Stmt) (m : MS) : Prop := PS X s (rdS X W m)
abbrev JSs (X : Cx) (W : WX) (s : List Stmt) (m : MS) : Prop := PSs X s (rdS X W m)

section
variable {X : Cx} {W : WX} {Z F F1 : Hp} {ρ ρ1 : List Addr} {D : Ends} {σ : St} {H : Hp} {μ : Mem} {δ : Loc}
theorem FinS.mono {r : OutS} (h : FinS X W Z F ρ D r) (l : Le Z F F1) (lr : LeR Z ρ ρ1) : FinS X W Z F1 ρ1 D r := by
  cases r with
  | nx δ μ => exact fun σ' H' F' ρ' l' lr' S => h σ' H' F' ρ' (l.trans l') (lr.trans lr') S
  | bk δ μ => exact fun σ' H' F' ρ' l' lr' S => h σ' H' F' ρ' (l.trans l') (lr.trans lr') S
  | ct δ μ => exact fun σ' H' F' ρ' l' lr' S => h σ' H' F' ρ' (l.trans l') (lr.trans lr') S
  | rt s μ => exact fun v H' F' ρ' l' lr' S r => h v H' F' ρ' (l.trans l') (lr.trans lr') S r
  | exc x δ μ => exact fun c d σ' H' F' ρ' l' lr' S e => h c d σ' H' F' ρ' (l.trans l') (lr.trans lr') S e
  | bad => exact h
theorem FinS.thn {α : Type} {r : Out α} {f : α → Loc → Mem → OutS} (h : FinS X W Z F ρ D (r.thn f)) :
    FinE X W Z F ρ σ (fun a δ μ F' ρ' H' => Sim X.K X.mg Z F' ρ' μ δ σ H' ∧ FinS X W Z F' ρ' D (f a δ μ)) r := by
  cases r with
  | ok a δ μ => exact fun H' F' ρ' l lr S => ⟨S, h.mono l lr⟩
  | exc x δ μ => exact fun c d H' F' ρ' l lr S e => h c d σ H' F' ρ' l lr S e
  | bad => exact h
theorem FinS.nx {δ : Loc} {μ : Mem} {σ' : St} {H' : Hp} (h : FinS X W Z F ρ D (.nx δ μ)) (S : Sim X.K X.mg Z F ρ μ δ σ' H') : D.nx σ' H' := h σ' H' F ρ .refl .refl S
theorem FinS.seq {r : OutS} {k : MS} (h : FinS X W Z F ρ D (r.seq k)) : FinS X W Z F ρ { D with nx := rdS X W k D } r := by
  cases r with
  | nx δ μ => exact fun σ' H' F' ρ' l lr S => ⟨Z, F', ρ', μ, δ, S, FinS.mono h l lr⟩
  | bk δ μ => exact h
  | ct δ μ => exact h
  | rt s μ => exact h
  | exc x δ μ => exact h
  | bad => exact h
theorem FinS.loop {r : OutS} {k : MS} {N : St → Hp → Prop} (h : FinS X W Z F ρ D (r.loop k)) (hN : ∀ σ' H' F' ρ' μ δ, Le Z F F' → LeR Z ρ ρ' → Sim X.K X.mg Z F' ρ' μ δ σ' H' → FinS X W Z F' ρ' D (k δ μ) → N σ' H') :
    FinS X W Z F ρ { D with nx := N, ct := N, bk := D.nx } r := by
  cases r with
  | nx δ μ => exact fun σ' H' F' ρ' l lr S => hN σ' H' F' ρ' μ δ l lr S (FinS.mono h l lr)
  | ct δ μ => exact fun σ' H' F' ρ' l lr S => hN σ' H' F' ρ' μ δ l lr S (FinS.mono h l lr)
  | bk δ μ => exact h
  | rt s μ => exact h
  | exc x δ μ => exact h
  | bad => exact h
variable {st : Stmt} {sts rest : List Stmt} {e : Expr} {pos : Pos}
def mPass : MS := fun δ μ => .nx δ μ
def mSeq (m n : MS) : MS := fun δ μ => (m δ μ).seq n
theorem jss_nil : JSs X W [] mPass := pss_nil.imp fun D σ H ⟨Z, F, ρ, μ, δ, S, q⟩ => q.nx S
theorem jss_cons {m n : MS} (h : JS X W st m) (t : JSs X W rest n) : JSs X W (st :: rest) (mSeq m n) :=
  (pss_cons h t).imp fun D σ H ⟨Z, F, ρ, μ, δ, S, q⟩ => ⟨Z, F, ρ, μ, δ, S, FinS.seq q⟩
theorem jss_one {m : MS} (h : JS X W st m) : JSs X W [st] m := pss_one h
theorem js_pass : JS X W (.Pass pos) mPass := ps_pass.imp fun D σ H ⟨Z, F, ρ, μ, δ, S, q⟩ => q.nx S
theorem js_break : JS X W (.Break pos) (fun δ μ => .bk δ μ) := ps_break.imp fun D σ H ⟨Z, F, ρ, μ, δ, S, q⟩ => q σ H F ρ .refl .refl S
theorem js_continue : JS X W (.Continue pos) (fun δ μ => .ct δ μ) := ps_continue.imp fun D σ H ⟨Z, F, ρ, μ, δ, S, q⟩ => q σ H F ρ .refl .refl S
theorem js_doc {x j pos pos'} : JS X W (.Expr (.Constant (.str x) j pos) pos') mPass := ps_doc.imp fun D σ H ⟨Z, F, ρ, μ, δ, S, q⟩ => q.nx S
/-- code that is not reached -/
def mBad : MS := fun _ _ => .bad
theorem js_never : JS X W st mBad := ps_never.imp fun D σ H ⟨Z, F, ρ, μ, δ, S, q⟩ => q
theorem jss_never : JSs X W sts mBad := pss_never.imp fun D σ H ⟨Z, F, ρ, μ, δ, S, q⟩ => q
def mEx (m : ME) : MS := fun δ μ => (m δ μ).thn fun _ δ1 μ1 => .nx δ1 μ1
theorem js_expr {m : ME} (he : JE X W e m) (hs : swapsWith e none pos.line X.env = pure false := by rfl) : JS X W (.Expr e pos) (mEx m) :=
  (ps_expr he hs).imp fun D σ H ⟨Z, F, ρ, μ, δ, S, q⟩ => ⟨Z, F, ρ, μ, δ, S, (FinS.thn q).imp fun a δ1 μ1 H1 F1 ρ1 l lr S1 ⟨_, p⟩ v vr => p.nx S1⟩
def mRet (m : ME) : MS := fun δ μ => (m δ μ).thn fun s _ μ1 => .rt s μ1
theorem js_ret {m : ME} (he : JE X W e m) : JS X W (.Return (some e) pos) (mRet m) :=
  (ps_ret he).imp fun D σ H ⟨Z, F, ρ, μ, δ, S, q⟩ => ⟨Z, F, ρ, μ, δ, S, (FinS.thn q).imp fun a δ1 μ1 H1 F1 ρ1 l lr S1 ⟨_, p⟩ v vr => p v H1 F1 ρ1 .refl .refl S1.drop vr.r⟩
def mRetN : MS := fun _ μ => .rt (.fr .non) μ
theorem js_retN : JS X W (.Return none pos) mRetN := ps_retN.imp fun D σ H ⟨Z, F, ρ, μ, δ, S, q⟩ => q .non H F ρ .refl .refl S.drop .non
def mIfS (t : MT) (m n : MS) : MS := fun δ μ => (t δ μ).thn fun b δ1 μ1 => if b = true then m δ1 μ1 else n δ1 μ1
theorem js_if {c : Expr} {a b : List Stmt} {t : MT} {m n : MS} (hc : JT X W c t) (ha : JSs X W a m) (hb : JSs X W b n) : JS X W (.If c a b pos) (mIfS t m n) := by
  refine (ps_if hc ha hb).imp fun D σ H ⟨Z, F, ρ, μ, δ, S, q⟩ => ⟨Z, F, ρ, μ, δ, S, (FinS.thn q).imp fun b δ1 μ1 H1 F1 ρ1 l lr S1 ⟨_, p⟩ => ?_⟩
  cases b with
  | true => exact ⟨Z, F1, ρ1, μ1, δ1, S1, p⟩
  | false => exact ⟨Z, F1, ρ1, μ1, δ1, S1, p⟩
/-- name = e -/
def mSet (i : Nat) (m : ME) : MS := fun δ μ => (m δ μ).thn fun s δ1 μ1 => .nx (δ1.set i (some s)) μ1
theorem set_read {i : Nat} {m : ME} : ∀ D σ H, rdS X W (mSet i m) D σ H → tAsg (rdE X W m) (gName i) D σ H := by
  intro D σ H ⟨Z, F, ρ, μ, δ, S, q⟩
  exact ⟨Z, F, ρ, μ, δ, S, (FinS.thn q).imp fun a δ1 μ1 H1 F1 ρ1 l lr S1 ⟨_, p⟩ v vr => p.nx (S1.put vr)⟩
theorem js_set {i : Nat} {x : Str} {m : ME} {pos' : Pos} (hN : X.N.Nodup) (hi : X.N[i]? = some x) (hx : L2.Loc X.env.scope x) (he : JE X W e m) (hs : swapsWith e (some (.Name x pos')) pos.line X.env = pure false := by rfl) (hf : X.fn x = true ∨ X.env.scope.names.lookup x = some .local := by first | exact .inl rfl | exact .inr rfl | assumption) :
    JS X W (.Assign [.Name x pos'] e pos) (mSet i m) := (ps_set hN hi hx he hs hf).imp set_read

/-! ### while -/
def whileN : Nat → MT → MS → MS
  | 0, _, _ => fun _ _ => .bad
  | n + 1, c, m => fun δ μ => (c δ μ).thn fun b δ1 μ1 => if b = true then (m δ1 μ1).loop (whileN n c m) else .nx δ1 μ1
open Classical in
noncomputable def mWhile (c : MT) (m : MS) : MS := fun δ μ => if h : ∃ n, whileN n c m δ μ ≠ .bad then whileN h.choose c m δ μ else .bad
theorem OutS.loop_mono {r : OutS} {k k' : MS} (h : ∀ δ μ, k δ μ ≠ .bad → k' δ μ = k δ μ) (n : r.loop k ≠ .bad) : r.loop k' = r.loop k := by
  cases r with
  | nx δ μ => exact h δ μ n
  | ct δ μ => exact h δ μ n
  | bk δ μ => rfl
  | rt s μ => rfl
  | exc x δ μ => rfl
  | bad => rfl
theorem Out.thn_mono {α : Type} {r : Out α} {f g : α → Loc → Mem → OutS} (h : ∀ a δ μ, f a δ μ ≠ .bad → g a δ μ = f a δ μ) (n : r.thn f ≠ .bad) : r.thn g = r.thn f := by
  cases r with
  | ok a δ μ => exact h a δ μ n
  | exc x δ μ => rfl
  | bad => rfl
theorem whileN_succ {c : MT} {m : MS} : ∀ (n : Nat) (δ : Loc) (μ : Mem), whileN n c m δ μ ≠ .bad → whileN (n + 1) c m δ μ = whileN n c m δ μ
  | 0, _, _, h => absurd rfl h
  | n + 1, δ, μ, h => by
    unfold whileN at h ⊢
    refine Out.thn_mono (fun b δ1 μ1 hn => ?_) h
    cases b with
    | false => rfl
    | true =>
      simp only [if_true] at hn ⊢
      exact OutS.loop_mono (fun δ μ hh => whileN_succ n δ μ hh) hn
theorem whileN_add {c : MT} {m : MS} (n : Nat) {δ : Loc} {μ : Mem} (h : whileN n c m δ μ ≠ .bad) : ∀ k, whileN (n + k) c m δ μ = whileN n c m δ μ
  | 0 => rfl
  | k + 1 => by
    have ih := whileN_add n h k
    have := whileN_succ (n + k) δ μ (by rw [ih]; exact h)
    rw [← ih, ← this]; rfl
theorem mWhile_of {c : MT} {m : MS} (n : Nat) {δ : Loc} {μ : Mem} (h : whileN n c m δ μ ≠ .bad) : mWhile c m δ μ = whileN n c m δ μ := by
  have hx : ∃ n, whileN n c m δ μ ≠ .bad := ⟨n, h⟩
  unfold mWhile
  rw [dif_pos hx]
  have h2 := hx.choose_spec
  by_cases hle : hx.choose ≤ n
  · have := whileN_add hx.choose h2 (n - hx.choose)
    rw [show hx.choose + (n - hx.choose) = n by omega] at this
    exact this.symm
  · have := whileN_add n h (hx.choose - n)
    rw [show n + (hx.choose - n) = hx.choose by omega] at this
    exact this
/-- one turn -/
theorem mWhile_eq (c : MT) (m : MS) (δ : Loc) (μ : Mem) : mWhile c m δ μ = (c δ μ).thn fun b δ1 μ1 => if b = true then (m δ1 μ1).loop (mWhile c m) else .nx δ1 μ1 := by
  by_cases hx : ∃ n, whileN n c m δ μ ≠ .bad
  · obtain ⟨n, h⟩ := hx
    rw [mWhile_of n h]
    cases n with
    | zero => exact absurd rfl h
    | succ n =>
      unfold whileN at h ⊢
      refine (Out.thn_mono (fun b δ1 μ1 hn => ?_) h).symm
      cases b with
      | false => rfl
      | true =>
        simp only [if_true] at hn ⊢
        exact OutS.loop_mono (fun δ μ hh => mWhile_of n hh) hn
  · have e : mWhile c m δ μ = .bad := by unfold mWhile; rw [dif_neg hx]
    rw [e]
    have all : ∀ n, whileN n c m δ μ = .bad := fun n => Classical.byContradiction fun q => hx ⟨n, q⟩
    cases ec : c δ μ with
    | bad => rfl
    | exc x δ1 μ1 => have := all 1; unfold whileN at this; rw [ec] at this; exact this.symm
    | ok b δ1 μ1 =>
      cases b with
      | false => have := all 1; unfold whileN at this; rw [ec] at this; exact this.symm
      | true =>
        have one : ∀ n, (m δ1 μ1).loop (whileN n c m) = .bad := fun n => by have := all (n + 1); unfold whileN at this; rw [ec] at this; simpa [Out.thn] using this
        show OutS.bad = (m δ1 μ1).loop (mWhile c m)
        cases em : m δ1 μ1 with
        | nx δ2 μ2 =>
          have nn : ¬ ∃ n, whileN n c m δ2 μ2 ≠ .bad := fun ⟨n, q⟩ => q (by have := one n; rw [em] at this; exact this)
          show OutS.bad = mWhile c m δ2 μ2
          unfold mWhile; rw [dif_neg nn]
        | ct δ2 μ2 =>
          have nn : ¬ ∃ n, whileN n c m δ2 μ2 ≠ .bad := fun ⟨n, q⟩ => q (by have := one n; rw [em] at this; exact this)
          show OutS.bad = mWhile c m δ2 μ2
          unfold mWhile; rw [dif_neg nn]
        | bk δ2 μ2 => have := one 0; rw [em] at this; exact this.symm
        | rt s μ2 => have := one 0; rw [em] at this; exact this.symm
        | exc x δ2 μ2 => have := one 0; rw [em] at this; exact this.symm
        | bad => rfl
theorem js_while {c : Expr} {body : List Stmt} {t : MT} {m : MS} (hp : PassesOwn (model X.prog X.w) X.A X.env X.xe) (hc : JT X W c t) (hb : JSs X W body m) : JS X W (.While c body [] pos) (mWhile t m) := by
  refine (ps_while hp hc hb).imp fun D σ H ⟨Z, F, ρ, μ, δ, S, q⟩ => ?_
  by_cases hx : ∃ n, whileN n t m δ μ ≠ .bad
  · obtain ⟨n, h⟩ := hx
    rw [mWhile_of n h] at q
    refine ⟨fun k σ' H' => ∃ F' ρ' μ' δ', Sim X.K X.mg Z F' ρ' μ' δ' σ' H' ∧ FinS X W Z F' ρ' D (whileN k t m δ' μ'), ⟨n, F, ρ, μ, δ, S, q⟩, ?_⟩
    rintro k σ1 H1 ⟨F1, ρ1, μ1, δ1, S1, q1⟩
    cases k with
    | zero => exact q1.elim
    | succ k =>
      unfold whileN at q1
      refine ⟨Z, F1, ρ1, μ1, δ1, S1, (FinS.thn q1).imp fun b δ2 μ2 H2 F2 ρ2 l lr S2 ⟨_, p⟩ => ?_⟩
      cases b with
      | false => exact p.nx S2
      | true =>
        simp only [if_true] at p ⊢
        exact ⟨fun σ' H' => ∃ F' ρ' μ' δ', Sim X.K X.mg Z F' ρ' μ' δ' σ' H' ∧ FinS X W Z F' ρ' D (whileN k t m δ' μ'), fun σ' H' w => ⟨k, Nat.lt_succ_self k, w⟩,
          Z, F2, ρ2, μ2, δ2, S2, p.loop fun σ' H' F' ρ' μ' δ' l' lr' S' q' => ⟨F', ρ', μ', δ', S', q'⟩⟩
  · have e : mWhile t m δ μ = .bad := by unfold mWhile; rw [dif_neg hx]
    rw [e] at q; exact q.elim
end
end FL

/-! Part F: targets, what is walked, for, comprehensions. -/
namespace FL
open PySem L2

section
variable {X : Cx} {W : WX} {e a b : Expr} {es : List Expr} {pos : Pos}
/-! ### targets -/
abbrev TgF := D → Loc → Option Loc
abbrev TgsF := List D → Loc → Option Loc
def rdG (X : Cx) (f : TgF) (is : List Nat) : TG := fun v σ H Q => ∃ Z F ρ μ δ d, Sim X.K X.mg Z F ρ μ δ σ H ∧ Rep X.K X.mg F ρ v d ∧ ∃ δ', f d δ = some δ' ∧
  ∀ σ', (∀ j : Nat, j ∉ is → σ'[j]? = σ[j]?) → σ'.length = σ.length → Sim X.K X.mg Z F ρ μ δ' σ' H → Q σ' H
def rdGs (X : Cx) (f : TgsF) (is : List Nat) : TGs := fun vs σ H Q => ∃ Z F ρ μ δ ds, Sim X.K X.mg Z F ρ μ δ σ H ∧ RepL X.K X.mg F ρ vs ds ∧ ∃ δ', f ds δ = some δ' ∧
  ∀ σ', (∀ j : Nat, j ∉ is → σ'[j]? = σ[j]?) → σ'.length = σ.length → Sim X.K X.mg Z F ρ μ δ' σ' H → Q σ' H
theorem _root_.L2.PG.imp {X : Cx} {e : Expr} {t t' : TG} (h : PG X e t) (hi : ∀ v σ H Q, t' v σ H Q → t v σ H Q) : PG X e t' := ⟨fun pins s σ H v u Q I r q => h.run pins s σ H v u Q I r (hi v σ H Q q)⟩
theorem _root_.L2.PGs.imp {X : Cx} {e : List Expr} {t t' : TGs} (h : PGs X e t) (hi : ∀ v σ H Q, t' v σ H Q → t v σ H Q) : PGs X e t' := ⟨fun pins s σ H v u Q I r q => h.run pins s σ H v u Q I r (hi v σ H Q q)⟩
abbrev JG (X : Cx) (e : Expr) (f : TgF) (is : List Nat) : Prop := PG X e (rdG X f is)
abbrev JGs (X : Cx) (e : List Expr) (f : TgsF) (is : List Nat) : Prop := PGs X e (rdGs X f is)
def tgV (i : Nat) : TgF := fun d δ => some (δ.set i (some (.fr d)))
theorem jg_v {i : Nat} {x : Str} (hN : X.N.Nodup) (hi : X.N[i]? = some x) (hx : L2.Loc X.env.scope x) (hf : X.fn x = true ∨ X.env.scope.names.lookup x = some .local := by first | exact .inl rfl | exact .inr rfl | assumption) : JG X (.Name x pos) (tgV i) [i] :=
  (pg_name hN hi hx hf).imp fun v σ H Q ⟨Z, F, ρ, μ, δ, d, S, r, δ', e1, q⟩ => by
    cases e1
    refine q _ (fun j hj => ?_) (by simp) (S.put ⟨r, fun o p z => by cases z⟩)
    rw [List.getElem?_set_ne (fun z => hj (by simp [z]))]
def tgN : TgsF := fun ds δ => match ds with
  | [] => some δ
  | _ => none
def tgC (f : TgF) (g : TgsF) : TgsF := fun ds δ => match ds with
  | d :: r => match f d δ with
    | some δ' => g r δ'
    | none => none
  | [] => none
theorem jgs_nil : JGs X [] tgN [] := pgs_nil.imp fun vs σ H Q ⟨Z, F, ρ, μ, δ, ds, S, r, δ', e1, q⟩ => by
  unfold tgN at e1
  cases ds with
  | cons _ _ => cases e1
  | nil =>
    cases e1
    cases r
    exact ⟨rfl, q _ (fun _ _ => rfl) rfl S⟩
theorem jgs_cons {f : TgF} {g : TgsF} {is js : List Nat} (h : JG X e f is) (t : JGs X es g js) (hs : (assignEach (e :: es) X.env).map (·.2) = assign e X.env :: (assignEach es X.env).map (·.2) := by rfl) : JGs X (e :: es) (tgC f g) (is ++ js) :=
  (pgs_cons h t hs).imp fun vs σ H Q ⟨Z, F, ρ, μ, δ, ds, S, r, δ', e1, q⟩ => by
    unfold tgC at e1
    cases r with
    | nil => cases e1
    | @cons v d vs ds h1 t1 =>
      simp only at e1
      cases ef : f d δ with
      | none => rw [ef] at e1; cases e1
      | some δ1 =>
        rw [ef] at e1
        refine ⟨v, vs, rfl, Z, F, ρ, μ, δ, d, S, h1, δ1, ef, fun σ1 k1 l1 S1 => ⟨Z, F, ρ, μ, δ1, ds, S1, t1, δ', e1, fun σ2 k2 l2 S2 => q σ2 (fun j hj => ?_) (l2.trans l1) S2⟩⟩
        rw [k2 j (fun z => hj (List.mem_append_right _ z)), k1 j (fun z => hj (List.mem_append_left _ z))]
def tgT (n : Nat) (g : TgsF) : TgF := fun d δ => match d with
  | .tup ds => if ds.length = n then g ds δ else none
  | _ => none
theorem jg_t {k : Nat} {g : TgsF} {is : List Nat} {n : Nat} (hc : X.calm = true) (h : JGs X es g is) (hn : (assignEach es X.env).length = n := by rfl) (hst : (assignEach es X.env).findIdx? (·.1) = none := by rfl) : JG X (.Tuple es k pos) (tgT n g) is :=
  (pg_tup hc h hn hst).imp fun v σ H Q ⟨Z, F, ρ, μ, δ, d, S, r, δ', e1, q⟩ => by
    unfold tgT at e1
    cases d <;> first | (cases e1; done) | skip
    rename_i ds
    by_cases hl : ds.length = n
    · simp only [hl, if_true] at e1
      obtain ⟨p, vs, rfl, hq, rl⟩ := Bor.tup S (Bor.fr r)
      exact ⟨p, vs, rfl, hq, by rw [rl.len]; exact hl, Z, F, ρ, μ, δ, ds, S, rl, δ', e1, q⟩
    · simp only [hl] at e1; cases e1
/-- target = e, the value locked -/
def mAsg (f : TgF) (m : ME) : MS := fun δ μ => (m δ μ).thn fun s δ1 μ1 => match f s.d δ1 with
  | some δ2 => .nx δ2 μ1
  | none => .bad
theorem js_asg {f : TgF} {is : List Nat} {tg : Expr} {m : ME} (he : JE X W e m) (hg : JG X tg f is) (hs : swapsWithSole [tg] e pos.line X.env = pure false := by rfl) (hw : swappedStores [tg] e X.env = pure none := by rfl)
    (h1 : (assignEach [tg] X.env).map (·.2) = [assign tg X.env] := by rfl) : JS X W (.Assign [tg] e pos) (mAsg f m) :=
  (ps_asg he.locked hg hs hw h1).imp fun _ σ H ⟨Z, F, ρ, μ, δ, S, q⟩ => ⟨Z, F, ρ, μ, δ, S, (FinS.thn q).imp fun s δ1 μ1 H1 F1 ρ1 l lr S1 ⟨_, p⟩ v r => by
    cases ef : f s.d δ1 with
    | none => simp only [ef] at p; exact p.elim
    | some δ2 =>
      simp only [ef] at p
      exact ⟨Z, F1, ρ1, μ1, δ1, s.d, S1, r, δ2, ef, fun σ' _ _ S' => p.nx S'⟩⟩

/-! ### what is walked -/
def ItR (X : Cx) (F : Hp) (ρ : List Addr) (J : It) (ds : List D) : Prop := ∀ Z' F' ρ' μ δ σ H (i : Nat), (∀ p o, F p = some o → F' p = some o) → (∀ (k : Nat) p, ρ[k]? = some p → ρ'[k]? = some p) → Sim X.K X.mg Z' F' ρ' μ δ σ H →
  (ds.length ≤ i → J.stop i H) ∧ ∀ d, ds[i]? = some d → J.go i H ∧ ∀ x H', J.yld i H x H' → ∃ F2, Le Z' F' F2 ∧ Sim X.K X.mg Z' F2 ρ' μ δ σ H' ∧ Rep X.K X.mg F2 ρ' x d
def rdI (X : Cx) (W : WX) (m : MM (List D)) : TI := fun σ H R => ∃ Z F ρ μ δ, Sim X.K X.mg Z F ρ μ δ σ H ∧
  FinE X W Z F ρ σ (fun ds _ _ F' ρ' H' => ∀ J, ItR X F' ρ' J ds → R J H') (m δ μ)
theorem _root_.L2.PI.imp {X : Cx} {tg e : Expr} {t t' : TI} (h : PI X tg e t) (hi : ∀ σ H Q, t' σ H Q → t σ H Q) : PI X tg e t' := ⟨fun pins s σ H R I q => h.run pins s σ H R I (hi σ H R q)⟩
abbrev JI (X : Cx) (W : WX) (tg e : Expr) (m : MM (List D)) : Prop := PI X tg e (rdI X W m)
theorem itr_list {F : Hp} {ρ : List Addr} {p : Addr} {vs : List V} {ds : List D} (hq : ∀ Z' F' ρ' μ δ σ H, (∀ p o, F p = some o → F' p = some o) → Sim X.K X.mg Z' F' ρ' μ δ σ H → SqL X.K H p vs) (r : RepL X.K X.mg F ρ vs ds) : ItR X F ρ (Itl X.K p) ds := by
  intro Z' F' ρ' μ δ σ H i to tr S
  have q := hq Z' F' ρ' μ δ σ H to S
  refine ⟨fun hl => ⟨vs, q, by rw [r.len]; exact hl⟩, fun d hd => ?_⟩
  obtain ⟨v, hv, rv⟩ := r.get hd
  refine ⟨⟨vs, v, q, hv⟩, fun x H' y => ?_⟩
  obtain ⟨rfl, y⟩ := y
  have := y vs q
  rw [hv] at this; cases this
  exact ⟨F', .refl, S, rv.up to tr⟩
theorem itr_tup {F : Hp} {ρ : List Addr} {p : Addr} {vs : List V} {ds : List D} (hq : ∀ Z' F' ρ' μ δ σ H, (∀ p o, F p = some o → F' p = some o) → Sim X.K X.mg Z' F' ρ' μ δ σ H → SqT X.K H p vs) (r : RepL X.K X.mg F ρ vs ds) : ItR X F ρ (Itt X.K p) ds := by
  intro Z' F' ρ' μ δ σ H i to tr S
  have q := hq Z' F' ρ' μ δ σ H to S
  refine ⟨fun hl => ⟨vs, q, by rw [r.len]; exact hl⟩, fun d hd => ?_⟩
  obtain ⟨v, hv, rv⟩ := r.get hd
  refine ⟨⟨vs, v, q, hv⟩, fun x H' y => ?_⟩
  obtain ⟨rfl, y⟩ := y
  have := y vs q
  rw [hv] at this; cases this
  exact ⟨F', .refl, S, rv.up to tr⟩
def chars (x : Tx) : List D := x.map fun c => .str [c]
theorem itr_str {F : Hp} {ρ : List Addr} {x : Tx} : ItR X F ρ (Its (toS x)) (chars x) := by
  intro Z' F' ρ' μ δ σ H i to tr S
  refine ⟨fun hl => ?_, fun d hd => ?_⟩
  · show (toS x).cps.size ≤ i
    simpa [chars, toS] using hl
  · obtain ⟨c, hc, rfl⟩ : ∃ c, x[i]? = some c ∧ D.str [c] = d := by
      unfold chars at hd
      rw [List.getElem?_map] at hd
      cases e : x[i]? with
      | none => rw [e] at hd; cases hd
      | some c => rw [e] at hd; exact ⟨c, rfl, by injection hd⟩
    have hi : i < x.length := (List.getElem?_eq_some_iff.mp hc).1
    have hc2 : (toS x).cps[i]? = some c := by simpa [toS] using hc
    refine ⟨by show i < (toS x).cps.size; simpa [toS] using hi, fun v H' y => ?_⟩
    obtain ⟨rfl, c', e', rfl⟩ := y
    have e2 : some c' = some c := e'.symm.trans hc2
    cases e2
    exact ⟨F', .refl, S, Rep.str (x := [c])⟩
/-- a list, a tuple or a text -/
def itA : D → Option (List D)
  | .lst xs => some xs
  | .ro xs => some xs
  | .tup xs => some xs
  | .str x => some (chars x)
  | _ => none
abbrev iAny (K : PySem.W.Frag) (te : TE) : TI := fun σ H R => te σ H fun v H1 => (∃ a, v = .ref a ∧ (∃ xs, SqL K H1 a xs) ∧ R (Itl K a) H1) ∨ (∃ a, v = .ref a ∧ (∃ xs, SqT K H1 a xs) ∧ R (Itt K a) H1) ∨ ∃ x, v = .str x ∧ R (Its x) H1
theorem pi_any {tg : Expr} {te : TE} (he : PE X e te) : PI X tg e (iAny X.K te) := by
  refine ⟨fun pins s σ H R I h => thn (he.run pins s σ H _ I h) fun v s1 ⟨y, H1, I1, r1, q⟩ => ?_⟩
  rcases q with ⟨a, rfl, ⟨xs, hq⟩, q⟩ | ⟨a, rfl, ⟨xs, hq⟩, q⟩ | ⟨x, rfl, q⟩
  · cases r1
    obtain ⟨vals, _, isl, _⟩ := I1.list hq
    exact wpAny_pyIter_list isl.isList (pi_one (tk := s1.toks) I1 _ (turn_list a _) ⟨_, Heap.get?_push_size _ rfl, rfl, rfl⟩ q)
  · cases r1
    obtain ⟨vals, _, ist, _⟩ := I1.tuple hq
    exact wpAny_pyIter_tuple (show s1.heap.IsTuple a vals.toArray from ist) (pi_one (tk := s1.toks) I1 _ (turn_tuple a _) ⟨_, Heap.get?_push_size _ rfl, rfl, rfl⟩ q)
  · obtain ⟨t, rfl⟩ := r1
    cases hw : x.cps.all (· < 128)
    · exact wpAny_pyIter_wide hw (pi_one (tk := s1.toks) I1 _ (turn_str _ x t "str_iterator" (Or.inr rfl)) ⟨_, Heap.get?_push_size _ rfl, rfl, rfl⟩ q)
    · exact wpAny_pyIter_ascii hw (pi_one (tk := s1.toks) I1 _ (turn_str _ x t "str_ascii_iterator" (Or.inl rfl)) ⟨_, Heap.get?_push_size _ rfl, rfl, rfl⟩ q)
def mIt (m : ME) : MM (List D) := fun δ μ => (m δ μ).bind fun s δ1 μ1 => match itA s.d with
  | some ds => .ok ds δ1 μ1
  | none => .bad
theorem Sim.frozen {K : PySem.W.Frag} {mg : Str → Option Value} {Z F H : Hp} {ρ : List Addr} {μ : Mem} {δ : Loc} {σ : St} {p : Addr} {vs : List V} (S : Sim K mg Z F ρ μ δ σ H) (h : F p = some (.lst vs)) : H p = some (.lst vs) := by
  rcases S.le _ _ h with q | ⟨ob, kvs, e, q⟩
  · exact q
  · cases e
theorem ji_any {tg : Expr} {m : ME} (he : JE X W e m) : JI X W tg e (mIt m) := by
  refine (pi_any he.locked).imp fun σ H R ⟨Z, F, ρ, μ, δ, S, q⟩ => ⟨Z, F, ρ, μ, δ, S, (FinE.bind q).imp fun s δ1 μ1 H1 F1 ρ1 l lr S1 ⟨_, _, _, p⟩ v r => ?_⟩
  cases ea : itA s.d with
  | none => simp only [ea] at p; exact p.elim
  | some ds =>
    simp only [ea] at p
    have p' := p H1 F1 ρ1 .refl .refl S1
    unfold itA at ea
    generalize s.d = d at ea r
    cases d <;> first | (cases ea; done) | skip
    · cases ea
      cases (Bor.fr (H := H1) r).str
      exact .inr (.inr ⟨_, rfl, p' _ itr_str⟩)
    · cases ea
      cases r with
      | @lst a vs _ h r =>
        exact .inl ⟨a, rfl, ⟨vs, .of (S1.frozen h)⟩, p' _ (itr_list (fun Z' F' ρ' μ δ σ H to S => .of (S.frozen (to _ _ h))) r)⟩
    · cases ea
      cases r with
      | @tup a vs _ h r =>
        exact .inr (.inl ⟨a, rfl, ⟨vs, h.elim (fun h => .inl (S1.rd h)) .inr⟩, p' _ (itr_tup (fun Z' F' ρ' μ δ σ H to S => h.elim (fun h => .inl (S.rd (Rd.up to h))) .inr) r)⟩)
    · cases ea
      cases r with
      | @ro a vs _ h r =>
        exact .inl ⟨a, rfl, ⟨vs, h.elim (fun h => .inl (S1.rd h)) .inr⟩, p' _ (itr_list (fun Z' F' ρ' μ δ σ H to S => h.elim (fun h => .inl (S.rd (Rd.up to h))) .inr) r)⟩
/-- range -/
def rangeD (lo : Int) (n : Nat) : List D := (List.range n).map fun i => .int (lo + (i : Nat))
theorem itr_range {F : Hp} {ρ : List Addr} {lo : Int} {n : Nat} : ItR X F ρ (Itr lo n) (rangeD lo n) := by
  intro Z' F' ρ' μ δ σ H i to tr S
  refine ⟨fun hl => ?_, fun d hd => ?_⟩
  · show n ≤ i
    simpa [rangeD] using hl
  · unfold rangeD at hd
    rw [List.getElem?_map] at hd
    by_cases hi : i < n
    · rw [List.getElem?_range hi] at hd
      cases hd
      refine ⟨hi, fun x H' y => ?_⟩
      obtain ⟨rfl, rfl⟩ := y
      exact ⟨F', .refl, S, .int⟩
    · rw [List.getElem?_eq_none (by simp; omega)] at hd; cases hd
def mRange1 (o : Opn) : MM (List D) := fun δ μ => (evs [o] δ μ).bind fun rs δ1 μ1 => match OR.ats δ1 μ1 rs with
  | some [.int j] => if -(2 ^ 62) ≤ j ∧ j < 2 ^ 62 then .ok (rangeD 0 j.toNat) δ1 μ1 else .bad
  | _ => .bad
def mRange2 (o o' : Opn) : MM (List D) := fun δ μ => (evs [o, o'] δ μ).bind fun rs δ1 μ1 => match OR.ats δ1 μ1 rs with
  | some [.int i, .int j] => if (-(2 ^ 62) ≤ i ∧ i < 2 ^ 62) ∧ (-(2 ^ 62) ≤ j ∧ j < 2 ^ 62) then .ok (rangeD i (j - i).toNat) δ1 μ1 else .bad
  | _ => .bad
theorem ji_range1 {tg : Expr} {o : Opn} {p : Pos} (hg : Gl X "range") (hm : X.mg "range" = none) (ha : JOs X W [a] [o]) (hs : starEach [a] X.env = [(false, eval a X.env)] := by rfl) : JI X W tg (.Call (.Name "range" p) [a] [] pos) (mRange1 o) := by
  refine (pi_range1 hg hm ha hs).imp fun σ H R ⟨Z, F, ρ, μ, δ, S, q⟩ => ⟨Z, F, ρ, μ, δ, S, (FinE.bind q).imp fun rs δ1 μ1 H1 F1 ρ1 l lr S1 ⟨_, _, _, p⟩ vs hv => ?_⟩
  split at p
  · rename_i j ej
    obtain ⟨v, rfl, hb⟩ := (hv.bor S1 ej).one
    cases hb.int
    by_cases c : -(2 ^ 62) ≤ j ∧ j < 2 ^ 62
    · rw [if_pos c] at p
      exact ⟨j, rfl, c.1, c.2, p H1 F1 ρ1 .refl .refl S1 _ itr_range⟩
    · rw [if_neg c] at p; exact p.elim
  · exact p.elim
theorem ji_range2 {tg : Expr} {o o' : Opn} {p : Pos} (hg : Gl X "range") (hm : X.mg "range" = none) (ha : JOs X W [a, b] [o, o']) (hs : starEach [a, b] X.env = [(false, eval a X.env), (false, eval b X.env)] := by rfl) (hs2 : starEach [b] X.env = [(false, eval b X.env)] := by rfl) : JI X W tg (.Call (.Name "range" p) [a, b] [] pos) (mRange2 o o') := by
  refine (pi_range2 hg hm ha hs hs2).imp fun σ H R ⟨Z, F, ρ, μ, δ, S, q⟩ => ⟨Z, F, ρ, μ, δ, S, (FinE.bind q).imp fun rs δ1 μ1 H1 F1 ρ1 l lr S1 ⟨_, _, _, p⟩ vs hv => ?_⟩
  split at p
  · rename_i i j ej
    obtain ⟨v, w, rfl, hb, hc⟩ := (hv.bor S1 ej).two
    cases hb.int
    cases hc.int
    by_cases c : (-(2 ^ 62) ≤ i ∧ i < 2 ^ 62) ∧ (-(2 ^ 62) ≤ j ∧ j < 2 ^ 62)
    · rw [if_pos c] at p
      exact ⟨i, j, rfl, ⟨c.1.1, c.1.2, c.2.1, c.2.2⟩, p H1 F1 ρ1 .refl .refl S1 _ itr_range⟩
    · rw [if_neg c] at p; exact p.elim
  · exact p.elim

/-! ### for -/
def turnD (f : TgF) (m : MS) : D → MS := fun d δ μ => match f d δ with
  | some δ' => m δ' μ
  | none => .bad
def forD (g : D → MS) : List D → MS
  | [] => fun δ μ => .nx δ μ
  | d :: ds => fun δ μ => (g d δ μ).loop (forD g ds)
def mFor (mi : MM (List D)) (f : TgF) (m : MS) : MS := fun δ μ => (mi δ μ).thn fun ds δ1 μ1 => forD (turnD f m) ds δ1 μ1
theorem js_for {tg iter : Expr} {body : List Stmt} {mi : MM (List D)} {f : TgF} {is : List Nat} {m : MS} (hp : PassesOwn (model X.prog X.w) X.A X.env X.xe) (hc : X.calm = true) (hi : JI X W tg iter mi) (hg : JG X tg f is) (hb : JSs X W body m)
    (hs : ∀ x, foldedSetIterable iter X.env x = pure x := by intro _; rfl) : JS X W (.For tg iter body [] pos) (mFor mi f m) := by
  refine (ps_for hp hc hi hg hb hs).imp fun E σ H ⟨Z, F, ρ, μ, δ, S, q⟩ => ⟨Z, F, ρ, μ, δ, S, (FinS.thn q).imp fun ds δ1 μ1 H1 F1 ρ1 l lr S1 ⟨_, p⟩ J hJ => ?_⟩
  let Wd : Nat → Nat → St → Hp → Prop := fun i k σ H => k = ds.length - i ∧ i ≤ ds.length ∧ ∃ F' ρ' μ δ, (∀ p o, F1 p = some o → F' p = some o) ∧ (∀ (k : Nat) p, ρ1[k]? = some p → ρ'[k]? = some p) ∧ Sim X.K X.mg Z F' ρ' μ δ σ H ∧ FinS X W Z F' ρ' E (forD (turnD f m) (ds.drop i) δ μ)
  refine ⟨Wd, ⟨ds.length, by simp, Nat.zero_le _, F1, ρ1, μ1, δ1, fun _ _ h => h, fun _ _ h => h, S1, by rw [List.drop_zero]; exact p⟩, ?_⟩
  rintro i k σ2 H2 ⟨rfl, hle, F2, ρ2, μ2, δ2, to, tr, S2, p2⟩
  obtain ⟨j1, j2⟩ := hJ Z F2 ρ2 μ2 δ2 σ2 H2 i to tr S2
  by_cases hlt : i < ds.length
  · refine .inr ?_
    have hd : ds.drop i = ds[i] :: ds.drop (i + 1) := List.drop_eq_getElem_cons hlt
    obtain ⟨go, yl⟩ := j2 ds[i] (List.getElem?_eq_getElem hlt)
    refine ⟨go, fun σ' H' => Wd (i + 1) (ds.length - (i + 1)) σ' H', fun σ' H' w => ⟨ds.length - (i + 1), by omega, w⟩, fun x H' y => ?_⟩
    obtain ⟨F3, l3, S3, r3⟩ := yl x H' y
    rw [hd] at p2
    unfold forD at p2
    cases ef : f ds[i] δ2 with
    | none =>
      have e : turnD f m ds[i] δ2 μ2 = .bad := by unfold turnD; rw [ef]
      simp only [e] at p2
      exact p2.elim
    | some δ3 =>
      have e : turnD f m ds[i] δ2 μ2 = m δ3 μ2 := by unfold turnD; rw [ef]
      simp only [e] at p2
      refine ⟨Z, F3, ρ2, μ2, δ2, _, S3, r3, δ3, ef, fun σ4 _ _ S4 => ⟨Z, F3, ρ2, μ2, δ3, S4, (p2.mono l3 .refl).loop fun σ' H' F' ρ' μ' δ' l' lr' S' q' => ?_⟩⟩
      exact ⟨rfl, hlt, F', ρ', μ', δ', fun p o h => l'.to p o (l3.to p o (to p o h)), fun k p h => lr'.to k p (tr k p h), S', q'⟩
  · have e : i = ds.length := by omega
    subst e
    rw [List.drop_length] at p2
    exact .inl ⟨j1 (Nat.le_refl _), p2.nx S2⟩

/-! ### list comprehensions -/
def Out.cut {α : Type} (r : Out α) : Out α := match r with
  | .exc _ _ _ => .bad
  | r => r
def wipeD (δ : Loc) : List Nat → Loc
  | [] => δ
  | v :: vs => (wipeD δ vs).set v none
theorem Sim.wipe {K : PySem.W.Frag} {mg : Str → Option Value} {Z F H : Hp} {ρ : List Addr} {μ : Mem} {δ : Loc} {σ : St} (S : Sim K mg Z F ρ μ δ σ H) : ∀ vs, Sim K mg Z F ρ μ (wipeD δ vs) (L2.wipe σ vs) H
  | [] => S
  | v :: vs => (Sim.wipe S vs).forget
theorem Sim.agree {K : PySem.W.Frag} {mg : Str → Option Value} {Z F H : Hp} {ρ : List Addr} {μ : Mem} {δ : Loc} {σ σ' : St} (S : Sim K mg Z F ρ μ δ σ H) (hl : σ'.length = σ.length) (ha : ∀ (i : Nat) s, δ[i]? = some (some s) → σ'[i]? = σ[i]?) : Sim K mg Z F ρ μ δ σ' H :=
  ⟨S.le, S.zk, hl.trans S.len, fun i s e => by rw [ha i s e]; exact S.slot i s e, fun i j p s s' e1 e2 e3 e4 => S.apart i j p s s' e1 e2 (by rw [← ha i _ e1]; exact e3) (by rw [← ha j _ e2]; exact e4), S.mem, S.mlen, S.nod⟩
theorem wipeD_in {δ : Loc} {i : Nat} {s : Slot} : ∀ {vs : List Nat}, (wipeD δ vs)[i]? = some (some s) → i ∉ vs
  | [], _ => by simp
  | v :: vs, h => by
    unfold wipeD at h
    by_cases z : i = v
    · subst z
      by_cases hl : i < (wipeD δ vs).length
      · rw [List.getElem?_set_self hl] at h; cases h
      · rw [List.getElem?_eq_none (by simpa using hl)] at h; cases h
    · rw [List.getElem?_set_ne (Ne.symm z)] at h
      have := wipeD_in h
      simp [z, this]
theorem wipe_out {σ : St} {i : Nat} : ∀ {vs : List Nat}, i ∉ vs → (L2.wipe σ vs)[i]? = σ[i]?
  | [], _ => rfl
  | v :: vs, h => by
    unfold L2.wipe
    rw [List.getElem?_set_ne (fun z => h (by simp [z]))]
    exact wipe_out fun z => h (List.mem_cons_of_mem _ z)
theorem wipe_same {σ σ' : St} (hl : σ'.length = σ.length) : ∀ {vs : List Nat}, (∀ j : Nat, j ∉ vs → σ'[j]? = σ[j]?) → L2.wipe σ' vs = L2.wipe σ vs := by
  intro vs h
  apply List.ext_getElem?
  intro i
  by_cases hi : i ∈ vs
  · have no : ∀ (τ : St), τ.length = σ.length → ∀ vs : List Nat, i ∈ vs → (L2.wipe τ vs)[i]? = if i < σ.length then some none else none := by
      intro τ hτ vs
      induction vs with
      | nil => intro z; cases z
      | cons v vs ih =>
        intro z
        unfold L2.wipe
        by_cases e : i = v
        · subst e
          by_cases hlt : i < σ.length
          · rw [List.getElem?_set_self (by rw [wipe_length, hτ]; exact hlt), if_pos hlt]
          · rw [List.getElem?_eq_none (by rw [List.length_set, wipe_length, hτ]; omega), if_neg hlt]
        · rw [List.getElem?_set_ne (Ne.symm e)]
          exact ih ((List.mem_cons.mp z).resolve_left e)
    rw [no σ' hl vs hi, no σ rfl vs hi]
  · rw [wipe_out hi, wipe_out hi]
    exact h i hi
def lcD (f : TgF) (tests : MT) (elt : ME) (vs : List Nat) : List D → List D → ME
  | [], acc => fun δ μ => .ok (.own (.lst acc)) δ μ
  | d :: ds, acc => fun δ μ => match f d δ with
    | none => .bad
    | some δ' => (tests δ' μ).cut.bind fun b δ2 μ2 => if b = true then (elt δ2 μ2).cut.bind fun s δ3 μ3 => if acc.length < 16777216 then lcD f tests elt vs ds (acc ++ [s.d]) (wipeD δ3 vs) μ3 else .bad
      else lcD f tests elt vs ds acc (wipeD δ2 vs) μ2
def mLc (mi : MM (List D)) (f : TgF) (tests : MT) (elt : ME) (vs : List Nat) : ME := fun δ μ => (mi δ μ).bind fun ds δ1 μ1 => lcD f tests elt vs ds [] (wipeD δ1 vs) μ1
abbrev W0 : WX := fun _ _ _ _ => False
theorem FinE.cut {Y : Cx} {Z F : Hp} {ρ : List Addr} {σ σ' : St} {α β : Type} {P : β → Loc → Mem → Hp → List Addr → Hp → Prop} {r : Out α} {g : α → Loc → Mem → Out β} {p : Addr} {o : HO} (hK : Y.K = X.K) (hm : Y.mg = X.mg) (h : FinE X W Z F ρ σ P (r.cut.bind g)) :
    FinE Y W0 (upd Z p o) F ρ σ' (fun a δ μ F' ρ' H' => Sim X.K X.mg (upd Z p o) F' ρ' μ δ σ' H' ∧ Le (upd Z p o) F F' ∧ LeR (upd Z p o) ρ ρ' ∧ FinE X W Z F' ρ' σ P (g a δ μ)) r := by
  cases r with
  | ok a δ μ =>
    intro H' F' ρ' l lr S
    rw [hK, hm] at S
    exact ⟨S, l, lr, FinE.mono h l.unguard lr.unguard⟩
  | exc x δ μ => exact h.elim
  | bad => exact h
theorem lc_read {Y : Cx → Prop} {mi : MM (List D)} {f : TgF} {tests : MT} {elt : ME} {vs is : List Nat} {B : Cx} (hK : B.K = X.K) (hm : B.mg = X.mg) (hsub : ∀ j ∈ is, j ∈ vs) : ∀ σ H Q, rdE X W (mLc mi f tests elt vs) σ H Q → tLc (rdI X W mi) (rdG X f is) (rdT B W0 tests) (rdE B W0 elt) vs σ H Q := by
  intro σ H Q ⟨Z, F, ρ, μ, δ, S, q⟩
  refine ⟨Z, F, ρ, μ, δ, S, (FinE.bind q).imp fun ds δ1 μ1 H1 F1 ρ1 l lr S1 ⟨_, _, _, p⟩ J hJ A hA => ?_⟩
  obtain ⟨n1, n2, n3, n4⟩ := S1.notIn hA
  let P : Slot → Loc → Mem → Hp → List Addr → Hp → Prop := fun s δ' _ F' ρ' H' => ∀ v, VR X.K X.mg Z F' ρ' δ' σ H' v s → Q v H'
  let Wd : Nat → Nat → Hp → Prop := fun i k H => k = ds.length - i ∧ i ≤ ds.length ∧ ∃ F' ρ' μ δ vals acc, (∀ p o, F1 p = some o → F' p = some o) ∧ (∀ (k : Nat) p, ρ1[k]? = some p → ρ'[k]? = some p) ∧ Sim X.K X.mg Z F' ρ' μ (wipeD δ vs) (L2.wipe σ vs) H ∧
    Free Z F' ρ' A ∧ (∀ (i : Nat) s, (wipeD δ vs)[i]? = some (some (.own s)) → (L2.wipe σ vs)[i]? ≠ some (some (.ref A))) ∧ H A = some (.lst vals) ∧ RepL X.K X.mg F' ρ' vals acc ∧ FinE X W Z F' ρ' σ P (lcD f tests elt vs (ds.drop i) acc (wipeD δ vs) μ)
  have wout : ∀ {δ : Loc} {s : Slot} (i : Nat), (wipeD δ vs)[i]? = some (some s) → (L2.wipe σ vs)[i]? = σ[i]? := fun i h => wipe_out (wipeD_in h)
  have Sw := (S1.laid (o := .lst []) hA).wipe vs
  refine ⟨Wd, ⟨ds.length, by simp, Nat.zero_le _, F1, ρ1, μ1, δ1, [], [], fun _ _ h => h, fun _ _ h => h, Sw, ⟨n1, n2, n3⟩, fun i s e1 e2 => ?_, upd_same, .nil, by rw [List.drop_zero]; exact p⟩, ?_⟩
  · obtain ⟨w, e3, q', eq', f', r'⟩ := Sw.slot i _ e1
    rw [e2] at e3; cases e3; cases eq'
    have e4 := wout i e1
    rw [e2] at e4
    have e5 : δ1[i]? = some (some (.own s)) := by
      have : ∀ vs : List Nat, (wipeD δ1 vs)[i]? = some (some (.own s)) → δ1[i]? = some (some (.own s)) := by
        intro vs
        induction vs with
        | nil => exact id
        | cons v vs ih =>
          intro h
          have hn := wipeD_in h
          unfold wipeD at h
          rw [List.getElem?_set_ne (fun z => hn (by simp [z]))] at h
          exact ih h
      exact this vs e1
    exact n4 i s e5 e4.symm
  rintro i k H2 ⟨rfl, hle, F2, ρ2, μ2, δ2, vals, acc, to, tr, S2, fA, nA, hL, rL, p2⟩
  obtain ⟨j1, j2⟩ := hJ Z F2 ρ2 μ2 _ _ H2 i to tr S2
  by_cases hlt : i < ds.length
  · refine .inr ?_
    have hd : ds.drop i = ds[i] :: ds.drop (i + 1) := List.drop_eq_getElem_cons hlt
    have SG := S2.guard hL fA nA
    obtain ⟨go, yl⟩ := hJ (upd Z A (.lst vals)) F2 ρ2 μ2 _ _ H2 i to tr SG |>.2 ds[i] (List.getElem?_eq_getElem hlt)
    refine ⟨go, fun H' => Wd (i + 1) (ds.length - (i + 1)) H', fun H' w => ⟨ds.length - (i + 1), by omega, w⟩, fun x H' y => ?_⟩
    obtain ⟨F3, l3, S3, r3⟩ := yl x H' y
    rw [hd] at p2
    unfold lcD at p2
    cases ef : f ds[i] (wipeD δ2 vs) with
    | none => simp only [ef] at p2; exact p2.elim
    | some δ3 =>
      simp only [ef] at p2
      refine ⟨_, F3, ρ2, μ2, _, _, S3, r3, δ3, ef, fun σ4 hσ hl4 S4 => ?_⟩
      have ws : L2.wipe σ4 vs = L2.wipe σ vs := by
        have h1 := wipe_same (σ := L2.wipe σ vs) (σ' := σ4) hl4 (vs := vs) fun j hj => hσ j fun z => hj (hsub j z)
        rw [h1]
        apply wipe_same (wipe_length _ _)
        intro j hj
        exact wipe_out hj
      refine ⟨by rw [ws, wipe_same (σ := σ) (σ' := σ) rfl fun _ _ => rfl], ?_⟩
      -- the tests
      refine ⟨_, F3, ρ2, μ2, δ3, by rw [hK, hm]; exact S4, (FinE.cut (p := A) (o := .lst vals) hK hm (p2.mono l3.unguard .refl)).imp fun b δ5 μ5 H5 F5 ρ5 l5 lr5 _ ⟨S5, l5', lr5', p5⟩ => ?_⟩
      have fin : ∀ {F6 : Hp} {ρ6 : List Addr} {μ6 : Mem} {δ6 : Loc} {H6 H7 : Hp} {vals' : List V} {acc' : List D}, Sim X.K X.mg (upd Z A (.lst vals)) F6 ρ6 μ6 δ6 σ4 H6 → Le (upd Z A (.lst vals)) F3 F6 → LeR (upd Z A (.lst vals)) ρ2 ρ6 →
          (∀ a, a ≠ A → H7 a = H6 a) → H7 A = some (.lst vals') → RepL X.K X.mg F6 ρ6 vals' acc' → FinE X W Z F6 ρ6 σ P (lcD f tests elt vs (ds.drop (i + 1)) acc' (wipeD δ6 vs) μ6) → Wd (i + 1) (ds.length - (i + 1)) H7 := by
        intro F6 ρ6 μ6 δ6 H6 H7 vals' acc' S6 l6 lr6 hne hA7 rL' p6
        have fA6 : Free Z F6 ρ6 A := (fA.on l3 .refl).on l6 lr6
        have S7 := (S6.unguard fA.z).heap hne fA6.f fA6.z fA6.r S6.guardNo
        have S8 := S7.wipe vs
        rw [ws] at S8
        refine ⟨rfl, hlt, F6, ρ6, μ6, δ6, vals', acc', fun p o h => l6.to p o (l3.to p o (to p o h)), fun k p h => lr6.to k p (tr k p h), S8, fA6, fun i' s e1 e2 => ?_, hA7, rL', p6⟩
        obtain ⟨w, e3, q', eq', f', r'⟩ := S8.slot i' _ e1
        rw [e2] at e3; cases e3; cases eq'
        have e4 : (L2.wipe σ4 vs)[i']? = σ4[i']? := wipe_out (wipeD_in e1)
        rw [ws, e2] at e4
        have e5 : δ6[i']? = some (some (.own s)) := by
          have : ∀ vs : List Nat, (wipeD δ6 vs)[i']? = some (some (.own s)) → δ6[i']? = some (some (.own s)) := by
            intro vs
            induction vs with
            | nil => exact id
            | cons v vs ih =>
              intro h
              have hn := wipeD_in h
              unfold wipeD at h
              rw [List.getElem?_set_ne (fun z => hn (by simp [z]))] at h
              exact ih h
          exact this vs e1
        exact S6.guardNo i' s e5 e4.symm
      cases b with
      | false =>
        simp only [if_neg Bool.false_ne_true] at p5 ⊢
        exact fin S5 l5' lr5' (fun _ _ => rfl) S5.guarded (rL.up (fun p o h => l5'.to p o (l3.to p o h)) lr5'.to) p5
      | true =>
        simp only [if_true] at p5 ⊢
        refine ⟨_, F5, ρ5, μ5, δ5, by rw [hK, hm]; exact S5, (FinE.cut (p := A) (o := .lst vals) hK hm p5).imp fun s δ6 μ6 H6 F6 ρ6 l6 lr6 _ ⟨S6, l6', lr6', p6⟩ v vr => ?_⟩
        rw [hK, hm] at vr
        obtain ⟨F7, l7, S7, r7⟩ := S6.lock vr
        by_cases hz : acc.length < 16777216
        · rw [if_pos hz] at p6
          have rL6 := rL.up (fun p o h => l7.to p o (l6'.to p o (l5'.to p o (l3.to p o h)))) fun k p h => lr6'.to k p (lr5'.to k p h)
          refine ⟨vals, S7.guarded, by rw [rL.len, line_eq]; exact hz, ?_⟩
          exact fin S7 (l5'.trans (l6'.trans l7)) (lr5'.trans lr6') (fun a ne => upd_ne ne) upd_same (rL6.app (.cons r7 .nil)) (p6.mono l7.unguard .refl)
        · rw [if_neg hz] at p6; exact p6.elim
  · have e : i = ds.length := by omega
    subst e
    rw [List.drop_length] at p2
    refine .inl ⟨j1 (Nat.le_refl _), ?_⟩
    have S3 : Sim X.K X.mg Z F2 ρ2 μ2 (wipeD δ2 vs) σ H2 := S2.agree (wipe_length _ _).symm fun i s e => (wout i e).symm
    exact p2 H2 F2 ρ2 .refl .refl S3 (.ref A) ⟨⟨A, rfl, fA, vals, hL, rL⟩, fun o p z1 z2 i o' e1 e2 => by
      cases z2
      exact nA i o' e1 (by rw [wout i e1]; exact e2)⟩
abbrev JTs (X : Cx) (W : WX) (ifs : List Expr) (m : MT) : Prop := PTs X ifs (rdT X W m)
def mYes : MT := fun δ μ => .ok true δ μ
theorem jts_nil : JTs X W [] mYes := ⟨fun pins s σ H Q I ⟨Z, F, ρ, μ, δ, S, q⟩ => pts_nil.run pins s σ H Q I (q H F ρ .refl .refl S)⟩
theorem jts_one {c : Expr} {m : MT} (h : JT X W c m) : JTs X W [c] m := pts_one h
theorem je_lc {elt tg iter : Expr} {ifs : List Expr} {scope : Scope} {own : List (Str × Nat)} {mi : MM (List D)} {f : TgF} {is : List Nat} {tests : MT} {m : ME} (hc : X.calm = true) (hN : X.N.Nodup) (hi : JI X W tg iter mi) (ok : BlkOk X.N X.env.scope scope own)
    (hg : ∀ (s : Shared) (H : Hp) (C : Addr) (cl : List (Str × Addr)) (fp : List Addr), JG (X.blk s H scope (compEnvC scope cl C X.env) fp) tg f is) (ht : ∀ (s : Shared) (H : Hp) (C : Addr) (cl : List (Str × Addr)) (fp : List Addr), JTs (X.blk s H scope (compEnvC scope cl C X.env) fp) W0 ifs tests)
    (he : ∀ (s : Shared) (H : Hp) (C : Addr) (cl : List (Str × Addr)) (fp : List Addr), JE (X.blk s H scope (compEnvC scope cl C X.env) fp) W0 elt m) (hsub : ∀ j ∈ is, j ∈ own.map (·.2)) (hs : ∀ x, foldedSetIterable iter X.env x = pure x := by intro _; rfl) :
    JE X W (.ListComp elt [⟨tg, iter, ifs, 0⟩] scope pos) (mLc mi f tests m (own.map (·.2))) :=
  (pe_lc (g := rdG X f is) (tt := rdT X W0 tests) (te := rdE X W0 m) hc hN hi ok hg ht he hs).imp (lc_read (Y := fun _ => True) (B := X) rfl rfl hsub)
theorem js_setLc {i : Nat} {y : Str} {py : Pos} {elt tg iter : Expr} {ifs : List Expr} {scope : Scope} {own : List (Str × Nat)} {spos : Pos} {mi : MM (List D)} {f : TgF} {is : List Nat} {tests : MT} {m : ME} (hc : X.calm = true) (hN : X.N.Nodup) (hy : X.N[i]? = some y) (hyl : X.env.scope.names.lookup y = some .local)
    (hsw : swapsWith (.ListComp elt [⟨tg, iter, ifs, 0⟩] scope pos) (some (.Name y py)) spos.line X.env = pure true) (hi : JI X W tg iter mi) (ok : BlkOk X.N X.env.scope scope own)
    (hg : ∀ (s : Shared) (H : Hp) (C : Addr) (cl : List (Str × Addr)) (fp : List Addr), JG (X.blk s H scope (compEnvC scope cl C X.env) fp) tg f is) (ht : ∀ (s : Shared) (H : Hp) (C : Addr) (cl : List (Str × Addr)) (fp : List Addr), JTs (X.blk s H scope (compEnvC scope cl C X.env) fp) W0 ifs tests)
    (he : ∀ (s : Shared) (H : Hp) (C : Addr) (cl : List (Str × Addr)) (fp : List Addr), JE (X.blk s H scope (compEnvC scope cl C X.env) fp) W0 elt m) (hsub : ∀ j ∈ is, j ∈ own.map (·.2)) (hs : ∀ x, foldedSetIterable iter X.env x = pure x := by intro _; rfl) :
    JS X W (.Assign [.Name y py] (.ListComp elt [⟨tg, iter, ifs, 0⟩] scope pos) spos) (mSet i (mLc mi f tests m (own.map (·.2)))) :=
  (ps_setLc (g := rdG X f is) (tt := rdT X W0 tests) (te := rdE X W0 m) hc hN hy hyl hsw hi ok hg ht he hs).imp fun E σ H h => by
    obtain ⟨Z, F, ρ, μ, δ, S, q⟩ := h
    refine lc_read (Y := fun _ => True) (B := X) rfl rfl hsub σ H _ ⟨Z, F, ρ, μ, δ, S, (FinS.thn q).imp fun a δ1 μ1 H1 F1 ρ1 l lr S1 ⟨_, p⟩ v vr => p.nx (S1.put vr)⟩

/-! ### a, b = x, y -/
def mPar (i j : Nat) (ma mb : ME) : MS := fun δ μ => (ma δ μ).thn fun s δ1 μ1 => (mb δ1 μ1).thn fun t δ2 μ2 => .nx ((δ2.set i (some s)).set j (some t)) μ2
theorem js_par {i j : Nat} {x y : Str} {ma mb : ME} {px py pt : Pos} {kt k2 pt2} (hc : X.calm = true) (hN : X.N.Nodup) (hi : X.N[i]? = some x) (hj : X.N[j]? = some y) (hij : i ≠ j)
    (hx : X.env.scope.names.lookup x = some .local) (hy : X.env.scope.names.lookup y = some .local) (ha : JE X W a ma) (hb : JE X W b mb)
    (hw : swappedStores [.Tuple [.Name x px, .Name y py] kt pt] (.Tuple [a, b] k2 pt2) X.env = pure (some [x, y]))
    (hs : swapsWithSole [.Tuple [.Name x px, .Name y py] kt pt] (.Tuple [a, b] k2 pt2) pos.line X.env = pure false := by rfl)
    (h1 : starEach [a, b] X.env = (false, eval a X.env) :: starEach [b] X.env := by rfl) (h2 : starEach [b] X.env = (false, eval b X.env) :: starEach [] X.env := by rfl) :
    JS X W (.Assign [.Tuple [.Name x px, .Name y py] kt pt] (.Tuple [a, b] k2 pt2) pos) (mPar i j ma mb) := by
  refine (ps_par hc hN hi hj hij hx hy (pa_cons ha (pa_cons hb pa_nil h2) h1) hw hs).imp fun E σ H ⟨Z, F, ρ, μ, δ, S, q⟩ => ?_
  refine ⟨Z, F, ρ, μ, δ, S, (FinS.thn q).imp fun s δ1 μ1 H1 F1 ρ1 l lr S1 ⟨_, p⟩ v vr => ?_⟩
  cases s with
  | fr d =>
    refine ⟨Z, F1, ρ1, μ1, δ1, S1, (FinS.thn p).imp fun t δ2 μ2 H2 F2 ρ2 l2 lr2 S2 ⟨_, p2⟩ w wr => ⟨v, w, rfl, p2.nx ?_⟩⟩
    have r : Rep X.K X.mg F2 ρ2 v d := Rep.up l2.to lr2.to vr.r
    refine (S2.put (i := i) (v := v) (s := .fr d) ⟨r, fun o p z => by cases z⟩).put ⟨wr.r, fun o p z1 z2 k o' e1 e2 => ?_⟩
    by_cases z : k = i
    · subst z
      by_cases hl : k < δ2.length
      · rw [List.getElem?_set_self hl] at e1; cases e1
      · rw [List.getElem?_eq_none (by simpa using hl)] at e1; cases e1
    · rw [List.getElem?_set_ne (Ne.symm z)] at e1 e2
      exact wr.no o p z1 z2 k o' e1 e2
  | own c =>
    obtain ⟨A, ev, fA, rA⟩ := vr.r
    obtain ⟨o, hA⟩ := rA.some
    have SG := S1.guard hA fA (vr.no c A rfl ev)
    refine ⟨upd Z A o, F1, ρ1, μ1, δ1, SG, ?_⟩
    have p' := FinS.thn (σ := σ) p
    generalize mb δ1 μ1 = r2 at p'
    cases r2 with
    | bad => exact p'
    | exc x δ2 μ2 => exact fun c' d' H2 F2 ρ2 l2 lr2 S2 er => p' c' d' H2 F2 ρ2 l2.unguard lr2.unguard (S2.unguard fA.z) er
    | ok t δ2 μ2 =>
      intro H2 F2 ρ2 l2 lr2 S2 w wr
      obtain ⟨_, p2⟩ := p' H2 F2 ρ2 l2.unguard lr2.unguard (S2.unguard fA.z)
      refine ⟨v, w, rfl, p2.nx ?_⟩
      have fA2 := fA.on l2 lr2
      have hA2 : H2 A = some o := S2.guarded
      have vr2 : VR X.K X.mg Z F2 ρ2 δ2 σ H2 v (.own c) := ⟨⟨A, ev, fA2, rA.up l2.to lr2.to (by rw [hA2, hA])⟩, fun o' p' z1 z2 => by
        rw [ev] at z2; cases z2
        exact S2.guardNo⟩
      have S3 := (S2.unguard fA.z).put (i := i) vr2
      cases t with
      | fr d => exact S3.put ⟨wr.r, fun o p z => by cases z⟩
      | own c2 =>
        obtain ⟨B, ew, fB, rB⟩ := wr.r
        have nBA : B ≠ A := (guard_z fB.z).1
        refine S3.put ⟨⟨B, ew, ⟨fB.f, (guard_z fB.z).2, fB.r⟩, rB⟩, fun o p z1 z2 k o' e1 e2 => ?_⟩
        rw [ew] at z2; cases z2
        by_cases z : k = i
        · subst z
          by_cases hl : k < σ.length
          · rw [List.getElem?_set_self hl, ev] at e2
            cases e2
            exact nBA rfl
          · rw [List.getElem?_eq_none (by simpa using hl)] at e2; cases e2
        · rw [List.getElem?_set_ne (Ne.symm z)] at e1 e2
          exact wr.no c2 B rfl ew k o' e1 e2
end
end FL

/-! Part G: join, slices, what changes an object. -/
namespace FL
open PySem L2

section
variable {X : Cx} {W : WX} {e a b o : Expr} {es : List Expr} {pos p apos : Pos}
/-! ### join -/
theorem joinT_S (x : Tx) : ∀ zs : List Tx, Str.join (toS x) (zs.map toS) = toS (joinT x zs)
  | [] => rfl
  | [z] => rfl
  | z :: y :: r => by
    show toS z ++ toS x ++ Str.join (toS x) ((y :: r).map toS) = toS (z ++ x ++ joinT x (y :: r))
    rw [joinT_S x (y :: r), toS_app, toS_app]
theorem lens_S (zs : List Tx) : ((zs.map toS).map (·.length)).sum = (zs.map List.length).sum := by
  congr 1
  rw [List.map_map]
  exact List.map_congr_left fun z _ => toS_len z
abbrev rJoin (K : PySem.W.Frag) : V → List V → Hp → VK → Prop := fun x xs H Q => ∃ a p, ∃ ys : List Str, x = .str a ∧ xs = [.ref p] ∧ (SqL K H p (ys.map V.str) ∨ SqT K H p (ys.map V.str)) ∧ (ys.map (·.length)).sum + ys.length * a.length ≤ 16777216 ∧ Q (.str (Txt.join a ys)) H
theorem j_join : RMJ X (rJoin X.K) gJoin := by
  intro Z F ρ μ δ σ H x xs dx ds s Q S bx bs e q
  have fin : ∀ {t : Tx} {zs : List Tx} {p : Addr}, x = .str (toS t) → xs = [.ref p] → (SqL X.K H p ((zs.map toS).map V.str) ∨ SqT X.K H p ((zs.map toS).map V.str)) →
      (if decide ((zs.map List.length).sum + t.length * zs.length ≤ 16777216) = true then some (Slot.fr (.str (joinT t zs))) else none) = some s → rJoin X.K x xs H Q := by
    intro t zs p e1 e2 hq he
    by_cases hz : (zs.map List.length).sum + t.length * zs.length ≤ 16777216
    · rw [if_pos (decide_eq_true hz)] at he
      cases he
      refine ⟨toS t, p, zs.map toS, e1, e2, hq, ?_, ?_⟩
      · rw [lens_S, List.length_map, toS_len, Nat.mul_comm]; exact hz
      · rw [TL.join_eq, joinT_S]
        exact q _ H F .refl S ⟨.str, fun o p z => by cases z⟩
    · rw [if_neg (by simpa using hz)] at he; cases he
  unfold gJoin at e
  split at e
  · rename_i t ys
    cases ez : strsD ys with
    | none => simp only [ez] at e; cases e
    | some zs =>
      simp only [ez] at e
      obtain ⟨v, rfl, hb⟩ := bs.one
      obtain ⟨p, vs, rfl, h, r⟩ := hb.lst S
      rw [strsD_map ez] at r
      have ev := r.strs
      subst ev
      exact fin bx.str rfl (.inl (.of h)) e
  · rename_i t ys
    cases ez : strsD ys with
    | none => simp only [ez] at e; cases e
    | some zs =>
      simp only [ez] at e
      obtain ⟨v, rfl, hb⟩ := bs.one
      obtain ⟨p, vs, rfl, h, r⟩ := hb.tup S
      rw [strsD_map ez] at r
      have ev := r.strs
      subst ev
      exact fin bx.str rfl (.inr h) e
  · cases e

/-! ### slices -/
def cutD {α : Type} (xs : List α) (lo hi : Option Int) : List α := (xs.drop (HT.sIx xs.length 0 lo)).take (HT.sIx xs.length xs.length hi - HT.sIx xs.length 0 lo)
def SlJ (X : Cx) (r : V → Option Int → Option Int → Hp → VK → Prop) (g : D → Option Int → Option Int → Option Slot) : Prop := ∀ Z F ρ μ δ σ H x dx lo hi s Q, Sim X.K X.mg Z F ρ μ δ σ H → Bor X.K X.mg F ρ H x dx → g dx lo hi = some s →
  (∀ v H' F', Le Z F F' → Sim X.K X.mg Z F' ρ μ δ σ H' → VR X.K X.mg Z F' ρ δ σ H' v s → Q v H') → r x lo hi H Q
def rdP (X : Cx) (W : WX) (m : MM (Option Int)) : TO := fun σ H Q => ∃ Z F ρ μ δ, Sim X.K X.mg Z F ρ μ δ σ H ∧ FinE X W Z F ρ σ (fun i _ _ _ _ H' => Q i H') (m δ μ)
theorem _root_.L2.PO.imp {X : Cx} {e : Option Expr} {t t' : TO} (h : PO X e t) (hi : ∀ σ H Q, t' σ H Q → t σ H Q) : PO X e t' := ⟨fun pins s σ H Q I q => h.run pins s σ H Q I (hi σ H Q q)⟩
abbrev JP (X : Cx) (W : WX) (e : Option Expr) (m : MM (Option Int)) : Prop := PO X e (rdP X W m)
def mNoP : MM (Option Int) := fun δ μ => .ok none δ μ
def mP (m : ME) : MM (Option Int) := fun δ μ => (m δ μ).bind fun s δ1 μ1 => match s with
  | .fr (.int i) => .ok (some i) δ1 μ1
  | _ => .bad
theorem jp_none : JP X W none mNoP := po_none.imp fun σ H Q ⟨Z, F, ρ, μ, δ, S, q⟩ => q H F ρ .refl .refl S
theorem jp_some {m : ME} (h : JE X W e m) : JP X W (some e) (mP m) := by
  refine (po_some h).imp fun σ H Q ⟨Z, F, ρ, μ, δ, S, q⟩ => ⟨Z, F, ρ, μ, δ, S, (FinE.bind q).imp fun s δ1 μ1 H1 F1 ρ1 l lr S1 ⟨_, _, _, p⟩ v vr => ?_⟩
  cases s with
  | own o => exact p.elim
  | fr d =>
    cases d with
    | int i =>
      cases vr.r
      exact ⟨i, rfl, p H1 F1 ρ1 .refl .refl S1⟩
    | _ => exact p.elim
def mSl (g : D → Option Int → Option Int → Option Slot) (o : Opn) (lo hi : MM (Option Int)) : ME := fun δ μ => (o.ev δ μ).bind fun r δ1 μ1 => (lo δ1 μ1).bind fun l δ2 μ2 => (hi δ2 μ2).bind fun h δ3 μ3 =>
  match r.at δ3 μ3 with
  | some d => lift (g d l h) δ3 μ3
  | none => .bad
theorem je_slice {lo hi : Option Expr} {p2 : Pos} {r : V → Option Int → Option Int → Hp → VK → Prop} {g : D → Option Int → Option Int → Option Slot} {oo : Opn} {ml mh : MM (Option Int)} (hs : SlR X r) (hr : SlJ X r g) (ho : JO X W e oo) (hl : JP X W lo ml) (hh : JP X W hi mh) :
    JE X W (.Subscript e (.Slice lo hi none p2) pos) (mSl g oo ml mh) := by
  refine (pe_slice hs ho hl hh).imp fun σ H Q ⟨Z, F, ρ, μ, δ, S, q⟩ => ⟨Z, F, ρ, μ, δ, S, (FinE.bind q).imp fun ra δ1 μ1 H1 F1 ρ1 l1 lr1 S1 ⟨_, _, _, p⟩ x hx => ?_⟩
  refine ⟨Z, F1, ρ1, μ1, δ1, S1, p.bind.imp fun l δ2 μ2 H2 F2 ρ2 l2 lr2 S2 ⟨_, _, _, p2⟩ => ?_⟩
  refine ⟨Z, F2, ρ2, μ2, δ2, S2, p2.bind.imp fun h δ3 μ3 H3 F3 ρ3 l3 lr3 S3 ⟨_, _, _, p3⟩ => ?_⟩
  cases ea : ra.at δ3 μ3 with
  | none => simp only [ea] at p3; exact p3.elim
  | some d =>
    simp only [ea] at p3
    unfold lift at p3
    cases eg : g d l h with
    | none => simp only [eg] at p3; exact p3.elim
    | some s =>
      simp only [eg] at p3
      exact hr Z F3 ρ3 μ3 δ3 σ H3 x d l h s Q S3 (((hx.up l2 lr2).up l3 lr3).bor S3 ea) eg fun v H' F' l' S' vr => p3 H' F' ρ3 l' .refl S' v vr
def gSl : D → Option Int → Option Int → Option Slot
  | .str x, lo, hi => if x.length ≤ 16777216 then some (.fr (.str (cutD x lo hi))) else none
  | .lst x, lo, hi => some (.own (.lst (cutD x lo hi)))
  | .ro x, lo, hi => some (.own (.lst (cutD x lo hi)))
  | .tup x, lo, hi => some (.fr (.tup (cutD x lo hi)))
  | _, _, _ => none
abbrev rSlAny (K : PySem.W.Frag) : V → Option Int → Option Int → Hp → VK → Prop := fun x lo hi H Q => rSlS x lo hi H Q ∨ (rSlL K x lo hi H Q ∨ rSlA K x lo hi H Q)
theorem o_slice : SlR X (rSlAny X.K) := sl_str.or (sl_list.or sl_tupA)
theorem sIx_le {n d : Nat} (hd : d ≤ n) (i : Option Int) : HT.sIx n d i ≤ n := HT.sIx_le _ _ hd _
theorem cut_whole {α : Type} {xs : List α} {lo hi : Option Int} (h1 : HT.sIx xs.length 0 lo = 0) (h2 : HT.sIx xs.length xs.length hi = xs.length) : cutD xs lo hi = xs := by
  unfold cutD
  rw [h1, h2]; simp
theorem j_slice : SlJ X (rSlAny X.K) gSl := by
  intro Z F ρ μ δ σ H x dx lo hi s Q S bx e q
  unfold gSl at e
  cases dx <;> first | (cases e; done) | skip
  · rename_i t
    by_cases hz : t.length ≤ 16777216
    · simp only [hz, if_true] at e
      cases e
      cases bx.str
      refine .inl ⟨_, rfl, by rw [toS_len, line_eq]; exact hz, ?_⟩
      have ec : cutS (toS t) lo hi = toS (cutD t lo hi) := by
        unfold cutS cutD
        rw [toS_len]
        rfl
      rw [ec]
      exact q _ H F .refl S ⟨.str, fun o p z => by cases z⟩
    · simp only [hz] at e; cases e
  · rename_i ds
    cases e
    obtain ⟨p, vs, rfl, h, r⟩ := bx.lst S
    refine .inr (.inl ⟨p, vs, rfl, .of h, fun a ha => ?_⟩)
    have r2 : RepL X.K X.mg F ρ (cutV vs lo hi) (cutD ds lo hi) := by unfold cutV cutD; rw [r.len]; exact (r.drop _).take _
    obtain ⟨S', vr⟩ := vr_newL S ha r2
    exact q _ _ F .refl S' vr
  · rename_i ds
    cases e
    have rp := bx.rep fun o e => by cases o <;> cases e
    obtain ⟨p, vs, rfl, h, r⟩ := bx.tup S
    refine .inr (.inr ⟨p, vs, rfl, h, fun hw => ?_, fun _ a ha => ?_⟩)
    · rw [r.len] at hw
      rw [cut_whole hw.1 hw.2] at q
      exact q _ H F .refl S ⟨rp, fun o p z => by cases z⟩
    · have r2 : RepL X.K X.mg F ρ (cutV vs lo hi) (cutD ds lo hi) := by unfold cutV cutD; rw [r.len]; exact (r.drop _).take _
      obtain ⟨F', l', S', vr⟩ := vr_newT S ha r2
      exact q _ _ F' l' S' vr
  · rename_i ds
    cases e
    obtain ⟨p, vs, rfl, h, r⟩ := bx.ro S
    refine .inr (.inl ⟨p, vs, rfl, h, fun a ha => ?_⟩)
    have r2 : RepL X.K X.mg F ρ (cutV vs lo hi) (cutD ds lo hi) := by unfold cutV cutD; rw [r.len]; exact (r.drop _).take _
    obtain ⟨S', vr⟩ := vr_newL S ha r2
    exact q _ _ F .refl S' vr

/-! ### objects that are changed -/
/-- the object that is meant, and what is to be written back -/
def recv (δ : Loc) (μ : Mem) : OR → Option (Own × (Own → Loc × Mem))
  | .d (.obj k) => match μ[k]? with
    | some c => some (c, fun c' => (δ, μ.set k c'))
    | none => none
  | .d _ => none
  | .i j => match δ[j]? with
    | some (some (.own c)) => some (c, fun c' => (δ.set j (some (.own c')), μ))
    | some (some (.fr (.obj k))) => match μ[k]? with
      | some c => some (c, fun c' => (δ, μ.set k c'))
      | none => none
    | _ => none
theorem recv_ok {K : PySem.W.Frag} {mg : Str → Option Value} {Z F H : Hp} {ρ : List Addr} {μ : Mem} {δ : Loc} {σ : St} {v : V} {r : OR} {c : Own} {w : Own → Loc × Mem} (S : Sim K mg Z F ρ μ δ σ H) (h : OrR K mg F ρ σ v r) (e : recv δ μ r = some (c, w)) :
    ∃ p, v = .ref p ∧ OwnR K mg F ρ H p c ∧ ∀ o c', OwnR K mg F ρ (upd H p o) p c' → Sim K mg Z F ρ (w c').2 (w c').1 σ (upd H p o) := by
  have mem : ∀ {k : Nat}, Rep K mg F ρ v (.obj k) → (match μ[k]? with | some c => some (c, fun c' => (δ, μ.set k c')) | none => (none : Option (Own × (Own → Loc × Mem)))) = some (c, w) →
      ∃ p, v = .ref p ∧ OwnR K mg F ρ H p c ∧ ∀ o c', OwnR K mg F ρ (upd H p o) p c' → Sim K mg Z F ρ (w c').2 (w c').1 σ (upd H p o) := by
    intro k hr he
    cases hr with
    | @obj _ p hp =>
      cases em : μ[k]? with
      | none => simp only [em] at he; cases he
      | some c0 =>
        simp only [em] at he
        cases he
        obtain ⟨a, ea, _, _, r⟩ := S.mem k _ em
        rw [hp] at ea; cases ea
        exact ⟨p, rfl, r, fun o c' hc => S.writeM em hp hc⟩
  cases r with
  | d d =>
    cases d <;> first | (cases e; done) | skip
    exact mem h e
  | i j =>
    have h' : σ[j]? = some (some v) := h
    unfold recv at e
    cases ej : δ[j]? with
    | none => simp only [ej] at e; cases e
    | some so =>
      cases so with
      | none => simp only [ej] at e; cases e
      | some s =>
        obtain ⟨u, eu, rr⟩ := S.slot j s ej
        rw [h'] at eu; cases eu
        cases s with
        | own c0 =>
          simp only [ej] at e
          cases e
          obtain ⟨p, rfl, _, ro⟩ := rr
          exact ⟨p, rfl, ro, fun o c' hc => S.write ej h' hc⟩
        | fr d =>
          cases d <;> first | (simp only [ej] at e; cases e; done) | skip
          simp only [ej] at e
          exact mem rr e
def ownTy (T : String) : Own → Bool
  | .lst _ => T == "list"
  | .dct _ _ => T == "dict"
  | .tab _ _ => false
def MutJ (X : Cx) (r : V → List V → Hp → VK → Prop) (g : Own → List D → Option (D × Own)) : Prop := ∀ Z F ρ μ δ σ H p c xs ds d c' Q, Sim X.K X.mg Z F ρ μ δ σ H → OwnR X.K X.mg F ρ H p c → RepL X.K X.mg F ρ xs ds → g c ds = some (d, c') →
  (∀ v o, Rep X.K X.mg F ρ v d → OwnR X.K X.mg F ρ (upd H p o) p c' → Q v (upd H p o)) → r (.ref p) xs H Q
/-- o.m(e, ..), o is changed -/
def mMut (T : String) (g : Own → List D → Option (D × Own)) (o : Opn) (ms : List ME) : ME := fun δ μ => (o.ev δ μ).bind fun r δ1 μ1 => match recv δ1 μ1 r with
  | some (c0, _) => if ownTy T c0 = true then (evA ms δ1 μ1).bind fun ds δ2 μ2 => match recv δ2 μ2 r with
      | some (c, w) => match g c ds with
        | some (d, c') => .ok (.fr d) (w c').1 (w c').2
        | none => .bad
      | none => .bad
    else .bad
  | none => .bad
theorem ownTy_V {F H : Hp} {ρ : List Addr} {p : Addr} {c : Own} {T : String} (hT : T = "list") (h : OwnR X.K X.mg F ρ H p c) (e : ownTy T c = true) : tyV X.K T (.ref p) H := by
  subst hT
  cases c with
  | lst xs => obtain ⟨vs, h, r⟩ := h; exact .inl ⟨rfl, vs, .of h⟩
  | dct ks xs =>
    have e' : (("list" : String) == "dict") = true := e
    exact absurd e' (by decide)
  | tab P q => cases e
theorem mMut_read {T : String} {r : V → List V → Hp → VK → Prop} {g : Own → List D → Option (D × Own)} {oo : Opn} {ms : List ME} (hT : T = "list") (hr : MutJ X r g) : ∀ σ H Q, rdE X W (mMut T g oo ms) σ H Q → tBM X.K T r (rdO X W oo) (rdA X W ms) σ H Q := by
  intro σ H Q ⟨Z, F, ρ, μ, δ, S, q⟩
  refine ⟨Z, F, ρ, μ, δ, S, (FinE.bind q).imp fun ra δ1 μ1 H1 F1 ρ1 l lr S1 ⟨_, _, _, p⟩ x hx => ?_⟩
  cases e0 : recv δ1 μ1 ra with
  | none => simp only [e0] at p; exact p.elim
  | some cw =>
    obtain ⟨c0, w0⟩ := cw
    simp only [e0] at p
    obtain ⟨pa, rfl, ow, _⟩ := recv_ok S1 hx e0
    by_cases ht : ownTy T c0 = true
    · rw [if_pos ht] at p
      refine ⟨ownTy_V hT ow ht, Z, F1, ρ1, μ1, δ1, S1, p.bind.imp fun ds δ2 μ2 H2 F2 ρ2 l2 lr2 S2 ⟨_, _, _, p2⟩ xs hxs => ?_⟩
      cases e1 : recv δ2 μ2 ra with
      | none => simp only [e1] at p2; exact p2.elim
      | some cw =>
        obtain ⟨c, w⟩ := cw
        simp only [e1] at p2
        cases eg : g c ds with
        | none => simp only [eg] at p2; exact p2.elim
        | some dc =>
          obtain ⟨d, c'⟩ := dc
          simp only [eg] at p2
          obtain ⟨pa', ep, ow2, hw⟩ := recv_ok S2 (hx.up l2 lr2) e1
          cases ep
          exact hr Z F2 ρ2 μ2 δ2 σ H2 _ c xs ds d c' Q S2 ow2 hxs eg fun v o' rv ho => p2 _ F2 ρ2 .refl .refl (hw o' c' ho) v ⟨rv, fun o p z => by cases z⟩
    · rw [if_neg ht] at p; exact p.elim
theorem je_mut {id : String} {name : Str} {r : V → List V → Hp → VK → Prop} {g : Own → List D → Option (D × Own)} {oo : Opn} {ms : List ME} (pa : PlainAttrs "list") (slot : PySem.Slot "list" name id) (hty : typeOf (.builtin id) = pure (.type "method_descriptor")) (hm : MtR X id r) (hr : MutJ X r g) (ho : JO X W o oo) (ha : JA X W (e :: es) ms)
    (hbase : attributeBase o name X.env (eval o X.env) = eval o X.env := by rfl)
    (hfew : ((backTo pos (starEach (e :: es) X.env)).all (fun x => !x.1) && (backToKw pos (keywordEach [] X.env)).all (fun x => x.1.isSome)
      && decide ((e :: es).length + ([] : List Keyword).length + (if ([] : List Keyword).isEmpty then 0 else 1) < 30)) = true := by rfl)
    (hline : (apos.endLine == pos.line) = true := by rfl) (hs : starEach (e :: es) X.env = (false, eval e X.env) :: starEach es X.env := by rfl) (hplain : (backTo pos (starEach es X.env)).any (·.1) = false := by rfl) :
    JE X W (.Call (.Attribute o name apos) (e :: es) [] pos) (mMut "list" g oo ms) :=
  (pe_bm pa slot hty hm ho ha hbase hfew hline hs hplain).imp (mMut_read rfl hr)
theorem je_mut0 {id : String} {name : Str} {r : V → List V → Hp → VK → Prop} {g : Own → List D → Option (D × Own)} {oo : Opn} (pa : PlainAttrs "list") (slot : PySem.Slot "list" name id) (hty : typeOf (.builtin id) = pure (.type "method_descriptor")) (hm : MtR X id r) (hr : MutJ X r g) (ho : JO X W o oo)
    (hbase : attributeBase o name X.env (eval o X.env) = eval o X.env := by rfl) (hline : (apos.endLine == pos.line) = true := by rfl) :
    JE X W (.Call (.Attribute o name apos) [] [] pos) (mMut "list" g oo []) := by
  refine (pe_bm0 pa slot hty hm ho hbase hline).imp fun σ H Q h => ?_
  obtain ⟨Z, F, ρ, μ, δ, S, q⟩ := mMut_read rfl hr σ H Q h
  refine ⟨Z, F, ρ, μ, δ, S, q.imp fun ra δ1 μ1 H1 F1 ρ1 l lr S1 p x hx => ?_⟩
  obtain ⟨ty, Z2, F2, ρ2, μ2, δ2, S2, q2⟩ := p x hx
  exact ⟨ty, q2 H1 F2 ρ2 .refl .refl S2 [] .nil⟩
def gAppend : Own → List D → Option (D × Own)
  | .lst xs, [d] => if xs.length < 16777216 then some (.non, .lst (xs ++ [d])) else none
  | _, _ => none
theorem RepL.single {F : Hp} {ρ : List Addr} {vs : List V} {d : D} (h : RepL X.K X.mg F ρ vs [d]) : ∃ v, vs = [v] ∧ Rep X.K X.mg F ρ v d := by
  cases h with
  | cons h t => cases t; exact ⟨_, rfl, h⟩
theorem RepL.none_of {F : Hp} {ρ : List Addr} {vs : List V} (h : RepL X.K X.mg F ρ vs []) : vs = [] := by cases h; rfl
theorem j_append : MutJ X rAppend gAppend := by
  intro Z F ρ μ δ σ H p c xs ds d c' Q S ow rx e q
  unfold gAppend at e
  split at e
  · rename_i ys d0
    by_cases hz : ys.length < 16777216
    · rw [if_pos hz] at e
      cases e
      obtain ⟨v, rfl, hv⟩ := rx.single
      obtain ⟨vs, hH, r⟩ := ow
      exact ⟨p, vs, v, rfl, rfl, hH, by rw [r.len, line_eq]; exact hz, q _ _ .non ⟨_, upd_same, r.app (.cons hv .nil)⟩⟩
    · rw [if_neg hz] at e; cases e
  · cases e
def gPop0 : Own → List D → Option (D × Own)
  | .lst xs, [] => match xs[xs.length - 1]? with
    | some d => some (d, .lst xs.dropLast)
    | none => none
  | _, _ => none
theorem RepL.dropLast {F : Hp} {ρ : List Addr} {vs : List V} {ds : List D} (h : RepL X.K X.mg F ρ vs ds) : RepL X.K X.mg F ρ vs.dropLast ds.dropLast := by
  rw [List.dropLast_eq_take, List.dropLast_eq_take, h.len]
  exact h.take _
theorem j_pop0 : MutJ X rPop gPop0 := by
  intro Z F ρ μ δ σ H p c xs ds d c' Q S ow rx e q
  unfold gPop0 at e
  split at e
  · rename_i ys
    cases ex : ys[ys.length - 1]? with
    | none => simp only [ex] at e; cases e
    | some d0 =>
      simp only [ex] at e
      cases e
      obtain ⟨vs, hH, r⟩ := ow
      obtain ⟨v, ev, rv⟩ := r.get ex
      exact ⟨p, vs, v, rfl, rx.none_of, hH, by rw [r.len]; exact ev, q _ _ rv ⟨_, upd_same, r.dropLast⟩⟩
  · cases e
/-- o[i] = v -/
def SetJ (X : Cx) (t : TSet) (g : Own → D → D → Option Own) : Prop := ∀ Z F ρ μ δ σ H p c i v di dv c' Q, Sim X.K X.mg Z F ρ μ δ σ H → OwnR X.K X.mg F ρ H p c → Bor X.K X.mg F ρ H i di → Rep X.K X.mg F ρ v dv → g c di dv = some c' →
  (∀ o, OwnR X.K X.mg F ρ (upd H p o) p c' → Q (upd H p o)) → t (.ref p) i v H Q
def mSetI (g : Own → D → D → Option Own) (oo oi : Opn) (m : ME) : MS := fun δ μ => (m δ μ).thn fun s δ1 μ1 => (oo.ev δ1 μ1).thn fun r δ2 μ2 => (oi.ev δ2 μ2).thn fun ri δ3 μ3 => match recv δ3 μ3 r, ri.at δ3 μ3 with
  | some (c, w), some di => match g c di s.d with
    | some c' => .nx (w c').1 (w c').2
    | none => .bad
  | _, _ => .bad
theorem js_setI {i : Expr} {spos : Pos} {t : TSet} {g : Own → D → D → Option Own} {oo oi : Opn} {m : ME} (hp : PSet X t) (hr : SetJ X t g) (he : JE X W e m) (ho : JO X W o oo) (hi : JO X W i oi)
    (ha : ∀ v, assign (.Subscript o i spos) X.env v = (do
      let ov ← holding [v] (eval o X.env)
      let iv ← holding [v, ov] (eval i X.env)
      standAt spos
      holding [v, ov, iv] (setItem ov iv v)
      release [v, ov, iv] []) := by intro _; rfl)
    (hs : swapsWithSole [.Subscript o i spos] e pos.line X.env = pure false := by rfl) (hw : swappedStores [.Subscript o i spos] e X.env = pure none := by rfl)
    (h1 : (assignEach [.Subscript o i spos] X.env).map (·.2) = [assign (.Subscript o i spos) X.env] := by rfl) : JS X W (.Assign [.Subscript o i spos] e pos) (mSetI g oo oi m) := by
  refine (ps_asg he.locked (L2.pg_sub ho hi hp ha) hs hw h1).imp fun E σ H ⟨Z, F, ρ, μ, δ, S, q⟩ => ⟨Z, F, ρ, μ, δ, S, (FinS.thn q).imp fun s δ1 μ1 H1 F1 ρ1 l1 lr1 S1 ⟨_, p1⟩ v rv => ?_⟩
  refine ⟨Z, F1, ρ1, μ1, δ1, S1, (FinS.thn p1).imp fun r δ2 μ2 H2 F2 ρ2 l2 lr2 S2 ⟨_, p2⟩ x hx => ?_⟩
  refine ⟨Z, F2, ρ2, μ2, δ2, S2, (FinS.thn p2).imp fun ri δ3 μ3 H3 F3 ρ3 l3 lr3 S3 ⟨_, p3⟩ y hy => ?_⟩
  cases e0 : recv δ3 μ3 r with
  | none => simp only [e0] at p3; exact p3.elim
  | some cw =>
    obtain ⟨c, w⟩ := cw
    cases e1 : ri.at δ3 μ3 with
    | none => simp only [e0, e1] at p3; exact p3.elim
    | some di =>
      simp only [e0, e1] at p3
      cases eg : g c di s.d with
      | none => simp only [eg] at p3; exact p3.elim
      | some c' =>
        simp only [eg] at p3
        obtain ⟨pa, rfl, ow, hw'⟩ := recv_ok S3 (hx.up l3 lr3) e0
        exact hr Z F3 ρ3 μ3 δ3 σ H3 pa c y v di s.d c' _ S3 ow (hy.bor S3 e1) ((Rep.up l2.to lr2.to rv).up l3.to lr3.to) eg fun o' ho' => p3.nx (hw' o' c' ho')
def gSetL : Own → D → D → Option Own
  | .lst xs, .int k, d => match ixN xs.length k with
    | some j => some (.lst (xs.set j d))
    | none => none
  | _, _, _ => none
theorem j_setL : SetJ X rSetL gSetL := by
  intro Z F ρ μ δ σ H p c i v di dv c' Q S ow bi rv e q
  unfold gSetL at e
  split at e
  · rename_i xs k
    cases ej : ixN xs.length k with
    | none => simp only [ej] at e; cases e
    | some j =>
      simp only [ej] at e
      cases e
      cases bi.int
      obtain ⟨vs, hH, r⟩ := ow
      exact ⟨p, vs, k, j, rfl, rfl, hH, by rw [r.len]; exact ej, q _ ⟨_, upd_same, r.set rv j⟩⟩
  · cases e
end
end FL

/-! Part H: functions, calls, the context of a derivation. -/
namespace FL
open PySem PySem.Spec PyProof.Rows L2

/-- room for calls, and nothing guarded -/
structure RmG (k : Nat) (A : Around) : Prop where
  r : Room k A
  g : A.guards = some []
theorem RmG.mono {j k : Nat} {A : Around} (r : RmG k A) (h : j ≤ k) : RmG j A := ⟨r.r.mono h, r.g⟩
theorem RmG.deeper {k : Nat} {A : Around} (r : RmG (k + 1) A) (env : Env) : RmG k (A.deeper env) := ⟨r.r.deeper env, r.g⟩
/-- a function's promise -/
structure FnG (P : Program) (w : World) (K : PySem.W.Frag) (mg : Str → Option Value) (base : Heap) (Y : CXT) (k : Nat) (f : Addr) (fd : FuncData) (ps : List Str) (sp : Sp) : Prop where
  len : ∀ vs H Q E, sp vs H Q E → vs.length = ps.length
  run : ∀ (A : Around) (outer : List Env) (s : Shared) (H : Hp) (args : Args) (us : List Value) (vs : List V) (Q : VK) (E : XK), RmG k A → Env0 P w K mg base A outer s H → BindsTo s fd args (ps.zip us) → Vals vs us → sp vs H Q E →
    codeAny (model P w) A (.call (.ref f) args) (CR Y outer P w H s Q E) s
theorem FnG.mono {P : Program} {w : World} {K : PySem.W.Frag} {mg : Str → Option Value} {base : Heap} {Y : CXT} {j k : Nat} {f : Addr} {fd : FuncData} {ps : List Str} {sp : Sp} (h : FnG P w K mg base Y j f fd ps sp) (le : j ≤ k) : FnG P w K mg base Y k f fd ps sp :=
  ⟨h.len, fun A outer s H args us vs Q E hr => h.run A outer s H args us vs Q E (hr.mono le)⟩
/-- a def of the text, as the top has left it; its defaults are dV -/
structure Fd (K : PySem.W.Frag) (x qual : Str) (st : Stmt) (f : Addr) (fd : FuncData) (dV : Value) : Prop where
  ex : ∃ (oc : Value) (od : Option Addr) (kV doc pm : Value) (an : Option Addr) (cdv ct : Value) (osl : Array (Option Value)),
    fd = PySem.W.fnOf x qual (defArgs st) (defBody st) (defScope st) dV kV doc pm an cdv ct ∧ K.lookup f = some { cls := oc, dict := od, data := .func fd, slots := osl } ∧ PySem.W.codeIn K cdv qual = true
theorem fnG_of {Y : CXT} {P : Program} {w : World} {K : PySem.W.Frag} {mg : Str → Option Value} {base : Heap} {k : Nat} {f : Addr} {x qual : Str} {st : Stmt} {fd : FuncData} {N ps : List Str} {sp : Sp} {dV : Value} (F : Fd K x qual st f fd dV) (S : FnScope N ps (defScope st))
    (len : ∀ vs H Q E, sp vs H Q E → vs.length = ps.length)
    (hbody : ∀ (cdv : Value) (A : Around) (outer : List Env) (s : Shared) (H : Hp) (vs : List V) (Q : VK) (E : XK), RmG k (A.deeper (envOfC qual (defScope st) s.heap.objs.size f cdv)) → sp vs H Q E →
      ∃ t, PSs (cxOf Y P w K mg base N qual (defScope st) f cdv A outer s H E) (defBody st) t ∧ t { nx := fun _ H' => Q .non H', rt := Q } (L2.start N vs) H) : FnG P w K mg base Y (k + 1) f fd ps sp := by
  obtain ⟨oc, od, kV, doc, pm, an, cdv, ct, osl, rfl, lk, hcd⟩ := F.ex
  refine ⟨len, fun A outer s H args us vs Q E hr e0 hb r hsp => ?_⟩
  have hlen := len _ _ _ _ hsp
  have inK : K.In s.heap := e0.mod.kin.keeps fun b o e => (e0.bs b o e).1
  have lim : s.heap.NoLimit := e0.mod.nolimit.keeps fun b o e => (e0.bs b o e).1
  have kinds : ∀ y ∈ ps.zip us, (defScope st).names.lookup y.1 = some .local ∨ ((defScope st).names.lookup y.1 = some .cell ∧ ((cellsFrom (s.heap.objs.size + 1) (defScope st).names []).lookup y.1).isSome = true) := fun ⟨n, u⟩ hy => by
    rcases S.par n (List.of_mem_zip hy).1 with q | q
    · exact Or.inl q
    · exact Or.inr ⟨q, PySem.W.cellsFrom_some _ _ _ (Or.inl q)⟩
  refine codeAny_call_function hr.r.depth (inK _ _ lk) rfl S.co S.gen rfl (PySem.W.codeRec_of inK hcd) (hb _ _ _ _ ?_)
  refine wpAny_newFunctionEnv_cells S.kind kinds fun env eenv s1 xx => ?_
  subst eenv
  refine ⟨lim.keeps xx.toInCall.keep, codeAny_func ?_⟩
  obtain ⟨t, ht, hq⟩ := hbody cdv A outer s H vs Q E (hr.deeper _) hsp
  have I : Inv (cxOf Y P w K mg base N qual (defScope st) f cdv A outer s H E) [] (L2.start N vs) H s1 := inv_start S hr.r.hd e0 hlen r xx
  refine wpAny_mono (ht.run [] s1 (L2.start N vs) H _ I hq) (fun fl s' hs => ?_) fun e s' hs => hs
  cases fl with
  | ret u =>
    obtain ⟨v, σ', H', J, rv, q⟩ := hs
    exact ⟨v, H', J.os, J.bare, J.base, J.hok, rv, q⟩
  | next =>
    obtain ⟨σ', H', J, q⟩ := hs
    exact ⟨.non, H', J.os, J.bare, J.base, J.hok, rfl, q⟩
  | brk =>
    obtain ⟨_, _, _, z⟩ := hs
    exact z.elim
  | cont =>
    obtain ⟨_, _, _, z⟩ := hs
    exact z.elim

/-! ### the mirror of a function -/
inductive OutF where
  | ok (s : Slot) (μ : Mem)
  | exc (x : Exc) (μ : Mem)
  | bad
abbrev MF := List D → Mem → OutF
def startD (n : Nat) (ds : List D) : Loc := ds.map (fun d => some (.fr d)) ++ List.replicate (n - ds.length) none
def OutS.fin (r : OutS) : OutF := match r with
  | .nx _ μ => .ok (.fr .non) μ
  | .rt s μ => .ok s μ
  | .exc x _ μ => .exc x μ
  | _ => .bad
def mFn (n : Nat) (m : MS) : MF := fun ds μ => (m (startD n ds) μ).fin
section
variable (K : PySem.W.Frag) (mg : Str → Option Value)
def FinF (Z F : Hp) (ρ : List Addr) (Q : VK) (E : XK) : OutF → Prop
  | .ok s μ => ∀ v H' F' ρ', Le Z F F' → LeR Z ρ ρ' → Sim K mg Z F' ρ' μ [] [] H' → SlotR K mg Z F' ρ' H' v s → Q v H'
  | .exc x μ => ∀ c d H' F' ρ', Le Z F F' → LeR Z ρ ρ' → Sim K mg Z F' ρ' μ [] [] H' → ExcR K mg F' ρ' c d x → E c d H'
  | .bad => False
def spM (m : MF) (n : Nat) : Sp := fun vs H Q E => vs.length = n ∧ ∃ Z F ρ μ ds, Sim K mg Z F ρ μ [] [] H ∧ RepL K mg F ρ vs ds ∧ FinF K mg Z F ρ Q E (m ds μ)
end
theorem start_get {N : List Str} {vs : List V} {i : Nat} (hi : i < vs.length) : (L2.start N vs)[i]? = some (vs[i]?) := by
  unfold L2.start
  rw [List.getElem?_append_left (by simpa using hi), List.getElem?_map]
  rw [List.getElem?_eq_getElem hi]; rfl
theorem Sim.begin {K : PySem.W.Frag} {mg : Str → Option Value} {Z F H : Hp} {ρ : List Addr} {μ : Mem} {N : List Str} {vs : List V} {ds : List D} (S : Sim K mg Z F ρ μ [] [] H) (r : RepL K mg F ρ vs ds) : Sim K mg Z F ρ μ (startD N.length ds) (L2.start N vs) H := by
  have hl := r.len
  have none_own : ∀ (i : Nat) c, (startD N.length ds)[i]? ≠ some (some (.own c)) := by
    intro i c h
    unfold startD at h
    by_cases hi : i < ds.length
    · rw [List.getElem?_append_left (by simpa using hi), List.getElem?_map, List.getElem?_eq_getElem hi] at h
      cases h
    · rw [List.getElem?_append_right (by simpa using hi), List.getElem?_replicate] at h
      split at h <;> cases h
  refine ⟨S.le, S.zk, ?_, fun i s e => ?_, fun i j p s s' e => absurd e (none_own i s), S.mem, S.mlen, S.nod⟩
  · unfold L2.start startD
    rw [List.length_append, List.length_append, List.length_map, List.length_map, List.length_replicate, List.length_replicate, hl]
  · by_cases hi : i < ds.length
    · have hv : i < vs.length := by rw [hl]; exact hi
      unfold startD at e
      rw [List.getElem?_append_left (by simpa using hi), List.getElem?_map, List.getElem?_eq_getElem hi] at e
      cases e
      obtain ⟨v, ev, rv⟩ := r.get (List.getElem?_eq_getElem hi)
      exact ⟨v, by rw [start_get hv, ev], rv⟩
    · unfold startD at e
      rw [List.getElem?_append_right (by simpa using hi), List.getElem?_replicate] at e
      split at e <;> cases e
/-- the context of a derivation: room for k levels of calls, the names, the scope -/
structure Cs (X : Cx) (W : WX) (k : Nat) (N : List Str) (sc : Scope) : Prop where
  calm : X.calm = true
  rm : RmG k X.A
  tk : Takes X W
  hN : X.N = N
  hsc : X.env.scope = sc
  nd : N.Nodup
/-- .. of a def's own body -/
structure Cd (X : Cx) (W : WX) (k : Nat) (N : List Str) (sc : Scope) : Prop extends Cs X W k N sc where
  hp : PassesOwn (model X.prog X.w) X.A X.env X.xe
  fn : ∀ x, X.fn x = true
/-- a def by its mirror -/
theorem fnG_m {P : Program} {w : World} {K : PySem.W.Frag} {mg : Str → Option Value} {base : Heap} {k n : Nat} {f : Addr} {x qual : Str} {st : Stmt} {fd : FuncData} {N ps : List Str} {m : MS} {dV : Value} (F : Fd K x qual st f fd dV) (S : FnScope N ps (defScope st)) (hn : ps.length = n)
    (hbody : ∀ (X : Cx) (W : WX), X.prog = P → X.w = w → X.K = K → X.mg = mg → X.base = base → Cd X W k N (defScope st) → JSs X W (defBody st) m) : FnG P w K mg base (L2.CX P w) (k + 1) f fd ps (spM K mg (mFn N.length m) n) := by
  subst hn
  refine fnG_of F S (fun vs H Q E h => h.1) (fun cdv A outer s H vs Q E hr h => ?_)
  obtain ⟨hl, Z, F0, ρ, μ, ds, S0, r, q⟩ := h
  refine ⟨_, hbody (cxOf (L2.CX P w) P w K mg base N qual (defScope st) f cdv A outer s H E) (fun c d _ H => E c d H) rfl rfl rfl rfl rfl ⟨⟨rfl, hr, takes_of rfl rfl rfl rfl, rfl, rfl, S.nd⟩, passes_of rfl, fun _ => rfl⟩, ?_⟩
  refine ⟨Z, F0, ρ, μ, _, S0.begin r, ?_⟩
  unfold mFn at q
  generalize m (startD N.length ds) μ = o at q
  cases o with
  | nx δ μ' => exact fun σ' H' F' ρ' l lr S' => q .non H' F' ρ' l lr S'.drop .non
  | rt s μ' => exact fun v H' F' ρ' l lr S' rv => q v H' F' ρ' l lr S' rv
  | bk δ μ' => exact q.elim
  | ct δ μ' => exact q.elim
  | exc x δ μ' => exact fun c d σ' H' F' ρ' l lr S' er => q c d H' F' ρ' l lr S'.drop er
  | bad => exact q

section
variable {X : Cx} {W : WX} {k j : Nat} {N : List Str} {sc : Scope} {e : Expr} {es : List Expr} {pos p : Pos} {f : Addr} {fd : FuncData} {ps : List Str} {x : Str}
def mCall (m : MF) (ms : List ME) (dds : List D) : ME := fun δ μ => (evA ms δ μ).bind fun ds δ1 μ1 => match m (ds ++ dds) μ1 with
  | .ok s μ2 => .ok s δ1 μ2
  | .exc x μ2 => .exc x δ1 μ2
  | .bad => .bad
/-- a function that may be called -/
structure Fu (P : Program) (w : World) (K : PySem.W.Frag) (mg : Str → Option Value) (base : Heap) (k : Nat) (x : Str) (m : MF) (n : Nat) (dds : List D) : Prop where
  ex : ∃ (f : Addr) (fd : FuncData) (ps : List Str) (ds : List Value) (dvs : List V), FnG P w K mg base (L2.CX P w) k f fd ps (spM K mg m n) ∧ mg x = some (.ref f) ∧ PySem.W.keepIn K (.ref f) = true ∧ Binds K fd ps ds ∧ Vals dvs ds ∧ ∀ F ρ, RepL K mg F ρ dvs dds
abbrev FuX (X : Cx) (k : Nat) (x : Str) (m : MF) (n : Nat) (dds : List D) : Prop := Fu X.prog X.w X.K X.mg X.base k x m n dds
theorem evA_len : ∀ {ms : List ME} {δ : Loc} {μ : Mem} {ds : List D} {δ' : Loc} {μ' : Mem}, evA ms δ μ = .ok ds δ' μ' → ms.length = ds.length := by
  intro ms
  induction ms with
  | nil => intro δ μ ds δ' μ' e; cases e; rfl
  | cons m ms ih =>
    intro δ μ ds δ' μ' e
    have e : ((m δ μ).bind fun s δ1 μ1 => (evA ms δ1 μ1).bind fun ds δ2 μ2 => Out.ok (s.d :: ds) δ2 μ2) = .ok ds δ' μ' := e
    cases em : m δ μ with
    | ok s δ1 μ1 =>
      rw [em] at e
      have e : ((evA ms δ1 μ1).bind fun ds δ2 μ2 => Out.ok (s.d :: ds) δ2 μ2) = .ok ds δ' μ' := e
      cases er : evA ms δ1 μ1 with
      | ok ds2 δ2 μ2 =>
        rw [er] at e
        cases e
        rw [List.length_cons, List.length_cons, ih er]
      | exc x δ2 μ2 => rw [er] at e; cases e
      | bad => rw [er] at e; cases e
    | exc x δ1 μ1 => rw [em] at e; cases e
    | bad => rw [em] at e; cases e
theorem call_end {m : MF} {n : Nat} {dds : List D} {ms : List ME} {dvs : List V} (hdd : ∀ F ρ, RepL X.K X.mg F ρ dvs dds) (hn : ∀ ds, ms.length = ds.length → (ds ++ dds).length = n) : ∀ σ H Q, rdE X W (mCall m ms dds) σ H Q → tCallSD (spM X.K X.mg m n) dvs (WE W) (rdA X W ms) σ H Q := by
  intro σ H Q ⟨Z, F, ρ, μ, δ, S, q⟩
  refine ⟨Z, F, ρ, μ, δ, S, ?_⟩
  cases ea : evA ms δ μ with
  | bad => unfold mCall at q; rw [ea] at q; exact q
  | exc x δ1 μ1 => unfold mCall at q; rw [ea] at q; exact q
  | ok ds δ1 μ1 =>
    unfold mCall at q
    rw [ea, Out.bind_ok] at q
    intro H1 F1 ρ1 l1 lr1 S1 vs hv
    have q1 := q.mono l1 lr1
    have hvd := hv.app (hdd F1 ρ1)
    refine ⟨by rw [hvd.len]; exact hn ds (evA_len ea), zone Z H1 δ1 σ, F1, ρ1, μ1, ds ++ dds, S1.enter, hvd, ?_⟩
    generalize m (ds ++ dds) μ1 = o at q1
    cases o with
    | ok s μ2 => exact fun v H' F' ρ' l lr S' rv => q1 H' F' ρ' (S1.leLeave l) (S1.leRLeave lr) (S1.leave S' l lr) v (S1.came rv)
    | exc x μ2 => exact fun c d H' F' ρ' l lr S' er => q1 c d H' F' ρ' (S1.leLeave l) (S1.leRLeave lr) (S1.leave S' l lr) er
    | bad => exact q1
theorem run_callG {Y : CXT} {sp : Sp} {dvs : List V} {ds : List Value} {E : L2.St → XK} {pins : List (Addr × Obj)} {σ : L2.St} {H : Hp} {s : Shared} {Q : VK} {us : List Value} {vs : List V} (F : FnG X.prog X.w X.K X.mg X.base Y j f fd ps sp) (hr : RmG j X.A) (hb : Binds X.K fd ps ds) (hd : Vals dvs ds) (hx : PassesAt Y X σ (E σ))
    (I : Inv X pins σ H s) (r : Vals vs us) (h : sp (vs ++ dvs) H Q (E σ)) : wpAny (model X.prog X.w) X.A (call (.ref f) us) (EP X pins σ Q) X.xe s := by
  have r' : Vals (vs ++ dvs) (us ++ ds) := r.append hd
  have hlen : (us ++ ds).length = ps.length := by rw [← r'.length]; exact F.len _ _ _ _ h
  refine wpAny_call (codeAny_mono (F.run X.A X.stack s H ⟨us, []⟩ _ _ Q (E σ) hr I.env0 (hb s us I.kIn hlen) r' h) fun res s' hq => ?_)
  cases res with
  | error e => exact hx pins H s e s' I hq
  | ok fl =>
    cases fl with
    | ret u => exact I.after hq
    | next => exact False.elim hq
    | brk => exact False.elim hq
    | cont => exact False.elim hq
theorem pe_callG {Y : CXT} {sp : Sp} {dvs : List V} {ds : List Value} {E : L2.St → XK} {t : TA} (F : FnG X.prog X.w X.K X.mg X.base Y j f fd ps sp) (hr : RmG j X.A) (hg : Gl X x) (hm : X.mg x = some (.ref f)) (hk : PySem.W.keepIn X.K (.ref f) = true) (hb : Binds X.K fd ps ds) (hd : Vals dvs ds) (hx : ∀ σ, PassesAt Y X σ (E σ))
    (ha : PA X (e :: es) t) (hdb : (x == ("__debug__" : Str)) = false) (he : starEach (e :: es) X.env = (false, eval e X.env) :: starEach es X.env) (hpl : (backTo pos (starEach es X.env)).any (·.1) = false) :
    PE X (.Call (.Name x p) (e :: es) [] pos) (tCallSD sp dvs E t) :=
  ⟨fun pins s σ H Q I h => wpAny_Call_Name_kw (ld_glob I hg hm (PySem.W.callWith_K (h₀ := X.base) I.ok.mod.kin hk (thn (ha.run pos pins s σ H _ I h) fun us s1 ⟨vs, H1, I1, r, q⟩ => ⟨I1.kIn, run_callG F hr hb hd (hx σ) I1 r q⟩) he hpl) hdb)⟩
theorem pe_callG0 {Y : CXT} {sp : Sp} {dvs : List V} {ds : List Value} {E : L2.St → XK} (F : FnG X.prog X.w X.K X.mg X.base Y j f fd ps sp) (hr : RmG j X.A) (hg : Gl X x) (hm : X.mg x = some (.ref f)) (hk : PySem.W.keepIn X.K (.ref f) = true) (hb : Binds X.K fd ps ds) (hd : Vals dvs ds) (hx : ∀ σ, PassesAt Y X σ (E σ))
    (hdb : (x == ("__debug__" : Str)) = false) : PE X (.Call (.Name x p) [] [] pos) (tCallSD sp dvs E tNil) :=
  ⟨fun pins s σ H Q I h => wpAny_Call_Name_kw (ld_glob I hg hm (PySem.W.callWith_K0 I.kIn hk (run_callG (us := []) F hr hb hd (hx σ) I .nil h)) hdb)⟩
/-- a name is global here -/
def glC (sc : Scope) (x : Str) : Bool := decide (sc.names.lookup x = some .globalImplicit) && !(x == ("__debug__" : Str)) && !decide (x = "__name__")
theorem Cs.gl (C : Cs X W k N sc) (h : glC sc x = true) : Gl X x ∧ (x == ("__debug__" : Str)) = false ∧ x ≠ "__name__" := by
  unfold glC at h
  simp only [Bool.and_eq_true, Bool.not_eq_true', decide_eq_true_eq, decide_eq_false_iff_not] at h
  refine ⟨?_, h.1.2, h.2⟩
  show X.env.scope.names.lookup x = _
  rw [C.hsc]; exact h.1.1
theorem je_call {m : MF} {n : Nat} {dds : List D} {ms : List ME} (C : Cs X W k N sc) (F : FuX X j x m n dds) (hjk : j ≤ k) (hg : glC sc x = true) (ha : JA X W (e :: es) ms) (hn : ms.length + dds.length = n)
    (he : starEach (e :: es) X.env = (false, eval e X.env) :: starEach es X.env := by rfl) (hpl : (backTo pos (starEach es X.env)).any (·.1) = false := by rfl) : JE X W (.Call (.Name x p) (e :: es) [] pos) (mCall m ms dds) := by
  obtain ⟨f, fd, ps, ds, dvs, F, hm, hk, hb, hd, hdd⟩ := F.ex
  obtain ⟨g1, g2, g3⟩ := C.gl hg
  exact (pe_callG F (C.rm.mono hjk) g1 hm hk hb hd (passAt C.tk) ha g2 he hpl).imp (call_end (ms := ms) hdd fun ds hl => by rw [List.length_append]; omega)
theorem je_call0 {m : MF} {n : Nat} {dds : List D} (C : Cs X W k N sc) (F : FuX X j x m n dds) (hjk : j ≤ k) (hg : glC sc x = true) (hn : dds.length = n) : JE X W (.Call (.Name x p) [] [] pos) (mCall m [] dds) := by
  obtain ⟨f, fd, ps, ds, dvs, F, hm, hk, hb, hd, hdd⟩ := F.ex
  obtain ⟨g1, g2, g3⟩ := C.gl hg
  refine (pe_callG0 F (C.rm.mono hjk) g1 hm hk hb hd (passAt C.tk) g2).imp fun σ H Q h => ?_
  obtain ⟨Z, F', ρ, μ, δ, S, q⟩ := call_end (W := W) (ms := []) (n := n) hdd (fun ds hl => by rw [List.length_append, ← hl, hn]; exact Nat.zero_add n) σ H Q h
  exact q H F' ρ .refl .refl S [] .nil

/-! ### the rules by the context -/
/-- a local name, seen -/
def varC (N : List Str) (sc : Scope) (i : Nat) (x : Str) : Bool := decide (N[i]? = some x) && (decide (sc.names.lookup x = some .local) || (decide (sc.names.lookup x = some .cell) || decide (sc.names.lookup x = some .free))) && !(x == ("__debug__" : Str)) && !(x == ("__classdict__" : Str))
theorem Cs.var {i : Nat} (C : Cs X W k N sc) (h : varC N sc i x = true) : PE X (.Name x p) (tVar i) := by
  unfold varC at h
  simp only [Bool.and_eq_true, Bool.not_eq_true', decide_eq_true_eq, Bool.or_eq_true] at h
  obtain ⟨⟨⟨h1, h2⟩, h3⟩, h4⟩ := h
  refine pe_var (by rw [C.hN]; exact h1) ?_ h3 h4
  show X.env.scope.names.lookup x = _ ∨ X.env.scope.names.lookup x = _ ∨ X.env.scope.names.lookup x = _
  rw [C.hsc]; exact h2
theorem Cs.v {i : Nat} (C : Cs X W k N sc) (h : varC N sc i x = true) : JE X W (.Name x p) (mV i) := je_v (C.var h)
theorem Cs.ov {i : Nat} (C : Cs X W k N sc) (h : varC N sc i x = true) : JO X W (.Name x p) (.v i) := jo_v (C.var h)
/-- a name that may be stored to -/
def locC (N : List Str) (sc : Scope) (i : Nat) (x : Str) : Bool := decide (N[i]? = some x) && (decide (sc.names.lookup x = some .local) || decide (sc.names.lookup x = some .cell))
theorem Cd.loc {i : Nat} (C : Cd X W k N sc) (h : locC N sc i x = true) : X.N.Nodup ∧ X.N[i]? = some x ∧ L2.Loc X.env.scope x := by
  unfold locC at h
  simp only [Bool.and_eq_true, decide_eq_true_eq, Bool.or_eq_true] at h
  refine ⟨by rw [C.hN]; exact C.nd, by rw [C.hN]; exact h.1, ?_⟩
  show X.env.scope.names.lookup x = _ ∨ X.env.scope.names.lookup x = _
  rw [C.hsc]; exact h.2
theorem Cd.set {i : Nat} {m : ME} {pos' : Pos} (C : Cd X W k N sc) (h : locC N sc i x = true) (he : JE X W e m) (hs : swapsWith e (some (.Name x pos')) pos.line X.env = pure false := by rfl) : JS X W (.Assign [.Name x pos'] e pos) (mSet i m) :=
  let ⟨a, b, c⟩ := C.loc h
  js_set a b c he hs (.inl (C.fn x))
theorem Cd.tg {i : Nat} (C : Cd X W k N sc) (h : locC N sc i x = true) : JG X (.Name x pos) (tgV i) [i] :=
  let ⟨a, b, c⟩ := C.loc h
  jg_v a b c (.inl (C.fn x))
/-- .. a plain local name -/
def ownC (N : List Str) (sc : Scope) (i : Nat) (x : Str) : Bool := decide (N[i]? = some x) && decide (sc.names.lookup x = some .local)
theorem Cs.own {i : Nat} (C : Cs X W k N sc) (h : ownC N sc i x = true) : X.N.Nodup ∧ X.N[i]? = some x ∧ X.env.scope.names.lookup x = some .local := by
  unfold ownC at h
  simp only [Bool.and_eq_true, decide_eq_true_eq] at h
  exact ⟨by rw [C.hN]; exact C.nd, by rw [C.hN]; exact h.1, by rw [C.hsc]; exact h.2⟩
theorem Cs.tg {i : Nat} (C : Cs X W k N sc) (h : ownC N sc i x = true) : JG X (.Name x pos) (tgV i) [i] :=
  let ⟨a, b, c⟩ := C.own h
  jg_v a b (.inl c) (.inr c)
/-- the context of a comprehension's block -/
theorem Cs.blk (C : Cs X W k N sc) (scope : Scope) (s : Shared) (H : Hp) (c : Addr) (cl : List (Str × Addr)) (fp : List Addr) : Cs (X.blk s H scope (compEnvC scope cl c X.env) fp) W0 k N (relS scope sc) :=
  ⟨C.calm, C.rm, fun _ _ ⟨_, _, _, _, _, _, _, _, _, _, _, _, _, _, _, _, z⟩ => z.elim, C.hN, by
    show relabel scope X.env = relS scope sc
    rw [← C.hsc]; rfl, C.nd⟩
theorem Cs.lc {elt tg iter : Expr} {ifs : List Expr} {scope : Scope} {mi : MM (List D)} {f : TgF} {is : List Nat} {tests : MT} {m : ME} {Tx : Program → World → PySem.W.Frag → (Str → Option Value) → Heap → Prop} (C : Cs X W k N sc) (T : Tx X.prog X.w X.K X.mg X.base) (own : List (Str × Nat)) (hi : JI X W tg iter mi) (ok : blkC N sc scope own = true)
    (hb : ∀ (Y : Cx), Tx Y.prog Y.w Y.K Y.mg Y.base → Cs Y W0 k N (relS scope sc) → JG Y tg f is ∧ JTs Y W0 ifs tests ∧ JE Y W0 elt m) (hsub : (is.all fun j => (own.map (·.2)).contains j) = true) (hs : ∀ x, foldedSetIterable iter X.env x = pure x := by intro _; rfl) :
    JE X W (.ListComp elt [⟨tg, iter, ifs, 0⟩] scope pos) (mLc mi f tests m (own.map (·.2))) :=
  je_lc C.calm (by rw [C.hN]; exact C.nd) hi (by rw [C.hN, C.hsc]; exact blkOk_by ok) (fun s H c cl fp => (hb (X.blk s H scope (compEnvC scope cl c X.env) fp) T (C.blk scope s H c cl fp)).1) (fun s H c cl fp => (hb (X.blk s H scope (compEnvC scope cl c X.env) fp) T (C.blk scope s H c cl fp)).2.1)
    (fun s H c cl fp => (hb (X.blk s H scope (compEnvC scope cl c X.env) fp) T (C.blk scope s H c cl fp)).2.2) (fun j hj => by simpa using List.all_eq_true.mp hsub j hj) hs
theorem Cs.setLc {i : Nat} {y : Str} {py : Pos} {elt tg iter : Expr} {ifs : List Expr} {scope : Scope} {spos : Pos} {mi : MM (List D)} {f : TgF} {is : List Nat} {tests : MT} {m : ME} {Tx : Program → World → PySem.W.Frag → (Str → Option Value) → Heap → Prop} (C : Cs X W k N sc) (T : Tx X.prog X.w X.K X.mg X.base) (own : List (Str × Nat)) (hy : ownC N sc i y = true)
    (hl : (py.line == pos.line) = true) (hl2 : spos.line = pos.line) (hk : sc.kind = .function) (hna : (scope.names.any fun (n, k) => n == y && (k == .local || k == .cell)) = false)
    (hi : JI X W tg iter mi) (ok : blkC N sc scope own = true)
    (hb : ∀ (Y : Cx), Tx Y.prog Y.w Y.K Y.mg Y.base → Cs Y W0 k N (relS scope sc) → JG Y tg f is ∧ JTs Y W0 ifs tests ∧ JE Y W0 elt m) (hsub : (is.all fun j => (own.map (·.2)).contains j) = true) (hs : ∀ x, foldedSetIterable iter X.env x = pure x := by intro _; rfl) :
    JS X W (.Assign [.Name y py] (.ListComp elt [⟨tg, iter, ifs, 0⟩] scope pos) spos) (mSet i (mLc mi f tests m (own.map (·.2)))) :=
  let ⟨a, b, c⟩ := C.own hy
  js_setLc C.calm a b c (sw_true (by rw [C.hsc]; exact hk) c hl hna) hi (by rw [C.hN, C.hsc]; exact blkOk_by ok) (fun s H c cl fp => (hb (X.blk s H scope (compEnvC scope cl c X.env) fp) T (C.blk scope s H c cl fp)).1) (fun s H c cl fp => (hb (X.blk s H scope (compEnvC scope cl c X.env) fp) T (C.blk scope s H c cl fp)).2.1)
    (fun s H c cl fp => (hb (X.blk s H scope (compEnvC scope cl c X.env) fp) T (C.blk scope s H c cl fp)).2.2) (fun j hj => by simpa using List.all_eq_true.mp hsub j hj) hs
end
end FL

/-! Part I: the rules as the generator names them. -/
namespace FL
open PySem PySem.Spec PyProof.Rows L2

/-- + .. with a list's repetition -/
def gMulA : D → D → Option Slot := fun x y => (gMul x y).or (gRep x y)
abbrev rMulA : R2 := fun x y H Q => rI CMulW (fun i j => .int (i * j)) x y H Q ∨ rRep x y H Q
section
variable {X : Cx} {W : WX} {k j : Nat} {N : List Str} {sc : Scope} {a b c e o : Expr} {es : List Expr} {pos p apos : Pos} {x : Str} {oa ob : Opn}
theorem o_mulA : OpR X (binaryOp .Mult) rMulA := op_mulW.or op_rep
theorem j_mulA : R2J X rMulA gMulA := R2J.or j_mulI j_rep
theorem Cs.hu (C : Cs X W k N sc) : X.A.units + 64 < cLine := by have := C.rm.r.un; omega
theorem add_ (ha : JO X W a oa) (hb : JO X W b ob) : JE X W (.BinOp a .Add b pos) (m2 gAdd oa ob) := je_bin o_add j_add ha hb
theorem sub_ (ha : JO X W a oa) (hb : JO X W b ob) : JE X W (.BinOp a .Sub b pos) (m2 gSub oa ob) := je_bin o_sub j_sub ha hb
theorem mul_ (ha : JO X W a oa) (hb : JO X W b ob) : JE X W (.BinOp a .Mult b pos) (m2 gMulA oa ob) := je_bin o_mulA j_mulA ha hb
theorem div_ (ha : JO X W a oa) (hb : JO X W b ob) : JE X W (.BinOp a .FloorDiv b pos) (m2 gDiv oa ob) := je_bin op_fdivW j_div ha hb
theorem mod_ (ha : JO X W a oa) (hb : JO X W b ob) : JE X W (.BinOp a .Mod b pos) (m2 gMod oa ob) := je_bin op_mod j_mod ha hb
theorem pow_ (ha : JO X W a oa) (hb : JO X W b ob) : JE X W (.BinOp a .Pow b pos) (m2 gPow oa ob) := je_bin op_pow j_pow ha hb
theorem shl_ (ha : JO X W a oa) (hb : JO X W b ob) : JE X W (.BinOp a .LShift b pos) (m2 gShl oa ob) := je_bin op_shl j_shl ha hb
theorem lt_ (ha : JO X W a oa) (hb : JO X W b ob) : JE X W (.Compare a [.Lt] [b] pos) (m2 gLt oa ob) := je_cmp o_lt j_lt ha hb (nomark _)
theorem le_ (ha : JO X W a oa) (hb : JO X W b ob) : JE X W (.Compare a [.LtE] [b] pos) (m2 gLe oa ob) := je_cmp o_le j_le ha hb (nomark _)
theorem gt_ (ha : JO X W a oa) (hb : JO X W b ob) : JE X W (.Compare a [.Gt] [b] pos) (m2 gGt oa ob) := je_cmp o_gt j_gt ha hb (nomark _)
theorem ge_ (ha : JO X W a oa) (hb : JO X W b ob) : JE X W (.Compare a [.GtE] [b] pos) (m2 gGe oa ob) := je_cmp o_ge j_ge ha hb (nomark _)
theorem Cs.eq (C : Cs X W k N sc) (ha : JO X W a oa) (hb : JO X W b ob) : JE X W (.Compare a [.Eq] [b] pos) (m2 (gEq false) oa ob) := je_cmp (o_eq C.hu) j_eq ha hb (nomark _)
theorem Cs.ne (C : Cs X W k N sc) (ha : JO X W a oa) (hb : JO X W b ob) : JE X W (.Compare a [.NotEq] [b] pos) (m2 (gEq true) oa ob) := je_cmp (o_ne C.hu) j_ne ha hb (nomark _)
theorem in_ (ha : JO X W a oa) (hb : JO X W b ob) (hm : behindInMarks .In b = false := by rfl) : JE X W (.Compare a [.In] [b] pos) (m2 (gIn false) oa ob) := je_cmp o_in (j_in false) ha hb hm
theorem nin_ (ha : JO X W a oa) (hb : JO X W b ob) (hm : behindInMarks .NotIn b = false := by rfl) : JE X W (.Compare a [.NotIn] [b] pos) (m2 (gIn true) oa ob) := je_cmp o_nin (j_in true) ha hb hm
theorem isN_ (ha : JO X W a oa) (hb : JO X W b ob) : JE X W (.Compare a [.Is] [b] pos) (m2 (gIsN false) oa ob) := je_cmp o_isN (j_isN false) ha hb (nomark _)
theorem notN_ (ha : JO X W a oa) (hb : JO X W b ob) : JE X W (.Compare a [.IsNot] [b] pos) (m2 (gIsN true) oa ob) := je_cmp o_notN (j_isN true) ha hb (nomark _)
theorem ltT (ha : JO X W a oa) (hb : JO X W b ob) : JT X W (.Compare a [.Lt] [b] pos) (mTb (m2 gLt oa ob)) := jt_cmp o_lt j_lt ha hb (nomark _)
theorem leT (ha : JO X W a oa) (hb : JO X W b ob) : JT X W (.Compare a [.LtE] [b] pos) (mTb (m2 gLe oa ob)) := jt_cmp o_le j_le ha hb (nomark _)
theorem gtT (ha : JO X W a oa) (hb : JO X W b ob) : JT X W (.Compare a [.Gt] [b] pos) (mTb (m2 gGt oa ob)) := jt_cmp o_gt j_gt ha hb (nomark _)
theorem geT (ha : JO X W a oa) (hb : JO X W b ob) : JT X W (.Compare a [.GtE] [b] pos) (mTb (m2 gGe oa ob)) := jt_cmp o_ge j_ge ha hb (nomark _)
theorem Cs.eqT (C : Cs X W k N sc) (ha : JO X W a oa) (hb : JO X W b ob) : JT X W (.Compare a [.Eq] [b] pos) (mTb (m2 (gEq false) oa ob)) := jt_cmp (o_eq C.hu) j_eq ha hb (nomark _)
theorem Cs.neT (C : Cs X W k N sc) (ha : JO X W a oa) (hb : JO X W b ob) : JT X W (.Compare a [.NotEq] [b] pos) (mTb (m2 (gEq true) oa ob)) := jt_cmp (o_ne C.hu) j_ne ha hb (nomark _)
theorem inT (ha : JO X W a oa) (hb : JO X W b ob) (hm : behindInMarks .In b = false := by rfl) : JT X W (.Compare a [.In] [b] pos) (mTb (m2 (gIn false) oa ob)) := jt_cmp o_in (j_in false) ha hb hm
theorem ninT (ha : JO X W a oa) (hb : JO X W b ob) (hm : behindInMarks .NotIn b = false := by rfl) : JT X W (.Compare a [.NotIn] [b] pos) (mTb (m2 (gIn true) oa ob)) := jt_cmp o_nin (j_in true) ha hb hm
theorem isNT (ha : JO X W a oa) (hb : JO X W b ob) : JT X W (.Compare a [.Is] [b] pos) (mTb (m2 (gIsN false) oa ob)) := jt_cmp o_isN (j_isN false) ha hb (nomark _)
theorem notNT (ha : JO X W a oa) (hb : JO X W b ob) : JT X W (.Compare a [.IsNot] [b] pos) (mTb (m2 (gIsN true) oa ob)) := jt_cmp o_notN (j_isN true) ha hb (nomark _)
theorem ix_ (ha : JO X W a oa) (hb : JO X W b ob) (hs : PlainIx b) : JE X W (.Subscript a b pos) (m2 gIxL oa ob) := je_ix ix_seq j_ix ha hb hs
/-- built-in functions and types -/
theorem Cs.bi {id : String} {r : List V → Hp → VK → Prop} {g : List D → Option Slot} {os : List Opn} (C : Cs X W k N sc) (h : glC sc x = true) (hm : X.mg x = none) (hv : bootBuiltins x = some (.builtin id)) (hc : CallR X (.builtin id) r) (hr : RLJ X r g) (ha : JOs X W (e :: es) os)
    (he : starEach (e :: es) X.env = (false, eval e X.env) :: starEach es X.env := by rfl) (hpl : (backTo pos (starEach es X.env)).any (·.1) = false := by rfl) : JE X W (.Call (.Name x p) (e :: es) [] pos) (mC g os) :=
  let ⟨g1, g2, g3⟩ := C.gl h
  je_callB hc hr g1 hm hv ha g3 g2 he hpl
theorem Cs.bt {T : String} {r : List V → Hp → VK → Prop} {g : List D → Option Slot} {os : List Opn} (C : Cs X W k N sc) (h : glC sc x = true) (hm : X.mg x = none) (hv : bootBuiltins x = some (.type T)) (hc : CallR X (.type T) r) (hr : RLJ X r g) (ha : JOs X W (e :: es) os)
    (he : starEach (e :: es) X.env = (false, eval e X.env) :: starEach es X.env := by rfl) (hpl : (backTo pos (starEach es X.env)).any (·.1) = false := by rfl) : JE X W (.Call (.Name x p) (e :: es) [] pos) (mC g os) :=
  let ⟨g1, g2, g3⟩ := C.gl h
  je_callTy hc hr g1 hm hv ha g3 g2 he hpl
theorem Cs.ty {T : String} (C : Cs X W k N sc) (h : glC sc x = true) (hm : X.mg x = none) (hv : bootBuiltins x = some (.type T)) : JE X W (.Name x pos) (mD (.ty T)) :=
  let ⟨g1, g2, g3⟩ := C.gl h
  je_ty g1 hm hv g3 g2
/-- constants of the module -/
theorem Cs.gInt {i : Int} (C : Cs X W k N sc) (h : glC sc x = true) (hm : ∃ t, X.mg x = some (.int i t)) : JE X W (.Name x pos) (mD (.int i)) :=
  let ⟨g1, g2, g3⟩ := C.gl h
  let ⟨t, hm⟩ := hm
  je_mod g1 hm (v := .int i) ⟨t, rfl⟩ (fun _ _ => .int) g2
theorem Cs.gStr {s : String} (C : Cs X W k N sc) (h : glC sc x = true) (hm : ∃ t, X.mg x = some (.str (Str.ofString s) t)) : JE X W (.Name x pos) (mD (.str (lit s))) :=
  let ⟨g1, g2, g3⟩ := C.gl h
  let ⟨t, hm⟩ := hm
  je_mod g1 hm (v := .str (Str.ofString s)) ⟨t, rfl⟩ (fun _ _ => by rw [ofS_lit]; exact .str) g2
/-- a op b op' c -/
def mChain (g g' : D → D → Option Slot) (oa ob oc : Opn) : ME := fun δ μ => (oa.ev δ μ).bind fun ra δ1 μ1 => (ob.ev δ1 μ1).bind fun rb δ2 μ2 => match ra.at δ2 μ2, rb.at δ2 μ2 with
  | some da, some db => match g da db with
    | some (.fr (.bl true)) => (oc.ev δ2 μ2).bind fun rc δ3 μ3 => match rb.at δ3 μ3, rc.at δ3 μ3 with
      | some db', some dc => lift (g' db' dc) δ3 μ3
      | _, _ => .bad
    | some (.fr (.bl false)) => .ok (.fr (.bl false)) δ2 μ2
    | _ => .bad
  | _, _ => .bad
theorem chain_read {r r' : R2} {g g' : D → D → Option Slot} {oc : Opn} (hr : R2J X r g) (hr' : R2J X r' g') : ∀ σ H Q, rdE X W (mChain g g' oa ob oc) σ H Q → tChain r r' (rdO X W oa) (rdO X W ob) (rdO X W oc) σ H Q := by
  intro σ H Q ⟨Z, F, ρ, μ, δ, S, q⟩
  refine ⟨Z, F, ρ, μ, δ, S, (FinE.bind q).imp fun ra δ1 μ1 H1 F1 ρ1 l1 lr1 S1 ⟨_, _, _, p1⟩ x hx => ?_⟩
  refine ⟨Z, F1, ρ1, μ1, δ1, S1, p1.bind.imp fun rb δ2 μ2 H2 F2 ρ2 l2 lr2 S2 ⟨_, _, _, p2⟩ y hy => ?_⟩
  cases ea : ra.at δ2 μ2 with
  | none => simp only [ea] at p2; exact p2.elim
  | some da =>
    cases eb : rb.at δ2 μ2 with
    | none => simp only [ea, eb] at p2; exact p2.elim
    | some db =>
      simp only [ea, eb] at p2
      cases eg : g da db with
      | none => simp only [eg] at p2; exact p2.elim
      | some s =>
        refine hr Z F2 ρ2 μ2 δ2 σ H2 x y da db s _ S2 ((hx.up l2 lr2).bor S2 ea) (hy.bor S2 eb) eg fun v H3 F3 l3 S3 vr => ?_
        cases s with
        | own o => simp only [eg] at p2; exact p2.elim
        | fr d =>
          cases d with
          | bl kk =>
            cases vr.r
            refine ⟨kk, rfl, ?_⟩
            cases kk with
            | false =>
              simp only [eg] at p2
              rw [if_neg Bool.false_ne_true]
              exact p2 H3 F3 ρ2 l3 .refl S3 _ .bl
            | true =>
              simp only [eg] at p2
              rw [if_pos rfl]
              refine ⟨Z, F3, ρ2, μ2, δ2, S3, (p2.mono l3 .refl).bind.imp fun rc δ4 μ4 H4 F4 ρ4 l4 lr4 S4 ⟨_, _, _, p4⟩ w hw => ?_⟩
              cases eb' : rb.at δ4 μ4 with
              | none => simp only [eb'] at p4; exact p4.elim
              | some db' =>
                cases ec : rc.at δ4 μ4 with
                | none => simp only [eb', ec] at p4; exact p4.elim
                | some dc =>
                  simp only [eb', ec] at p4
                  unfold lift at p4
                  cases eg' : g' db' dc with
                  | none => simp only [eg'] at p4; exact p4.elim
                  | some s' =>
                    simp only [eg'] at p4
                    exact hr' Z F4 ρ4 μ4 δ4 σ H4 y w db' dc s' Q S4 (((hy.up l3 .refl).up l4 lr4).bor S4 eb') (hw.bor S4 ec) eg' fun v H' F' l' S' vr => p4 H' F' ρ4 l' .refl S' v vr
          | _ => simp only [eg] at p2; exact p2.elim
theorem chain_ {op op' : CmpOp} {r r' : R2} {g g' : D → D → Option Slot} {oc : Opn} (ho : OpR X (compareOp op) r) (hr : R2J X r g) (ho' : OpR X (compareOp op') r') (hr' : R2J X r' g') (ha : JO X W a oa) (hb : JO X W b ob) (hc : JO X W c oc)
    (hm : lastMarks [op, op'] [b, c] = false := by with_unfolding_all rfl) : JE X W (.Compare a [op, op'] [b, c] pos) (mChain g g' oa ob oc) := (pe_chain ho ho' ha hb hc hm).imp (chain_read hr hr')
theorem chainT {op op' : CmpOp} {r r' : R2} {g g' : D → D → Option Slot} {oc : Opn} (ho : OpR X (compareOp op) r) (hr : R2J X r g) (ho' : OpR X (compareOp op') r') (hr' : R2J X r' g') (ha : JO X W a oa) (hb : JO X W b ob) (hc : JO X W c oc)
    (hm : lastMarks [op, op'] [b, c] = false := by with_unfolding_all rfl) : JT X W (.Compare a [op, op'] [b, c] pos) (mTb (mChain g g' oa ob oc)) := (pt_chain ho ho' ha hb hc hm).imp (mTb_read (chain_read hr hr'))
/-- a, b = x, y -/
theorem Cs.par {i j : Nat} {x y : Str} {ma mb : ME} {px py pt : Pos} {kt k2 pt2} (C : Cs X W k N sc) (hi : ownC N sc i x = true) (hj : ownC N sc j y = true) (hij : i ≠ j) (ha : JE X W a ma) (hb : JE X W b mb)
    (hw : ∀ env : Env, env.scope = sc → swappedStores [.Tuple [.Name x px, .Name y py] kt pt] (.Tuple [a, b] k2 pt2) env = pure (some [x, y]))
    (hs : swapsWithSole [.Tuple [.Name x px, .Name y py] kt pt] (.Tuple [a, b] k2 pt2) pos.line X.env = pure false := by rfl)
    (h1 : starEach [a, b] X.env = (false, eval a X.env) :: starEach [b] X.env := by rfl) (h2 : starEach [b] X.env = (false, eval b X.env) :: starEach [] X.env := by rfl) :
    JS X W (.Assign [.Tuple [.Name x px, .Name y py] kt pt] (.Tuple [a, b] k2 pt2) pos) (mPar i j ma mb) :=
  let ⟨n, i1, i2⟩ := C.own hi
  let ⟨_, j1, j2⟩ := C.own hj
  js_par C.calm n i1 j1 hij i2 j2 ha hb (hw X.env C.hsc) hs h1 h2
/-- methods -/
theorem join_ {ms : List Opn} {oo : Opn} (ho : JO X W o oo) (ha : JOs X W [e] ms) (hbase : attributeBase o "join" X.env (eval o X.env) = eval o X.env := by rfl)
    (hline : (apos.endLine == pos.line) = true := by rfl) (hs : starEach [e] X.env = (false, eval e X.env) :: starEach [] X.env := by rfl)
    (hfew : ((backTo pos (starEach [e] X.env)).all (fun x => !x.1) && (backToKw pos (keywordEach [] X.env)).all (fun x => x.1.isSome)
      && decide ([e].length + ([] : List Keyword).length + (if ([] : List Keyword).isEmpty then 0 else 1) < 30)) = true := by rfl) : JE X W (.Call (.Attribute o "join" apos) [e] [] pos) (mM "str" gJoin oo ms) :=
  je_bm PySem.F.plainAttrs_str PySem.F.slot_str_join PySem.F.type_str_join mt_join j_join ho ha hbase hfew hline hs
theorem lower_ {oo : Opn} (ho : JO X W o oo) (hbase : attributeBase o "lower" X.env (eval o X.env) = eval o X.env := by rfl) (hline : (apos.endLine == pos.line) = true := by rfl) : JE X W (.Call (.Attribute o "lower" apos) [] [] pos) (mM "str" gLower oo []) :=
  je_bm0 PySem.F.plainAttrs_str PySem.F.slot_str_lower PySem.F.type_str_lower mt_lower j_lower ho hbase hline
theorem upper_ {oo : Opn} (ho : JO X W o oo) (hbase : attributeBase o "upper" X.env (eval o X.env) = eval o X.env := by rfl) (hline : (apos.endLine == pos.line) = true := by rfl) : JE X W (.Call (.Attribute o "upper" apos) [] [] pos) (mM "str" gUpper oo []) :=
  je_bm0 PySem.F.plainAttrs_str PySem.F.slot_str_upper PySem.F.type_str_upper mt_upper j_upper ho hbase hline
theorem append_ {ms : List ME} {oo : Opn} (ho : JO X W o oo) (ha : JA X W [e] ms) (hbase : attributeBase o "append" X.env (eval o X.env) = eval o X.env := by rfl)
    (hline : (apos.endLine == pos.line) = true := by rfl) (hs : starEach [e] X.env = (false, eval e X.env) :: starEach [] X.env := by rfl)
    (hfew : ((backTo pos (starEach [e] X.env)).all (fun x => !x.1) && (backToKw pos (keywordEach [] X.env)).all (fun x => x.1.isSome)
      && decide ([e].length + ([] : List Keyword).length + (if ([] : List Keyword).isEmpty then 0 else 1) < 30)) = true := by rfl) : JE X W (.Call (.Attribute o "append" apos) [e] [] pos) (mMut "list" gAppend oo ms) :=
  je_mut PySem.F.plainAttrs_list PySem.F.slot_list_append PySem.F.type_list_append mt_append j_append ho ha hbase hfew hline hs
theorem range1_ {tg : Expr} {o : Opn} (C : Cs X W k N sc) (h : glC sc "range" = true) (hm : X.mg "range" = none) (ha : JOs X W [a] [o]) (hs : starEach [a] X.env = [(false, eval a X.env)] := by rfl) : JI X W tg (.Call (.Name "range" p) [a] [] pos) (mRange1 o) :=
  ji_range1 (C.gl h).1 hm ha hs
theorem range2_ {tg : Expr} {o o' : Opn} (C : Cs X W k N sc) (h : glC sc "range" = true) (hm : X.mg "range" = none) (ha : JOs X W [a, b] [o, o']) (hs : starEach [a, b] X.env = [(false, eval a X.env), (false, eval b X.env)] := by rfl) (hs2 : starEach [b] X.env = [(false, eval b X.env)] := by rfl) : JI X W tg (.Call (.Name "range" p) [a, b] [] pos) (mRange2 o o') :=
  ji_range2 (C.gl h).1 hm ha hs hs2
theorem slice_ {lo hi : Option Expr} {p2 : Pos} {oo : Opn} {ml mh : MM (Option Int)} (ho : JO X W e oo) (hl : JP X W lo ml) (hh : JP X W hi mh) : JE X W (.Subscript e (.Slice lo hi none p2) pos) (mSl gSl oo ml mh) := je_slice o_slice j_slice ho hl hh
theorem setI_ {i : Expr} {spos : Pos} {oo oi : Opn} {m : ME} (he : JE X W e m) (ho : JO X W o oo) (hi : JO X W i oi)
    (ha : ∀ v, assign (.Subscript o i spos) X.env v = (do
      let ov ← holding [v] (eval o X.env)
      let iv ← holding [v, ov] (eval i X.env)
      standAt spos
      holding [v, ov, iv] (setItem ov iv v)
      release [v, ov, iv] []) := by intro _; rfl)
    (hs : swapsWithSole [.Subscript o i spos] e pos.line X.env = pure false := by rfl) (hw : swappedStores [.Subscript o i spos] e X.env = pure none := by rfl)
    (h1 : (assignEach [.Subscript o i spos] X.env).map (·.2) = [assign (.Subscript o i spos) X.env] := by rfl) : JS X W (.Assign [.Subscript o i spos] e pos) (mSetI gSetL oo oi m) :=
  js_setI set_list j_setL he ho hi ha hs hw h1
def mNeg (m : ME) : ME := fun δ μ => (m δ μ).bind fun s δ1 μ1 => match s with
  | .fr (.int i) => .ok (.fr (.int (-i))) δ1 μ1
  | _ => .bad
theorem neg_ {m : ME} (h : JE X W a m) : JE X W (.UnaryOp .USub a pos) (mNeg m) := by
  refine (pe_un un_neg h).imp fun σ H Q ⟨Z, F, ρ, μ, δ, S, q⟩ => ⟨Z, F, ρ, μ, δ, S, (FinE.bind q).imp fun s δ1 μ1 H1 F1 ρ1 l lr S1 ⟨_, _, _, p⟩ v vr => ?_⟩
  cases s with
  | own o => exact p.elim
  | fr d =>
    cases d with
    | int i =>
      cases vr.r
      exact ⟨i, rfl, p H1 F1 ρ1 .refl .refl S1 _ ⟨.int, fun o p z => by cases z⟩⟩
    | _ => exact p.elim
end
/-- a def may be called -/
theorem Fu.mk0 {P : Program} {w : World} {K : PySem.W.Frag} {mg : Str → Option Value} {base : Heap} {k n : Nat} {x : Str} {m : MF} {f : Addr} {fd : FuncData} {ps : List Str} (F : FnG P w K mg base (L2.CX P w) k f fd ps (spM K mg m n)) (hm : mg x = some (.ref f)) (hk : PySem.W.keepIn K (.ref f) = true)
    (hb : Binds K fd ps []) : Fu P w K mg base k x m n [] := ⟨f, fd, ps, [], [], F, hm, hk, hb, .nil, fun _ _ => .nil⟩
theorem Fd.binds {K : PySem.W.Frag} {x qual : Str} {st : Stmt} {f : Addr} {fd : FuncData} (F : Fd K x qual st f fd .none) {ps : List Str}
    (h : ∀ (kV doc pm : Value) (an : Option Addr) (cdv ct : Value) (us : List Value), us.length = ps.length → bindArgs (PySem.W.fnOf x qual (defArgs st) (defBody st) (defScope st) .none kV doc pm an cdv ct) ⟨us, []⟩ = pure (ps.zip us)) : Binds K fd ps [] := by
  obtain ⟨oc, od, kV, doc, pm, an, cdv, ct, osl, rfl, lk, hcd⟩ := F.ex
  exact .all (h kV doc pm an cdv ct)
theorem fnG_s {P : Program} {w : World} {K : PySem.W.Frag} {mg : Str → Option Value} {base : Heap} {k n : Nat} {f : Addr} {x qual : Str} {st : Stmt} {fd : FuncData} {N ps : List Str} {m : MS} {dV : Value} {sc : Scope} (F : Fd K x qual st f fd dV) (S : FnScope N ps sc) (hsc : defScope st = sc) (hn : ps.length = n)
    (hbody : ∀ (X : Cx) (W : WX), X.prog = P → X.w = w → X.K = K → X.mg = mg → X.base = base → Cd X W k N sc → JSs X W (defBody st) m) : FnG P w K mg base (L2.CX P w) (k + 1) f fd ps (spM K mg (mFn N.length m) n) := by
  subst hsc
  exact fnG_m F S hn hbody
end FL

/-! Part J: from the law's mirror to the row. -/
namespace FL
open PySem PySem.Spec PyProof.Rows L2

/-- the law is called on the script, behind the top -/
theorem lawG {P : Program} {w : World} {K : PySem.W.Frag} {mg mb : Str → Option Value} {k : Nat} {f a : Addr} {fd : FuncData} {x : Str} {m : MF} {t : Shared} {us : List Value} {ns : List Int}
    (hK : K.In t.heap) (hg : t.heap.Ns mainGlobals mg) (hbn : t.heap.Ns builtinsNs mb) (hbb : ∀ x : Str, x ≠ "__name__" → mb x = bootBuiltins x) (hlim : t.heap.NoLimit) (hgen : t.gens = #[])
    (ha : t.heap.get? a = some { cls := .type "list", data := .seq us.toArray }) (hi : IntsAre us ns) (hl : ns.length ≤ sizeLine) (hr : RmG k callerA)
    (F : ∀ base : Heap, K.In base → base.Ns mainGlobals mg → FnG P w K mg base (L2.CX P w) k f fd [x] (spM K mg m 1)) (hbind : ∀ (s : Shared) (u : Value), BindsTo s fd ⟨[u], []⟩ [(x, u)])
    (hm : ∃ μ', m [.ro (ns.map .int)] [] = .ok (.fr (.bl true)) μ') :
    codeAny (model P w) callerA (.call (.ref f) ⟨[.ref a], []⟩) (fun r s' => r = .ok (.ret (.bool true)) ∧ OldK t.heap s'.heap ∧ s'.os = t.os ∧ AllBare s'.gens) t := by
  have vv := vals_ints hi
  have lv := hi.length
  obtain ⟨μ', hm⟩ := hm
  have main : ∀ H : Hp, Only H → SqL K H a (ns.map V.int) → HOk P w H t.heap → (∀ p, H p ≠ none → p = a) → (H a ≠ none → K.lookup a = none) →
      codeAny (model P w) callerA (.call (.ref f) ⟨[.ref a], []⟩) (fun r s' => r = .ok (.ret (.bool true)) ∧ OldK t.heap s'.heap ∧ s'.os = t.os ∧ AllBare s'.gens) t := by
    intro H only sq ok one free
    have noDict : ∀ {p : Addr} {o : Obj} {es : Array DictEntry} {ep : Nat}, t.heap.get? p = some o → o.data = .dict es ep → H p = none := fun {p o es ep} e d => by
      cases q : H p with
      | none => rfl
      | some u =>
        have ep' : p = a := one p (by rw [q]; simp)
        rw [ep', ha] at e
        cases e
        have d' : Data.seq us.toArray _ = Data.dict es ep := d
        cases d'
    have nsB : ∀ {p : Addr} {mm : Str → Option Value}, t.heap.Ns p mm → (hidT t.heap H).Ns p mm := fun {p mm} ⟨o, es, ep, e, d, r⟩ => ⟨o, es, ep, hidT_get e (noDict e d), d, r⟩
    have kB : K.In (hidT t.heap H) := fun p o e => hidT_get (hK p o e) (by
      cases q : H p with
      | none => rfl
      | some u =>
        have ep' : p = a := one p (by rw [q]; simp)
        rw [ep', free (by rw [← ep', q]; simp)] at e
        cases e)
    have mB : Mod K mg (hidT t.heap H) := ⟨kB, nsB hg, ⟨mb, nsB hbn, hbb⟩, let ⟨mc, q1, q2⟩ := hlim; ⟨mc, nsB q1, q2⟩⟩
    have env : Env0 P w K mg (hidT t.heap H) callerA [] t H := ⟨rfl, mB, fun p o e => of_hidT e, Nat.le_of_eq (hidT_size _ _), trivial, fun p hp => absurd (show p ∈ ([] : List Addr) from hp) (by simp), ok, .of_eq hgen⟩
    have S0 : Sim K mg (fun _ => none) H [] [] [] [] H := ⟨fun p o h => .inl h, fun p o h => (nomatch h), rfl, fun i s e => (by simp at e), fun i j p s t e => (by simp at e), fun k c e => (by simp at e), rfl, List.nodup_nil⟩
    have hsp : spM K mg m 1 [.ref a] H (fun v _ => v = .bl true) (fun _ _ _ => False) := by
      refine ⟨rfl, _, H, [], [], [.ro (ns.map .int)], S0, .cons (.ro sq (RepL.ofInts ns)) .nil, ?_⟩
      rw [hm]
      intro v H' F' ρ' _ _ _ rv
      cases rv
      rfl
    refine codeAny_mono ((F _ kB (nsB hg)).run callerA [] t H ⟨[.ref a], []⟩ [.ref a] [.ref a] _ _ hr env (hbind t (.ref a)) (.cons rfl .nil) hsp) fun res s' h => ?_
    cases res with
    | error e =>
      obtain ⟨_, _, _, _, _, _, _, _, _, _, _, _, z⟩ := h
      exact z.elim
    | ok fl =>
      cases fl with
      | next => exact False.elim h
      | brk => exact False.elim h
      | cont => exact False.elim h
      | ret u =>
        obtain ⟨v, H', os, bare, un, ok', rv, q⟩ := h
        have q' : v = .bl true := q
        subst q'
        cases rv
        refine ⟨rfl, OldK.of_keep fun p o e => ?_, os, bare⟩
        cases q : H p with
        | none => exact un.keep p o e q (by intro z; exact absurd (show p ∈ ([] : List Addr) from z) (by simp)) (by simp)
        | some u =>
          rcases only p with z | ⟨ob, xs, z⟩
          · rw [q] at z; cases z
          · obtain ⟨e1, _⟩ := ok p _ z
            obtain ⟨e2, _⟩ := ok' p _ (un.frzs p ob _ z)
            rw [e] at e1; cases e1
            exact e2
  cases hk : K.lookup a with
  | some o =>
    have e := hK a o hk
    rw [ha] at e
    cases e
    exact main (fun _ => none) (fun _ => .inl rfl) (.inr ⟨_, us.toArray, _, hk, rfl, rfl, rfl, by rw [List.size_toArray, lv]; exact hl, by simpa using vv⟩) (fun p u z => nomatch z) (fun p z => absurd rfl z) fun z => absurd rfl z
  | none =>
    let H : Hp := fun p => if p = a then some (.frz { cls := .type "list", data := .seq us.toArray } (.lst (ns.map V.int))) else none
    have Ha : H a = some (.frz { cls := .type "list", data := .seq us.toArray } (.lst (ns.map V.int))) := if_pos rfl
    have Hn : ∀ {p}, p ≠ a → H p = none := fun h => if_neg h
    refine main H (fun p => ?_) (.inl (.inr ⟨_, Ha⟩)) (fun p u z => ?_) (fun p z => Classical.byContradiction fun n => z (Hn n)) fun _ => hk
    · by_cases n : p = a
      · subst n; exact .inr ⟨_, _, Ha⟩
      · exact .inl (Hn n)
    · by_cases n : p = a
      · subst n
        rw [Ha] at z
        cases z
        exact ⟨ha, by rw [List.length_map]; exact hl, us, _, vv, ha⟩
      · rw [Hn n] at z; cases z
theorem walkG {l : PySem.W.OpenLaw} {k : Nat} {q : Program} {loose : List Str} {XP : (Str → Option Value) → Heap → Prop} {YP : World → Heap → Prop} {d : DefRec} {K : Params → PySem.W.Frag} {x : Str} {m : MF}
    (hn : l.most = some 63) (hdf : d.params.defaults = []) (hr : RmG k callerA)
    (hY : ∀ (w : World) (h : Heap), YP w h → (K w.params).In h)
    (F : ∀ (w : World) (mg : Str → Option Value) (fa : Addr) (h : Heap), (K w.params).In h → h.Ns mainGlobals mg → mg d.name = some (.ref fa) →
      ∃ fd : FuncData, (∀ (s : Shared) (u : Value), BindsTo s fd ⟨[u], []⟩ [(x, u)]) ∧
        ∀ base : Heap, (K w.params).In base → base.Ns mainGlobals mg → FnG l.prog w (K w.params) mg base (L2.CX l.prog w) k fa fd [x] (spM (K w.params) mg m 1))
    (hm : ∀ ns : List Int, ns.length ≤ 63 → ∃ μ', m [.ro (ns.map .int)] [] = .ok (.fr (.bl true)) μ') :
    PySem.W.WalkO q loose XP YP l.row.toRowW d [] (fun f vs => PySem.call f vs) := by
  refine Att.attach_call hn hdf fun w s0 s1 mg mb fa o pm cd doc a vs ns G Y ho hd hcd hmg hobj hints hlen hg => ?_
  have hK := hY w _ Y
  obtain ⟨fd, hb, hF⟩ := F w mg fa _ hK G.T.g hmg
  exact lawG hK G.T.g G.T.b G.T.builtins G.T.nolimit hg hobj hints (Nat.le_trans hlen (by rw [line_eq]; decide)) hr hF hb (hm ns hlen)
theorem room_caller : RmG 200 callerA := ⟨⟨rfl, by decide, by decide⟩, rfl⟩
end FL

/-! Part K: pop at a place, insert, sum, repr of data. -/
namespace FL
open PySem PySem.Spec PyProof.Rows L2
section
variable {X : Cx} {W : WX} {k : Nat} {N : List Str} {sc : Scope} {a b e o : Expr} {es : List Expr} {pos p apos : Pos} {x : Str}
def gPopAt : Own → List D → Option (D × Own)
  | .lst xs, [.int i] => if -(2 ^ 63) ≤ i ∧ i < 2 ^ 63 then (match ixN xs.length i with
      | some j => match xs[j]? with
        | some d => some (d, .lst (xs.eraseIdx j))
        | none => none
      | none => none) else none
  | _, _ => none
theorem j_popAt : MutJ X rPopAt gPopAt := by
  intro Z F ρ μ δ σ H p c xs ds d c' Q S ow rx e q
  unfold gPopAt at e
  split at e
  · rename_i ys i
    by_cases hb : -(2 ^ 63) ≤ i ∧ i < 2 ^ 63
    · rw [if_pos hb] at e
      cases ej : ixN ys.length i with
      | none => simp only [ej] at e; cases e
      | some j =>
        cases ex : ys[j]? with
        | none => simp only [ej, ex] at e; cases e
        | some d0 =>
          simp only [ej, ex] at e
          cases e
          obtain ⟨v, rfl, hv⟩ := rx.single
          cases hv
          obtain ⟨vs, hH, r⟩ := ow
          obtain ⟨u, eu, ru⟩ := r.get ex
          exact ⟨p, vs, i, j, u, rfl, rfl, hH, hb.1, hb.2, by rw [r.len]; exact (ixN_seq ej).1, eu, q _ _ ru ⟨_, upd_same, r.erase j⟩⟩
    · rw [if_neg hb] at e; cases e
  · cases e
def gInsert : Own → List D → Option (D × Own)
  | .lst xs, [.int i, d] => if xs.length < 16777216 ∧ 0 ≤ i ∧ i < 2 ^ 63 then some (.non, .lst (xs.take i.toNat ++ [d] ++ xs.drop i.toNat)) else none
  | _, _ => none
abbrev rInsertAt : V → List V → Hp → VK → Prop := fun x vs H Q => ∃ (l : Addr) (xs : List V) (i : Int) (y : V), x = .ref l ∧ vs = [.int i, y] ∧ H l = some (.lst xs) ∧ xs.length < sizeLine ∧ 0 ≤ i ∧ i < 2 ^ 63 ∧ Q .non (upd H l (.lst (xs.take i.toNat ++ [y] ++ xs.drop i.toNat)))
theorem RepL.pair {F : Hp} {ρ : List Addr} {vs : List V} {d d' : D} (h : RepL X.K X.mg F ρ vs [d, d']) : ∃ v w, vs = [v, w] ∧ Rep X.K X.mg F ρ v d ∧ Rep X.K X.mg F ρ w d' := by
  cases h with
  | cons h t => obtain ⟨w, rfl, h'⟩ := t.single; exact ⟨_, w, rfl, h, h'⟩
theorem j_insert : MutJ X rInsertAt gInsert := by
  intro Z F ρ μ δ σ H p c xs ds d c' Q S ow rx e q
  unfold gInsert at e
  split at e
  · rename_i ys i d0
    by_cases hb : ys.length < 16777216 ∧ 0 ≤ i ∧ i < 2 ^ 63
    · rw [if_pos hb] at e
      cases e
      obtain ⟨v, w, rfl, hv, hw⟩ := rx.pair
      cases hv
      obtain ⟨vs, hH, r⟩ := ow
      exact ⟨p, vs, i, w, rfl, rfl, hH, by rw [r.len, line_eq]; exact hb.1, hb.2.1, hb.2.2, q _ _ .non ⟨_, upd_same, ((r.take _).app (.cons hw .nil)).app (r.drop _)⟩⟩
    · rw [if_neg hb] at e; cases e
  · cases e
theorem popAt_ {ms : List ME} {oo : Opn} (ho : JO X W o oo) (ha : JA X W [e] ms) (hbase : attributeBase o "pop" X.env (eval o X.env) = eval o X.env := by rfl)
    (hline : (apos.endLine == pos.line) = true := by rfl) (hs : starEach [e] X.env = (false, eval e X.env) :: starEach [] X.env := by rfl)
    (hfew : ((backTo pos (starEach [e] X.env)).all (fun x => !x.1) && (backToKw pos (keywordEach [] X.env)).all (fun x => x.1.isSome)
      && decide ([e].length + ([] : List Keyword).length + (if ([] : List Keyword).isEmpty then 0 else 1) < 30)) = true := by rfl) : JE X W (.Call (.Attribute o "pop" apos) [e] [] pos) (mMut "list" gPopAt oo ms) :=
  je_mut PySem.F.plainAttrs_list PySem.F.slot_list_pop PySem.F.type_list_pop mt_popAt j_popAt ho ha hbase hfew hline hs
theorem pop0_ {oo : Opn} (ho : JO X W o oo) (hbase : attributeBase o "pop" X.env (eval o X.env) = eval o X.env := by rfl) (hline : (apos.endLine == pos.line) = true := by rfl) : JE X W (.Call (.Attribute o "pop" apos) [] [] pos) (mMut "list" gPop0 oo []) :=
  je_mut0 PySem.F.plainAttrs_list PySem.F.slot_list_pop PySem.F.type_list_pop mt_pop j_pop0 ho hbase hline
theorem insert_ {ms : List ME} {oo : Opn} (ho : JO X W o oo) (ha : JA X W [a, b] ms) (hbase : attributeBase o "insert" X.env (eval o X.env) = eval o X.env := by rfl)
    (hline : (apos.endLine == pos.line) = true := by rfl) (hs : starEach [a, b] X.env = (false, eval a X.env) :: starEach [b] X.env := by rfl) (hpl : (backTo pos (starEach [b] X.env)).any (·.1) = false := by rfl)
    (hfew : ((backTo pos (starEach [a, b] X.env)).all (fun x => !x.1) && (backToKw pos (keywordEach [] X.env)).all (fun x => x.1.isSome)
      && decide ([a, b].length + ([] : List Keyword).length + (if ([] : List Keyword).isEmpty then 0 else 1) < 30)) = true := by rfl) : JE X W (.Call (.Attribute o "insert" apos) [a, b] [] pos) (mMut "list" gInsert oo ms) :=
  je_mut PySem.F.plainAttrs_list PySem.F.slot_list_insert PySem.F.type_list_insert mt_insert j_insert ho ha hbase hfew hline hs hpl
/-- repr of data -/
abbrev rReprD (K : PySem.W.Frag) : List V → Hp → VK → Prop := fun xs H Q => ∃ x d, xs = [x] ∧ Dp K H x d ∧ PyData.showable d = true ∧ PyData.hasDict d = false ∧ d.depth ≤ 64 ∧ (PyData.shown d).length ≤ sizeLine ∧ Q (.str (PyData.shown d)) H
theorem o_repr (hg : X.A.guards = some []) (hu : X.A.units + 70 < cLine) : CallR X (.builtin "repr") (rReprD X.K) := by
  intro pins s σ H xs us Q I rv h
  obtain ⟨x, d, rfl, hd, hs, hn, hdp, hz, q⟩ := h
  obtain ⟨u, rfl, ru⟩ : ∃ u, us = [u] ∧ RelV x u := by
    cases rv with
    | cons r t => cases t; exact ⟨_, rfl, r⟩
  obtain ⟨as, rd⟩ := Dp.reads I d x u hd ru
  have fin : ∀ a, u = .ref a → wpAny (model X.prog X.w) X.A (call (.builtin "repr") [u]) (EP X pins σ Q) X.xe s := by
    intro a ea
    subst ea
    exact repr_of_reads' rd hs (PyData.noDict_hsm hn) hg (by omega) (fun _ _ e => e) (fun h' t tk kk => ⟨.str (PyData.shown d), H, I.kept (t' := tk) kk, ⟨t, rfl⟩, q⟩) hz
  cases hd with
  | non => cases ru; exact PySem.P.repr_of_none ⟨.str _, H, I.tok _, ⟨_, rfl⟩, q⟩
  | bl b => cases ru; exact PySem.P.repr_of_bool ⟨.str _, H, I.tok _, ⟨_, by cases b <;> rfl⟩, q⟩
  | int i =>
    obtain ⟨t, rfl⟩ := ru
    exact PySem.P.repr_of_int (of_decide_eq_true hs) ⟨.str _, H, I.tok _, ⟨_, rfl⟩, q⟩
  | str z =>
    obtain ⟨t, rfl⟩ := ru
    exact PySem.P.repr_of_str ⟨.str _, H, I.tok _, ⟨_, rfl⟩, q⟩ hz
  | lst hq ha => cases ru; exact fin _ rfl
  | tup hq ha => cases ru; exact fin _ rfl
def gRepr : List D → Option Slot := fun ds => match ds with
  | [d] => match D.py d with
    | some q => if (PyData.showable q && (!PyData.hasDict q && (decide (q.depth ≤ 64) && decide ((PyData.shown q).length ≤ 16777216)))) = true then some (.fr (.str (PyData.shown q).cps.toList)) else none
    | none => none
  | _ => none
theorem j_repr : RLJ X (rReprD X.K) gRepr :=
  rl1_flat (g := fun d => match D.py d with
    | some q => if (PyData.showable q && (!PyData.hasDict q && (decide (q.depth ≤ 64) && decide ((PyData.shown q).length ≤ 16777216)))) = true then some (.fr (.str (PyData.shown q).cps.toList)) else none
    | none => none) fun Z F ρ μ δ σ H x dx s Q S b e => by
    cases ep : D.py dx with
    | none => simp only [ep] at e; cases e
    | some q =>
      simp only [ep] at e
      split at e
      · rename_i hc
        simp only [Bool.and_eq_true, Bool.not_eq_true', decide_eq_true_eq] at hc
        cases e
        exact ⟨.str (PyData.shown q), fun qq => ⟨x, q, rfl, b.dp S ep, hc.1, hc.2.1, hc.2.2.1, by rw [line_eq]; exact hc.2.2.2, qq⟩, _, rfl, by
          have := @Rep.str X.K X.mg F ρ (PyData.shown q).cps.toList
          rwa [toS_of] at this⟩
      · cases e
theorem Cs.hg (C : Cs X W k N sc) : X.A.guards = some [] := C.rm.g
theorem Cs.hu70 (C : Cs X W k N sc) : X.A.units + 70 < cLine := by have := C.rm.r.un; omega
end
end FL

/-! Part R: sorted of rows that begin with different numbers. -/
namespace FL
open PySem PySem.Spec PyProof.Rows L2

section
variable {prog : Program} {w : World} {A : Around} {E : Value → Shared → Prop} {s : Shared}
/-- a tuple that begins with the number i -/
def RowAt (h : Heap) (v : Value) (i : Int) : Prop := ∃ (p : Addr) (ob : Obj) (xs : List Value) (n : Nat) (t : Tok), v = .ref p ∧ h.get? p = some ob ∧ ob.cls = .type "tuple" ∧ ob.data = .seq (Value.int i t :: xs).toArray n
theorem RowAt.stay {h h' : Heap} {v : Value} {i : Int} (r : RowAt h v i) (k : ∀ p ob, h.get? p = some ob → ob.cls = .type "tuple" → h'.get? p = some ob) : RowAt h' v i :=
  let ⟨p, ob, xs, n, t, e, ho, hc, hd⟩ := r
  ⟨p, ob, xs, n, t, e, k p ob ho hc, hc, hd⟩
theorem lex_self {b fin : Bool} {Q : Bool → Shared → Prop} (hq : Q fin s) : ∀ (l : List Value) (i : Nat), PySem.W.KatLex prog w A b fin Q (l.zip l) i s
  | [], _ => PySem.W.kat_nil hq
  | v :: l, i => PySem.W.kat_cons (SeqAt.EqAt.same v prog w (fun _ _ => False) _ (PySem.W.kat_yes (lex_self hq l (i + 1))))
theorem row_less {key : Value → Int} {vs : List Value} (hr : ∀ v ∈ vs, RowAt s.heap v (key v)) (hi : ∀ v ∈ vs, ∀ u ∈ vs, key v = key u → v = u) :
    SrtO.Cmp prog w A s (tuples' true) (fun p => p.1 ∈ vs) (SrtO.lt2 fun v u => decide (key v < key u)) := by
  intro p q hp hq
  show wpAny (model prog w) A (keyLt' (tuples' true) p.1 q.1) (fun r s' => s' = s ∧ r = decide (key p.1 < key q.1)) (fun _ _ => False) s
  by_cases hk : key p.1 = key q.1
  · have same := hi _ hp _ hq hk
    rw [← same]
    obtain ⟨a, ob, xs, n, t, e, ho, hc, hd⟩ := hr _ hp
    rw [e]
    refine PySem.W.kat_lt ho hd ho hd (lex_self ⟨rfl, ?_⟩ _ _)
    rw [decide_eq_false (Nat.lt_irrefl _), decide_eq_false (Int.lt_irrefl _)]
  · have r1 := hr _ hp
    have r2 := hr _ hq
    generalize key p.1 = i at hk r1 ⊢
    generalize key q.1 = j at hk r2 ⊢
    obtain ⟨a, ob, xs, n, t, e, ho, hc, hd⟩ := r1
    obtain ⟨a2, ob2, xs2, n2, t2, e2, ho2, hc2, hd2⟩ := r2
    rw [e, e2]
    refine PySem.W.kat_lt ho hd ho2 hd2 ?_
    show PySem.W.KatLex prog w A true _ _ ((Value.int i t, Value.int j t2) :: xs.zip xs2) 0 s
    refine PySem.W.kat_cons (SeqAt.EqAt.int_int i t j t2 prog w (fun _ _ => False) _ ?_)
    rw [show (i == j) = false by simpa using hk]
    exact PySem.W.kat_no (oneLt_int ⟨rfl, rfl⟩)
theorem heads_of {h : Heap} {key : Value → Int} : ∀ {vs : List Value}, (∀ v ∈ vs, RowAt h v (key v)) → ∃ fs : List Value, PySem.W.KatTups h vs fs ∧ fs.length = vs.length ∧ ∀ f ∈ fs, ∃ i t, f = Value.int i t
  | [], _ => ⟨[], PySem.W.KatTups.nil, rfl, fun f hf => nomatch hf⟩
  | v :: vs, hr => by
    obtain ⟨fs, h1, h2, h3⟩ := heads_of (vs := vs) fun u hu => hr u (List.mem_cons_of_mem _ hu)
    obtain ⟨p, ob, xs, n, t, rfl, ho, hc, hd⟩ := hr v (List.mem_cons_self ..)
    refine ⟨Value.int (key (.ref p)) t :: fs, PySem.W.KatTups.cons ho hc hd (by simp) h1, by simp [h2], fun f hf => ?_⟩
    rcases List.mem_cons.mp hf with e | hf
    · exact ⟨_, _, e⟩
    · exact h3 f hf
theorem rows_sort {a : Addr} {vs : List Value} {key : Value → Int} (hz : 0 < vs.length) (hr : ∀ v ∈ vs, RowAt s.heap v (key v)) (hi : ∀ v ∈ vs, ∀ u ∈ vs, key v = key u → v = u) (ha : ∀ ob, s.heap.get? a = some ob → ob.cls ≠ .type "tuple") :
    SrtO.SortableO prog w A s a vs fun v u => decide (key v < key u) := by
  intro h' kp
  have hr' : ∀ v ∈ vs, RowAt h' v (key v) := fun v hv => (hr v hv).stay fun p ob e c => kp p ob (fun z => ha ob (by rw [← z]; exact e) c) e
  obtain ⟨fs, t1, t2, t3⟩ := heads_of hr'
  refine ⟨tuples' true, fun Q E hq => ?_, row_less hr' hi⟩
  refine PySem.W.kat_kind (T := .type "int") t1 (by omega) (fun f hf => ?_) (by rfl) ?_
  · obtain ⟨i, t, e⟩ := t3 f hf
    rw [e]
    exact PySem.W.Looks.now
  · rw [show (Value.type "int" != Value.type "tuple") = true from by first | decide +kernel | rfl]
    exact hq
theorem key_swo (key : Value → Int) : SrtO.Swo fun v u => decide (key v < key u) := by
  refine ⟨fun x y h => ?_, fun x y z h1 h2 => ?_⟩
  · have := of_decide_eq_true h
    exact decide_eq_false (by omega)
  · have h3 := of_decide_eq_false h1
    have h4 := of_decide_eq_false h2
    exact decide_eq_false (by omega)
theorem sorted_rows {l : Addr} {vs : List Value} {key : Value → Int} {Q : Value → Shared → Prop} (hl : s.heap.IsList l vs.toArray) (hz : vs.length ≤ sizeLine) (hr : ∀ v ∈ vs, RowAt s.heap v (key v)) (hi : ∀ v ∈ vs, ∀ u ∈ vs, key v = key u → v = u)
    (h : ∀ (h' : Heap) (d : Addr) (out : List Value), out.Pairwise (fun v u => key v ≤ key u) → out.Perm vs → (∀ p ob, s.heap.get? p = some ob → h'.get? p = some ob) → s.heap.objs.size ≤ d → (∃ n, h'.get? d = some (seqObj "list" out.toArray n)) → Q (.ref d) { s with heap := h' }) :
    wpAny (model prog w) A (call (.builtin "sorted") [.ref l]) Q E s := by
  refine SrtO.sorted_ord (key_swo key) hl hz (fun _ h₁ a ha kk => ?_) fun out hs hb => ?_
  · rename_i h2
    refine rows_sort (by omega) (fun v hv => (hr v hv).stay fun p ob e _ => (kk p ob e).2) hi fun ob e => ?_
    rw [ha] at e
    cases e
    exact fun c => absurd (Value.type.inj c) (by decide)
  · refine h _ _ out (List.Pairwise.imp (fun {v u} hvu => ?_) hs) hb.perm (fun p ob e => sortedAll_old e) (Nat.le_succ _) (sortedAll_at s.heap vs out.toArray)
    have := of_decide_eq_false hvu
    omega
end
section
variable {X : Cx}
/-- sorted(xs): tuples that begin with different numbers -/
def rSortRows (K : PySem.W.Frag) : List V → Hp → VK → Prop := fun vs H Q => ∃ (a : Addr) (xs : List V) (key : V → Int), vs = [V.ref a] ∧ SqL K H a xs ∧ (∀ x ∈ xs, ∃ t r, x = V.ref t ∧ SqT K H t (.int (key x) :: r)) ∧ (∀ x ∈ xs, ∀ y ∈ xs, key x = key y → x = y) ∧
  ∀ ys p, ys.Pairwise (fun x y => key x ≤ key y) → ys.Perm xs → H p = none → Q (.ref p) (upd H p (.lst ys))
theorem back_pair {key : V → Int} : ∀ {us : List Value}, us.Pairwise (fun v u => key (backV v) ≤ key (backV u)) → (us.map backV).Pairwise (fun x y => key x ≤ key y) := fun h => List.pairwise_map.mpr h
theorem back_inj {u v : Value} (hu : ∃ a, u = Value.ref a) (hv : ∃ a, v = Value.ref a) (h : backV u = backV v) : u = v := by
  obtain ⟨a, rfl⟩ := hu
  obtain ⟨b, rfl⟩ := hv
  have h' : V.ref a = V.ref b := h
  cases h'
  rfl
theorem cr_sortRows : CallR X (.builtin "sorted") (rSortRows X.K) := by
  intro pins s σ H vs us Q I r h
  obtain ⟨a, xs, key, rfl, hs, hx, hi, q⟩ := h
  obtain ⟨its, rv, hl, hz⟩ := I.list hs
  obtain ⟨u, rfl, ru⟩ := vals1 r
  cases ru
  obtain ⟨e1, e2⟩ := refs_back rv fun x m => let ⟨t, _, e, _⟩ := hx x m; ⟨t, e⟩
  have mem : ∀ v ∈ its, backV v ∈ xs := fun v hv => by rw [e1]; exact List.mem_map_of_mem hv
  refine sorted_rows (key := fun u => key (backV u)) hl.isList (by rw [← rv.length]; exact hz) (fun v hv => ?_) (fun v hv u hu e => back_inj (e2 v hv) (e2 u hu) (hi _ (mem v hv) _ (mem u hu) e)) fun h' d out h1 h2 kp hd hn => ?_
  · obtain ⟨t, r, et, ht⟩ := hx _ (mem v hv)
    obtain ⟨p, rfl⟩ := e2 v hv
    have ep : p = t := by
      have et' : V.ref p = V.ref t := et
      cases et'
      rfl
    subst ep
    obtain ⟨its2, r2, ⟨ob, ho, hc, n, hd⟩, _⟩ := I.tuple ht
    cases r2 with
    | @cons _ u0 _ ur r0 rr =>
      obtain ⟨t0, e0⟩ := r0
      subst e0
      exact ⟨p, ob, ur, n, t0, rfl, ho, hc, hd⟩
  · have h3 : ∀ u ∈ out, ∃ a, u = Value.ref a := fun u hu => e2 u (h2.mem_iff.mp hu)
    obtain ⟨n, hn⟩ := hn
    have pm : (out.map backV).Perm xs := by
      rw [e1]
      exact h2.map backV
    refine ⟨.ref d, upd H d (.lst (out.map backV)), I.laid (t' := s.toks) kp hd ⟨?_, out, n, vals_back h3, hn⟩, rfl, q _ d (back_pair h1) pm (I.hok.fresh hd)⟩
    rw [pm.length_eq]
    exact hz
end
end FL

/-! Part T: enumerate of lists and tuples; dicts that are owned. -/
namespace FL
open PySem PySem.Spec PyProof.Rows L2

/-! ### enumerate -/
theorem newcall_en1 {v : Value} {o : Obj} {G : Heap → Prop} (B : Begins v o G) :
    Meets (Builtin.«enumerate.__new__» ⟨[.type "enumerate", v], []⟩) (fun _ R s => G s.heap ∧
      R (.ok (.ret (.ref (s.heap.push o).objs.size))) { s with heap := (s.heap.push o).push { cls := .type "enumerate", data := .fields #[.none, .bool false, .ref s.heap.objs.size, rawInt 0, .none, .none] } }) :=
  .of_wp fun prog w A R s hR => by
    obtain ⟨hp, gs, dr, tk, os⟩ := s
    obtain ⟨g1, hR⟩ := hR
    have sb := sub_enumerate
    have it1 : ∀ {A' : Around} {E : Value → Shared → Prop} {Q : Value → Shared → Prop}, Q (.ref hp.objs.size) ⟨hp.push o, gs, dr, tk, os⟩ → wpAny (model prog w) A' (pyIter v) Q E ⟨hp, gs, dr, tk, os⟩ :=
      fun z => B.iter prog w _ _ ⟨hp, gs, dr, tk, os⟩ _ g1 z
    wp_walk using it1
    refine wpAny_stack_any fun stk => wpAny_pure ?_
    split
    · rename_i cl _ _ _ _ _
      cases (cl == Value.type "enumerate") <;>
      · wp_walk using it1
        exact ⟨_, rfl, hR⟩
    · wp_walk using it1
      exact ⟨_, rfl, hR⟩
section
variable {prog : Program} {w : World} {A : Around} {E : Value → Shared → Prop} {s : Shared}
theorem call_en1 {v : Value} {o : Obj} {G : Heap → Prop} {Q : Value → Shared → Prop} (B : Begins v o G) (g1 : G s.heap)
    (h : ∀ h', IsEnum h' (s.heap.objs.size + 1) s.heap.objs.size 0 .none → h'.get? s.heap.objs.size = some o → (∀ p ob, s.heap.get? p = some ob → h'.get? p = some ob) → Q (.ref (s.heap.objs.size + 1)) { s with heap := h' }) :
    wpAny (model prog w) A (call (.type "enumerate") [v]) Q E s := by
  refine callType_new F.called_enumerate (by decide) (F.typeCall_enumerate_1 _) (F.newCall_enumerate_1 _) (fun ob => F.args_object_init_2 ob _) F.entry_enumerate_new (newcall_en1 B) ⟨g1, ?_⟩
  have sz : (s.heap.push o).objs.size = s.heap.objs.size + 1 := Heap.size_push ..
  have en : IsEnum ((s.heap.push o).push { cls := .type "enumerate", data := .fields #[.none, .bool false, .ref s.heap.objs.size, rawInt 0, .none, .none] }) (s.heap.objs.size + 1) s.heap.objs.size 0 .none := by
    have z := Heap.get?_push_size (s.heap.push o) (o := { cls := .type "enumerate", data := .fields #[.none, .bool false, .ref s.heap.objs.size, rawInt 0, .none, .none] }) rfl
    rw [sz] at z
    exact z
  show _ ∧ _
  rw [sz]
  exact ⟨⟨_, en, rfl⟩, h _ en (Heap.get?_push_of_some _ (Heap.get?_push_size _ B.free)) fun p ob e => Heap.get?_push_of_some _ (Heap.get?_push_of_some _ e)⟩
end
theorem en_end {prog : Program} {w : World} {A : Around} {E : Value → Shared → Prop} {s : Shared} {e it a : Addr} {i : Nat} {items : Array Value} {old : Value} {Q : Option Value → Shared → Prop} (hh : A.handled = none)
    (en : IsEnum s.heap e it i old) (ti : s.heap.IsTupleIter it a i) (pt : s.heap.IsTuple a items) (no : items[i]? = none) (hQ : ∀ h', Heap.ExtBut it s.heap h' → Q none { s with heap := h' }) : wpAny (model prog w) A (pyNext (.ref e)) Q E s := by
  have ty : s.TypeIs (.ref e) "enumerate" := ⟨_, en, rfl⟩
  unfold pyNext
  refine wpAny_bind (wpAny_attempt ?_)
  refine wpAny_callSpecial?_slot (name := Str.ofString "__next__") ty F.slot_enumerate_next ?_
  refine wpAny_call_entry F.slot_enumerate_next ty F.entry_enumerate_next ?_ (F.args_enumerate_next_1 _)
  show wpAny _ _ (field (.ref e) 2 >>= _) _ _ s
  refine wpAny_bind (wpAny_field en rfl (x := .ref it) rfl (wpAny_bind ?_))
  refine wpAny_nextOf_tuple_end hh ti pt no fun h' x keep ⟨o, ho, hc⟩ => ?_
  exact wpAny_bind (wpAny_isInstance (T := "StopIteration") (b := true) ⟨o, ho, hc⟩ isSubtype_stop (wpAny_pure (hQ _ keep)))
/-- the tuple at a, each item with its number in a new pair -/
def ItEn (K : PySem.W.Frag) (a : Addr) : It :=
  ⟨fun i H => ∃ (xs : List V) (x : V), SqT K H a xs ∧ xs[i]? = some x, fun i H v H' => ∃ p x, v = .ref p ∧ H p = none ∧ H' = upd H p (.tup [.int (i : Nat), x]) ∧ ∀ xs, SqT K H a xs → xs[i]? = some x, fun i H => ∃ xs : List V, SqT K H a xs ∧ xs.length ≤ i⟩
theorem same_tup {X : Cx} {pins : List (Addr × Obj)} {σ : L2.St} {H : Hp} {s : Shared} {a : Addr} {xs ys : List V} (I : Inv X pins σ H s) (h1 : SqT X.K H a xs) (h2 : SqT X.K H a ys) : xs = ys := I.tuple_inj h1 h2
theorem turn_en {P : Program} {w : World} {K : PySem.W.Frag} {elts : List Expr} {kk : Nat} {tpos : Pos} {a e it : Addr} (nai : a ≠ it) (nea : e ≠ a) :
    Turn P w K (.Tuple elts kk tpos) (ItEn K a) [e, it] e (fun i h => (∃ old, IsEnum h e it ((i : Nat) : Int) old) ∧ h.IsTupleIter it a i ∧ e ≠ it) where
  mem := by simp
  obj := fun i h st b hb => by
    obtain ⟨⟨old, en⟩, ⟨o, ho, _, hd⟩, _⟩ := st
    rcases List.mem_cons.mp hb with z | z
    · subst z
      exact ⟨_, en, fun v q => nomatch q⟩
    · rw [List.mem_singleton.mp z]
      exact ⟨o, ho, fun v q => by rw [hd] at q; cases q⟩
  keep := fun i h h' st k => by
    obtain ⟨⟨old, en⟩, ti, ne⟩ := st
    exact ⟨⟨old, k e (by simp) _ en⟩, ti.at fun o q => k it (by simp) o q, ne⟩
  item := by
    intro X hP hw hK hc i pins s σ H E I hf st hg
    subst hP hw hK
    obtain ⟨⟨old, en⟩, ti, ne⟩ := st
    obtain ⟨xs, x, hq, hx⟩ := hg
    obtain ⟨its, rv, pt, _⟩ := I.tuple hq
    obtain ⟨u, hu, ru⟩ := rv.get hx
    have pt : s.heap.IsTuple a its.toArray := pt
    have lt1 : e < s.heap.objs.size := Heap.lt_size en
    have lt2 : it < s.heap.objs.size := let ⟨_, q, _⟩ := ti; Heap.lt_size q
    have D := Draws.tuple (prog := X.prog) (w := X.w) (A := X.A.in1) (by exact I.ok.hd hc) it a nai its.toArray
    have hi : i < its.toArray.size := by
      have := (List.getElem?_eq_some_iff.mp hu).1
      simpa using this
    refine wpAny_pyNext_enum_itemD D en ⟨ti, pt⟩ hi ne (by simp [ne, nea]) fun y h' tk hy ho st' hT _ hk => ?_
    have ey : y = u := by
      have : its[i]? = some y := by simpa using hy
      rw [hu] at this
      cases this
      rfl
    subst ey
    refine ⟨_, rfl, wpAny_letOwnedTupleGo_enum (s := { s with heap := h', toks := tk + 1 }) ho fun h2 en2 sb => ?_⟩
    have hT2 : h2.get? s.heap.objs.size = some { cls := .type "tuple", data := .seq #[.int i tk, y] } := (sb.2 _ (Nat.ne_of_gt lt1)).trans hT
    have nw : ObjOk X.prog X.w (upd H s.heap.objs.size (.tup [.int (i : Nat), x])) h2 s.heap.objs.size (.tup [.int (i : Nat), x]) :=
      ⟨by show 2 ≤ sizeLine; decide, [.int i tk, y], .cons ⟨_, rfl⟩ (.cons ru .nil), ⟨_, hT2, rfl, _, rfl⟩⟩
    have J := I.turnedNew (t' := tk + 1) (ch := [e, it]) (h' := h2) (fun b ob hb q => (sb.2 b (fun z => hb (by simp [z]))).trans (hk b ob (fun z => hb (by simp [z])) (fun z => hb (by simp [z])) q)) hf (Nat.le_refl _) nw
    refine ⟨.ref s.heap.objs.size, _, J, rfl, ⟨_, x, rfl, I.hok.fresh (Nat.le_refl _), rfl, fun ys hy => by rw [same_tup I hy hq]; exact hx⟩, ⟨⟨y, ?_⟩, st'.1.at fun o q => (sb.2 it (Ne.symm ne)).trans q, ne⟩, fun b hb => ?_⟩
    · rw [show ((i + 1 : Nat) : Int) = (i : Int) + 1 by omega]
      exact en2
    · have hb' : b < s.heap.objs.size := by
        rcases List.mem_cons.mp hb with z | z
        · rw [z]; exact lt1
        · rw [List.mem_singleton.mp z]; exact lt2
      rw [upd_ne (Nat.ne_of_lt hb')]
      exact (hf b hb).1
  done := by
    intro X hP hw hK hc i pins s σ H E I hf st hg
    subst hP hw hK
    obtain ⟨⟨old, en⟩, ti, ne⟩ := st
    obtain ⟨xs, hq, hx⟩ := hg
    obtain ⟨its, rv, pt, _⟩ := I.tuple hq
    have pt : s.heap.IsTuple a its.toArray := pt
    obtain ⟨f0, f1, f2, f3, f4, f5⟩ := hf it (by simp)
    have ln := rv.length
    refine en_end (I.ok.hd hc) en ti pt (by simp; omega) fun h' eb => ⟨rfl, ?_⟩
    exact I.turned (t' := s.toks) (fun p ob hb q => eb p ob hb q) f0 f1 f3 f4 f5
  self := fun A i s Q E st h => let ⟨⟨_, en⟩, _⟩ := st; wpAny_pyIter_enum en h
/-- enumerate(e), a list or a tuple -/
def iEnAny (K : PySem.W.Frag) (te : TE) : TI := fun σ H R => te σ H fun v H1 => (∃ a xs, v = .ref a ∧ SqL K H1 a xs ∧ R (Ite K a) H1) ∨ ∃ a xs, v = .ref a ∧ SqT K H1 a xs ∧ R (ItEn K a) H1
theorem pi_en {X : Cx} {e : Expr} {te : TE} {p pos tpos : Pos} {elts : List Expr} {kk : Nat} (hg : Gl X "enumerate") (hm : X.mg "enumerate" = none) (he : PE X e te) (hs : starEach [e] X.env = [(false, eval e X.env)] := by rfl) :
    PI X (.Tuple elts kk tpos) (.Call (.Name "enumerate" p) [e] [] pos) (iEnAny X.K te) := by
  refine ⟨fun pins s σ H R I h => ?_⟩
  refine Call_ (ld_blt I hg hm boot_enumerate (PyProof.Rows.callWith_type1 (thn ((pa_cons he pa_nil hs).run pos pins s σ H (fun vs H1 => match vs with
    | [v] => (∃ a xs, v = .ref a ∧ SqL X.K H1 a xs ∧ R (Ite X.K a) H1) ∨ ∃ a xs, v = .ref a ∧ SqT X.K H1 a xs ∧ R (ItEn X.K a) H1
    | _ => False) I h) fun us s1 ⟨vs, H1, I1, r1, q⟩ => ?_) hs rfl))
  obtain ⟨v, rfl⟩ : ∃ v, vs = [v] := by
    cases vs with
    | nil => exact q.elim
    | cons v vs =>
      cases vs with
      | nil => exact ⟨v, rfl⟩
      | cons _ _ => exact q.elim
  obtain ⟨u, rfl, ru⟩ := vals1 r1
  have fp : ∀ b ∈ [s1.heap.objs.size + 1, s1.heap.objs.size], FpOk X pins H1 b := fun b hb => by
    have le : s1.heap.objs.size ≤ b := by
      rcases List.mem_cons.mp hb with z | z
      · omega
      · rw [List.mem_singleton.mp z]; exact Nat.le_refl _
    exact I1.fpOk le (I1.hok.fresh le)
  rcases q with ⟨a, xs, rfl, hq, q⟩ | ⟨a, xs, rfl, hq, q⟩
  · cases ru
    obtain ⟨its, rv, pl, _⟩ := I1.list hq
    refine call_enumerate_list pl.isList fun h' en li _ kp => wpAny_pyIter_enum en ?_
    exact ⟨s1.heap.objs.size + 1, [s1.heap.objs.size + 1, s1.heap.objs.size], _, _, H1, rfl, I1.kept (t' := s1.toks) kp, turn_enum a (s1.heap.objs.size + 1) s1.heap.objs.size, ⟨⟨.none, en⟩, li, Nat.succ_ne_self _⟩, fp, q⟩
  · cases ru
    obtain ⟨its, rv, pt, _⟩ := I1.tuple hq
    have pt : s1.heap.IsTuple a its.toArray := pt
    have la : a < s1.heap.objs.size := let ⟨_, z, _⟩ := pt; Heap.lt_size z
    refine call_en1 (begins_tuple a its.toArray) pt fun h' en it kp => wpAny_pyIter_enum en ?_
    exact ⟨s1.heap.objs.size + 1, [s1.heap.objs.size + 1, s1.heap.objs.size], _, _, H1, rfl, I1.kept (t' := s1.toks) kp, turn_en (Nat.ne_of_lt la) (Nat.ne_of_gt (Nat.lt_succ_of_lt la)), ⟨⟨.none, en⟩, ⟨_, it, rfl, rfl⟩, Nat.succ_ne_self _⟩, fp, q⟩
section
variable {X : Cx} {W : WX}
def enD (ds : List D) : List D := ds.zipIdx.map fun p => .tup [.int (p.2 : Nat), p.1]
theorem enD_at {ds : List D} {i : Nat} {d : D} (h : (enD ds)[i]? = some d) : ∃ x, ds[i]? = some x ∧ d = .tup [.int (i : Nat), x] := by
  unfold enD at h
  rw [List.getElem?_map, List.getElem?_zipIdx] at h
  cases e : ds[i]? with
  | none => rw [e] at h; cases h
  | some x =>
    rw [e] at h
    cases h
    exact ⟨x, rfl, by simp⟩
theorem enD_len (ds : List D) : (enD ds).length = ds.length := by simp [enD]
theorem new_pair {Z F H : Hp} {ρ : List Addr} {μ : Mem} {δ : Loc} {σ : L2.St} {p : Addr} {a b : V} {da db : D} (S : Sim X.K X.mg Z F ρ μ δ σ H) (hp : H p = none) (ra : Rep X.K X.mg F ρ a da) (rb : Rep X.K X.mg F ρ b db) :
    ∃ F2, Le Z F F2 ∧ Sim X.K X.mg Z F2 ρ μ δ σ (upd H p (.tup [a, b])) ∧ Rep X.K X.mg F2 ρ (.ref p) (.tup [da, db]) := by
  obtain ⟨F2, l, S2, r⟩ := vr_newT S hp (.cons ra (.cons rb .nil))
  exact ⟨F2, l, S2, r.r⟩
theorem itr_enL {F : Hp} {ρ : List Addr} {p : Addr} {vs : List V} {ds : List D} (hq : ∀ Z' F' ρ' μ δ σ H, (∀ p o, F p = some o → F' p = some o) → Sim X.K X.mg Z' F' ρ' μ δ σ H → SqL X.K H p vs) (r : RepL X.K X.mg F ρ vs ds) : ItR X F ρ (Ite X.K p) (enD ds) := by
  intro Z' F' ρ' μ δ σ H i to tr S
  have q := hq Z' F' ρ' μ δ σ H to S
  refine ⟨fun hl => ⟨vs, q, by rw [r.len, ← enD_len]; exact hl⟩, fun d hd => ?_⟩
  obtain ⟨x, hx, rfl⟩ := enD_at hd
  obtain ⟨v, hv, rv⟩ := r.get hx
  refine ⟨⟨vs, v, q, hv⟩, fun y H' ⟨T, z, ey, hT, eH, hz⟩ => ?_⟩
  subst ey
  subst eH
  have ez := hz vs q
  rw [hv] at ez
  cases ez
  exact new_pair S hT .int (rv.up to tr)
theorem itr_enT {F : Hp} {ρ : List Addr} {p : Addr} {vs : List V} {ds : List D} (hq : ∀ Z' F' ρ' μ δ σ H, (∀ p o, F p = some o → F' p = some o) → Sim X.K X.mg Z' F' ρ' μ δ σ H → SqT X.K H p vs) (r : RepL X.K X.mg F ρ vs ds) : ItR X F ρ (ItEn X.K p) (enD ds) := by
  intro Z' F' ρ' μ δ σ H i to tr S
  have q := hq Z' F' ρ' μ δ σ H to S
  refine ⟨fun hl => ⟨vs, q, by rw [r.len, ← enD_len]; exact hl⟩, fun d hd => ?_⟩
  obtain ⟨x, hx, rfl⟩ := enD_at hd
  obtain ⟨v, hv, rv⟩ := r.get hx
  refine ⟨⟨vs, v, q, hv⟩, fun y H' ⟨T, z, ey, hT, eH, hz⟩ => ?_⟩
  subst ey
  subst eH
  have ez := hz vs q
  rw [hv] at ez
  cases ez
  exact new_pair S hT .int (rv.up to tr)
def enA : D → Option (List D)
  | .lst xs => some (enD xs)
  | .tup xs => some (enD xs)
  | _ => none
def mEnum (m : ME) : MM (List D) := fun δ μ => (m δ μ).bind fun s δ1 μ1 => match enA s.d with
  | some ds => .ok ds δ1 μ1
  | none => .bad
theorem ji_enum {elts : List Expr} {kk : Nat} {tpos p pos : Pos} {e : Expr} {m : ME} (hg : Gl X "enumerate") (hm : X.mg "enumerate" = none) (he : JE X W e m) (hs : starEach [e] X.env = [(false, eval e X.env)] := by rfl) : JI X W (.Tuple elts kk tpos) (.Call (.Name "enumerate" p) [e] [] pos) (mEnum m) := by
  refine (pi_en hg hm he.locked hs).imp fun σ H R ⟨Z, F, ρ, μ, δ, S, q⟩ => ⟨Z, F, ρ, μ, δ, S, (FinE.bind q).imp fun s δ1 μ1 H1 F1 ρ1 l lr S1 ⟨_, _, _, p⟩ v r => ?_⟩
  cases ea : enA s.d with
  | none => simp only [ea] at p; exact p.elim
  | some ds =>
    simp only [ea] at p
    have p' := p H1 F1 ρ1 .refl .refl S1
    unfold enA at ea
    generalize s.d = d at ea r
    cases d <;> first | (cases ea; done) | skip
    · cases ea
      cases r with
      | @lst a vs _ h r =>
        exact .inl ⟨a, vs, rfl, .of (S1.frozen h), p' _ (itr_enL (fun Z' F' ρ' μ δ σ H to S => .of (S.frozen (to _ _ h))) r)⟩
    · cases ea
      cases r with
      | @tup a vs _ h r =>
        exact .inr ⟨a, vs, rfl, h.elim (fun h => .inl (S1.rd h)) .inr, p' _ (itr_enT (fun Z' F' ρ' μ δ σ H to S => h.elim (fun h => .inl (S.rd (Rd.up to h))) .inr) r)⟩
end
end FL

/-! Part U: dicts that are owned, list.index, sorted. -/
namespace FL
open PySem PySem.Spec PyProof.Rows L2

def DK.d : DK → D
  | .i n => .int n
  | .s x => .str x
def dkey : D → Option DK
  | .int n => some (.i n)
  | .str x => some (.s x)
  | _ => none
def getA (kds : List (DK × D)) (k : DK) : Option D := (kds.find? fun p => decide (p.1 = k)).map (·.2)
def putA (kds : List (DK × D)) (k : DK) (d : D) : List (DK × D) := if (kds.any fun p => decide (p.1 = k)) = true then kds.map (fun p => if p.1 = k then (p.1, d) else p) else kds ++ [(k, d)]
def dropA (kds : List (DK × D)) (k : DK) : List (DK × D) := kds.filter fun p => decide (p.1 ≠ k)
abbrev dctO (kds : List (DK × D)) : Own := .dct (kds.map (·.1)) (kds.map (·.2))
theorem DK.key_inj {k j : DK} (h : k.key = j.key) : k = j := by
  cases k <;> cases j <;> first | (cases h; done) | skip
  · have h' : (Sum.inl _ : Key) = Sum.inl _ := h
    cases h'
    rfl
  · have h' : (Sum.inr _ : Key) = Sum.inr _ := h
    rw [toS_inj (Sum.inr.inj h')]
section
variable (K : PySem.W.Frag) (mg : Str → Option Value) (F : Hp) (ρ : List Addr)
inductive KV : List (Key × V) → List (DK × D) → Prop where
  | nil : KV [] []
  | cons {k v d kvs kds} (h : Rep K mg F ρ v d) (t : KV kvs kds) : KV ((DK.key k, v) :: kvs) ((k, d) :: kds)
end
section
variable {K : PySem.W.Frag} {mg : Str → Option Value} {F F' : Hp} {ρ ρ' : List Addr} {H : Hp} {p : Addr}
theorem KV.of : ∀ {ks : List DK} {vs : List V} {ds : List D}, ks.length = vs.length → RepL K mg F ρ vs ds → KV K mg F ρ ((ks.map DK.key).zip vs) (ks.zip ds)
  | [], _, _, h, r => by cases r <;> first | exact .nil | (cases h; done)
  | k :: ks, _, _, h, r => by
    cases r with
    | nil => cases h
    | cons h1 t => exact .cons h1 (KV.of (by simpa using h) t)
theorem KV.back : ∀ {kvs : List (Key × V)} {kds : List (DK × D)}, KV K mg F ρ kvs kds → kvs = ((kds.map (·.1)).map DK.key).zip (kvs.map (·.2)) ∧ RepL K mg F ρ (kvs.map (·.2)) (kds.map (·.2)) ∧ kvs.length = kds.length
  | _, _, .nil => ⟨rfl, .nil, rfl⟩
  | _, _, .cons h t => by
    obtain ⟨a, b, c⟩ := KV.back t
    refine ⟨?_, .cons h b, by rw [List.length_cons, List.length_cons, c]⟩
    simp only [List.map_cons, List.zip_cons_cons]
    rw [← a]
theorem KV.up (l : ∀ p o, F p = some o → F' p = some o) (lr : ∀ (k : Nat) p, ρ[k]? = some p → ρ'[k]? = some p) : ∀ {kvs : List (Key × V)} {kds : List (DK × D)}, KV K mg F ρ kvs kds → KV K mg F' ρ' kvs kds
  | _, _, .nil => .nil
  | _, _, .cons h t => .cons (h.up l lr) (KV.up l lr t)
theorem KV.app : ∀ {a b : List (Key × V)} {c d : List (DK × D)}, KV K mg F ρ a c → KV K mg F ρ b d → KV K mg F ρ (a ++ b) (c ++ d)
  | _, _, _, _, .nil, h => h
  | _, _, _, _, .cons h t, r => .cons h (KV.app t r)
theorem key_dec (k j : DK) : decide (DK.key k = DK.key j) = decide (k = j) := by
  by_cases h : k = j
  · rw [h, decide_eq_true rfl, decide_eq_true rfl]
  · rw [decide_eq_false h, decide_eq_false fun z => h (DK.key_inj z)]
theorem KV.get {k : DK} {d : D} : ∀ {kvs : List (Key × V)} {kds : List (DK × D)}, KV K mg F ρ kvs kds → getA kds k = some d → ∃ v, valV kvs k.key = some v ∧ Rep K mg F ρ v d
  | _, _, .nil, e => by cases e
  | _, _, @KV.cons _ _ _ _ k1 v1 d1 kvs kds h t, e => by
    unfold getA at e
    rw [List.find?_cons] at e
    unfold valV
    rw [List.find?_cons]
    simp only [key_dec]
    by_cases z : k1 = k
    · rw [decide_eq_true z] at e ⊢
      cases e
      exact ⟨v1, rfl, h⟩
    · rw [decide_eq_false z] at e ⊢
      exact KV.get t e
theorem KV.any {k : DK} : ∀ {kvs : List (Key × V)} {kds : List (DK × D)}, KV K mg F ρ kvs kds → (kvs.any fun kv => decide (kv.1 = k.key)) = (kds.any fun p => decide (p.1 = k))
  | _, _, .nil => rfl
  | _, _, .cons h t => by rw [List.any_cons, List.any_cons, KV.any t, key_dec]
theorem KV.repl {k : DK} {v : V} {d : D} (r : Rep K mg F ρ v d) : ∀ {kvs : List (Key × V)} {kds : List (DK × D)}, KV K mg F ρ kvs kds → KV K mg F ρ (kvs.map fun kv => if kv.1 = k.key then (kv.1, v) else kv) (kds.map fun p => if p.1 = k then (p.1, d) else p)
  | _, _, .nil => .nil
  | _, _, @KV.cons _ _ _ _ k1 v1 d1 kvs kds h t => by
    rw [List.map_cons, List.map_cons]
    by_cases z : k1 = k
    · rw [if_pos (show DK.key k1 = DK.key k by rw [z]), if_pos (show k1 = k from z)]
      exact .cons r (KV.repl r t)
    · rw [if_neg (show ¬ DK.key k1 = DK.key k from fun q => z (DK.key_inj q)), if_neg (show ¬ k1 = k from z)]
      exact .cons h (KV.repl r t)
theorem KV.put {k : DK} {v : V} {d : D} (r : Rep K mg F ρ v d) {kvs : List (Key × V)} {kds : List (DK × D)} (h : KV K mg F ρ kvs kds) : KV K mg F ρ (putK kvs k.key v) (putA kds k d) := by
  unfold putK putA
  rw [h.any]
  by_cases z : (kds.any fun p => decide (p.1 = k)) = true
  · rw [if_pos z, if_pos z]
    exact h.repl r
  · rw [if_neg z, if_neg z]
    exact h.app (.cons r .nil)
theorem KV.drop {k : DK} : ∀ {kvs : List (Key × V)} {kds : List (DK × D)}, KV K mg F ρ kvs kds → KV K mg F ρ (dropK kvs k.key) (dropA kds k)
  | _, _, .nil => .nil
  | _, _, @KV.cons _ _ _ _ k1 v1 d1 kvs kds h t => by
    have ih := KV.drop (k := k) t
    unfold dropK dropA at ih ⊢
    by_cases z : k1 = k
    · rw [List.filter_cons_of_neg (by simp [z]), List.filter_cons_of_neg (by simp [z])]
      exact ih
    · rw [List.filter_cons_of_pos (by simpa using fun q => z (DK.key_inj q)), List.filter_cons_of_pos (by simpa using z)]
      exact .cons h ih
theorem own_kv {ks : List DK} {ds : List D} (h : OwnR K mg F ρ H p (.dct ks ds)) : ∃ kvs, H p = some (.dK kvs) ∧ KV K mg F ρ kvs (ks.zip ds) := by
  obtain ⟨vs, e, n, r⟩ := h
  exact ⟨_, e, KV.of n r⟩
theorem kv_own {kvs : List (Key × V)} {kds : List (DK × D)} (h : KV K mg F ρ kvs kds) (e : H p = some (.dK kvs)) : OwnR K mg F ρ H p (dctO kds) := by
  obtain ⟨a, b, c⟩ := h.back
  refine ⟨kvs.map (·.2), by rw [e]; exact congrArg (fun z => some (HO.dK z)) a, by simp [c], b⟩
end
section
variable {X : Cx} {W : WX} {o i e value : Expr} {pos pos' apos cpos : Pos}
theorem key_of {F H : Hp} {ρ : List Addr} {y : V} {d : D} {k : DK} (h : Bor X.K X.mg F ρ H y d) (e : dkey d = some k) : y = kV k.key := by
  cases d <;> first | (cases e; done) | skip
  · cases e
    exact h.int
  · cases e
    exact h.str
theorem key_rep {F : Hp} {ρ : List Addr} {y : V} {d : D} {k : DK} (h : Rep X.K X.mg F ρ y d) (e : dkey d = some k) : y = kV k.key := key_of (H := F) (.fr h) e
/-- d[k] -/
def gGetD : D → D → Option Slot
  | .dct ks ds, y => match dkey y with
    | some k => (getA (ks.zip ds) k).map .fr
    | none => none
  | _, _ => none
abbrev rGetD : R2 := fun x y H Q => ∃ a v, x = .ref a ∧ DGet H a y (some v) ∧ Q v H
theorem j_getD : R2J X rGetD gGetD := by
  intro Z F ρ μ δ σ H x y dx dy s Q S bx bY e q
  unfold gGetD at e
  cases dx <;> first | (cases e; done) | skip
  · rename_i ks ds
    cases ek : dkey dy with
    | none => simp only [ek] at e; cases e
    | some k =>
      simp only [ek] at e
      obtain ⟨d, e1, e2⟩ := Option.map_eq_some_iff.mp e
      subst e2
      obtain ⟨p, vs, rfl, hr, hl, r⟩ := bx.dct S
      obtain ⟨v, g, rv⟩ := (KV.of hl r).get e1
      exact ⟨p, v, rfl, .inl ⟨_, k.key, hr, key_of bY ek, g.symm⟩, q _ H F .refl S ⟨rv, fun o p z => by cases z⟩⟩
theorem je_getD {oa ob : Opn} (hu : X.A.units + 1 < cLine) (ha : JO X W o oa) (hb : JO X W i ob) (hs : NoSl i) : JE X W (.Subscript o i pos) (m2 gGetD oa ob) :=
  (pe_dget hu ha hb hs).imp (m2_read (r := rGetD) j_getD)
/-- d[k] = v -/
def gSetD : Own → D → D → Option Own
  | .dct ks ds, y, d => match dkey y with
    | some k => if (ks.zip ds).length < 16777216 then some (dctO (putA (ks.zip ds) k d)) else none
    | none => none
  | _, _, _ => none
theorem js_setD {oo oi : Opn} {m : ME} (hu : X.A.units + 1 < cLine) (he : JE X W value m) (ho : JO X W o oo) (hi : JO X W i oi) (hs : swapsWith value (some (.Subscript o i pos')) pos.line X.env = pure false := by rfl) : JS X W (.Assign [.Subscript o i pos'] value pos) (mSetI gSetD oo oi m) := by
  refine (ps_dput hu ho hi he.locked hs).imp fun E σ H ⟨Z, F, ρ, μ, δ, S, q⟩ => ⟨Z, F, ρ, μ, δ, S, (FinS.thn q).imp fun s δ1 μ1 H1 F1 ρ1 l1 lr1 S1 ⟨_, p1⟩ v rv => ?_⟩
  refine ⟨Z, F1, ρ1, μ1, δ1, S1, (FinS.thn p1).imp fun r δ2 μ2 H2 F2 ρ2 l2 lr2 S2 ⟨_, p2⟩ x hx => ?_⟩
  refine ⟨Z, F2, ρ2, μ2, δ2, S2, (FinS.thn p2).imp fun ri δ3 μ3 H3 F3 ρ3 l3 lr3 S3 ⟨_, p3⟩ y hy => ?_⟩
  cases e0 : recv δ3 μ3 r with
  | none => simp only [e0] at p3; exact p3.elim
  | some cw =>
    obtain ⟨c, w⟩ := cw
    cases e1 : ri.at δ3 μ3 with
    | none => simp only [e0, e1] at p3; exact p3.elim
    | some di =>
      simp only [e0, e1] at p3
      cases eg : gSetD c di s.d with
      | none => simp only [eg] at p3; exact p3.elim
      | some c' =>
        simp only [eg] at p3
        obtain ⟨pa, rfl, ow, hw⟩ := recv_ok S3 (hx.up l3 lr3) e0
        unfold gSetD at eg
        cases c <;> first | (cases eg; done) | skip
        · rename_i ks ds
          cases ek : dkey di with
          | none => simp only [ek] at eg; cases eg
          | some k =>
            simp only [ek] at eg
            by_cases hz : (ks.zip ds).length < 16777216
            · rw [if_pos hz] at eg
              cases eg
              obtain ⟨kvs, hH, kv⟩ := own_kv ow
              obtain ⟨_, _, hl⟩ := kv.back
              have rv3 := (Rep.up l2.to lr2.to rv).up l3.to lr3.to
              refine ⟨pa, _, rfl, .inl ⟨kvs, k.key, hH, key_of (hy.bor S3 e1) ek, by rw [hl, line_eq]; exact hz, rfl⟩, p3.nx (hw _ _ (kv_own (kv.put rv3) upd_same))⟩
            · rw [if_neg hz] at eg; cases eg
/-- d.pop(k), k there -/
def gPopD : Own → D → Option (D × Own)
  | .dct ks ds, y => match dkey y with
    | some k => (getA (ks.zip ds) k).map fun d => (d, dctO (dropA (ks.zip ds) k))
    | none => none
  | _, _ => none
def mPopD (oo : Opn) (m : ME) : ME := fun δ μ => (oo.ev δ μ).bind fun r δ1 μ1 => match recv δ1 μ1 r with
  | some (.dct _ _, _) => (m δ1 μ1).bind fun s δ2 μ2 => match recv δ2 μ2 r with
    | some (c, w) => match gPopD c s.d with
      | some (d, c') => .ok (.fr d) (w c').1 (w c').2
      | none => .bad
    | none => .bad
  | _ => .bad
theorem je_popD {oo : Opn} {m : ME} (ho : JO X W o oo) (he : JE X W e m) (mm : M1 X o "pop" apos e cpos) : JE X W (.Call (.Attribute o "pop" apos) [e] [] cpos) (mPopD oo m) := by
  refine (pe_dpop1 ho he.locked mm).imp fun σ H Q ⟨Z, F, ρ, μ, δ, S, q⟩ => ⟨Z, F, ρ, μ, δ, S, (FinE.bind q).imp fun ra δ1 μ1 H1 F1 ρ1 l lr S1 ⟨_, _, _, p⟩ x hx => ?_⟩
  cases e0 : recv δ1 μ1 ra with
  | none => simp only [e0] at p; exact p.elim
  | some cw =>
    obtain ⟨c0, w0⟩ := cw
    simp only [e0] at p
    obtain ⟨pa, rfl, ow, _⟩ := recv_ok S1 hx e0
    cases c0 <;> first | exact p.elim | skip
    obtain ⟨kvs0, hH0, _⟩ := own_kv ow
    refine ⟨pa, rfl, .inl ⟨kvs0, .inl hH0⟩, Z, F1, ρ1, μ1, δ1, S1, p.bind.imp fun s δ2 μ2 H2 F2 ρ2 l2 lr2 S2 ⟨_, _, _, p2⟩ y hy => ?_⟩
    cases e1 : recv δ2 μ2 ra with
    | none => simp only [e1] at p2; exact p2.elim
    | some cw =>
      obtain ⟨c, w⟩ := cw
      simp only [e1] at p2
      cases eg : gPopD c s.d with
      | none => simp only [eg] at p2; exact p2.elim
      | some dc =>
        obtain ⟨d, c'⟩ := dc
        simp only [eg] at p2
        obtain ⟨pa', ep, ow2, hw⟩ := recv_ok S2 (hx.up l2 lr2) e1
        cases ep
        unfold gPopD at eg
        cases c <;> first | (cases eg; done) | skip
        · rename_i ks ds
          cases ek : dkey s.d with
          | none => simp only [ek] at eg; cases eg
          | some k =>
            simp only [ek] at eg
            obtain ⟨d1, g1, g2⟩ := Option.map_eq_some_iff.mp eg
            cases g2
            obtain ⟨kvs, hH, kv⟩ := own_kv ow2
            obtain ⟨v, ev, rv⟩ := kv.get g1
            exact ⟨kvs, k.key, v, hH, key_rep hy ek, ev, p2 _ F2 ρ2 .refl .refl (hw _ _ (kv_own kv.drop upd_same)) v ⟨rv, fun o p z => by cases z⟩⟩
/-- xs.index(x), x there -/
def gIndex : D → List D → Option Slot
  | .lst xs, [y] => match D.pys xs, D.py y with
    | some ds, some d => if SeqAt.shaped (.list ds) = true ∧ SeqAt.shaped d = true then (ds.findIdx? fun z => PyData.eqv z d).map fun j => .fr (.int (j : Nat)) else none
    | _, _ => none
  | _, _ => none
theorem j_index : RMJ X (rIndexD X.K) gIndex := by
  intro Z F ρ μ δ σ H x xs dx ds s Q S bx bs e q
  unfold gIndex at e
  split at e
  · rename_i ys y
    cases e1 : D.pys ys with
    | none => simp only [e1] at e; cases e
    | some ps =>
      cases e2 : D.py y with
      | none => simp only [e1, e2] at e; cases e
      | some pd =>
        simp only [e1, e2] at e
        by_cases hc : SeqAt.shaped (.list ps) = true ∧ SeqAt.shaped pd = true
        · rw [if_pos hc] at e
          obtain ⟨j, f1, f2⟩ := Option.map_eq_some_iff.mp e
          subst f2
          obtain ⟨v, rfl, bv⟩ := bs.one
          obtain ⟨hj, g1, g2⟩ := List.findIdx?_eq_some_iff_getElem.mp f1
          have dl : Dp X.K H x (.list ps) := Bor.dp S bx (by simp only [D.py, e1]; rfl)
          obtain ⟨a, vs, rfl, _⟩ := bx.lst S
          exact ⟨a, v, pd, ps, j, ps[j], rfl, rfl, dl, Bor.dp S bv e2, hc.1, hc.2, List.getElem?_eq_getElem hj, g1, fun m z' hm hz => by
            obtain ⟨h1, h2⟩ := List.getElem?_eq_some_iff.mp hz
            have := g2 m hm
            rw [h2] at this
            simpa using this, q _ H F .refl S ⟨.int, fun o p z => by cases z⟩⟩
        · rw [if_neg hc] at e; cases e
  · cases e
end
end FL

/-! Part X: sorted rows by values, items(), dict comprehensions. -/
namespace FL
open PySem PySem.Spec PyProof.Rows L2

section
variable {X : Cx} {W : WX} {e : Expr} {pos : Pos}
theorem perm_back {α β : Type} {f : α → β} : ∀ {ys : List β} {l : List α}, ys.Perm (l.map f) → ∃ l' : List α, List.Perm l' l ∧ List.map f l' = ys := by
  have key : ∀ {ys zs : List β}, ys.Perm zs → ∀ {l : List α}, zs = l.map f → ∃ l' : List α, List.Perm l' l ∧ List.map f l' = ys := by
    intro ys zs h
    induction h with
    | nil =>
      intro l e
      cases l with
      | nil => exact ⟨[], .refl _, rfl⟩
      | cons _ _ => cases e
    | cons x _ ih =>
      intro l e
      cases l with
      | nil => cases e
      | cons a l =>
        rw [List.map_cons] at e
        injection e with e1 e2
        obtain ⟨l', p, q⟩ := ih e2
        exact ⟨a :: l', p.cons a, by rw [List.map_cons, q, e1]⟩
    | swap x y r =>
      intro l e
      cases l with
      | nil => cases e
      | cons a l =>
        cases l with
        | nil => cases e
        | cons b l =>
          rw [List.map_cons, List.map_cons] at e
          injection e with e1 e2
          injection e2 with e2 e3
          exact ⟨b :: a :: l, List.Perm.swap a b l, by rw [List.map_cons, List.map_cons, e1, e2, e3]⟩
    | trans _ _ ih1 ih2 =>
      intro l e
      obtain ⟨l1, p1, q1⟩ := ih2 e
      obtain ⟨l2, p2, q2⟩ := ih1 q1.symm
      exact ⟨l2, p2.trans p1, q2⟩
  intro ys l h
  exact key h rfl
/-- sorted(xs), each row with its first number -/
def rSortZ (K : PySem.W.Frag) : List V → Hp → VK → Prop := fun vs H Q => ∃ (a : Addr) (zs : List (V × Int)), vs = [V.ref a] ∧ SqL K H a (zs.map (·.1)) ∧ (∀ z ∈ zs, ∃ t r, z.1 = V.ref t ∧ SqT K H t (.int z.2 :: r)) ∧ (zs.map (·.2)).Nodup ∧
  ∀ (ys : List (V × Int)) (p : Addr), ys.Perm zs → ys.Pairwise (fun x y => x.2 ≤ y.2) → H p = none → Q (.ref p) (upd H p (.lst (ys.map (·.1))))
theorem cr_sortZ : CallR X (.builtin "sorted") (rSortZ X.K) := by
  intro pins s σ H vs us Q I r h
  obtain ⟨a, zs, rfl, hs, hz, hn, q⟩ := h
  have uniq : ∀ z ∈ zs, ∀ y ∈ zs, z.1 = y.1 → z.2 = y.2 := fun z h1 y h2 e => by
    obtain ⟨t, r1, e1, q1⟩ := hz z h1
    obtain ⟨t2, r2, e2, q2⟩ := hz y h2
    rw [e1, e2] at e
    cases e
    have := I.tuple_inj q1 q2
    injection this with h3 _
    exact V.int.inj h3
  obtain ⟨key, hk⟩ : ∃ key : V → Int, ∀ z ∈ zs, key z.1 = z.2 := by
    classical
    refine ⟨fun x => if h : ∃ z ∈ zs, z.1 = x then (Classical.choose h).2 else 0, fun z h1 => ?_⟩
    have ex : ∃ y ∈ zs, y.1 = z.1 := ⟨z, h1, rfl⟩
    show (if h : ∃ y ∈ zs, y.1 = z.1 then (Classical.choose h).2 else 0) = z.2
    rw [dif_pos ex]
    obtain ⟨h2, h3⟩ := Classical.choose_spec ex
    exact uniq _ h2 z h1 h3
  have back : ∀ y ∈ zs.map (·.1), (y, key y) ∈ zs := fun y hy => by
    obtain ⟨z, h1, h2⟩ := List.mem_map.mp hy
    rw [← h2, hk z h1]
    exact h1
  have pairs : (zs.map (·.1)).map (fun y => (y, key y)) = zs := by
    rw [List.map_map]
    refine (List.map_congr_left fun z h1 => ?_).trans (List.map_id _)
    show (z.1, key z.1) = z
    rw [hk z h1]
  have inj2 : ∀ z ∈ zs, ∀ y ∈ zs, z.2 = y.2 → z = y := by
    have gen : ∀ l : List (V × Int), (l.map (·.2)).Nodup → ∀ z ∈ l, ∀ y ∈ l, z.2 = y.2 → z = y := by
      intro l
      induction l with
      | nil => intro _ z h; cases h
      | cons w l ih =>
        intro hn z h1 y h2 e
        rw [List.map_cons, List.nodup_cons] at hn
        rcases List.mem_cons.mp h1 with z1 | g1 <;> rcases List.mem_cons.mp h2 with z2 | g2
        · rw [z1, z2]
        · exact absurd (List.mem_map.mpr ⟨y, g2, by rw [← e, z1]⟩) hn.1
        · exact absurd (List.mem_map.mpr ⟨z, g1, by rw [e, z2]⟩) hn.1
        · exact ih hn.2 z g1 y g2 e
    exact gen zs hn
  refine cr_sortRows pins s σ H [V.ref a] us Q I r ⟨a, zs.map (·.1), key, rfl, hs, fun x hx => ?_, fun x hx y hy he => ?_, fun ys p h1 h2 h3 => ?_⟩
  · obtain ⟨t, r, e1, e2⟩ := hz _ (back x hx)
    exact ⟨t, r, e1, e2⟩
  · have := inj2 _ (back x hx) _ (back y hy) he
    exact congrArg (·.1) this
  · have := q (ys.map fun y => (y, key y)) p (by
      have := h2.map fun y => (y, key y)
      rw [pairs] at this
      exact this) (List.pairwise_map.mpr h1) h3
    rw [List.map_map] at this
    rwa [show ys.map ((·.1) ∘ fun y => (y, key y)) = ys from List.map_id ys] at this
def keyD : D → Int
  | .tup (.int k :: _) => k
  | _ => 0
def rowB : D → Bool
  | .tup (.int _ :: _) => true
  | _ => false
def leD (a b : D) : Bool := decide (keyD a ≤ keyD b)
def gSorted : List D → Option Slot
  | [.lst xs] => if (xs.all rowB && decide (xs.map keyD).Nodup) = true then some (.own (.lst (xs.mergeSort leD))) else none
  | _ => none
theorem rep_zip {F : Hp} {ρ : List Addr} : ∀ {vs : List V} {ds : List D}, RepL X.K X.mg F ρ vs ds → ∀ p ∈ vs.zip ds, Rep X.K X.mg F ρ p.1 p.2
  | _, _, .nil, p, h => by cases h
  | _, _, .cons h t, p, hp => by
    rcases List.mem_cons.mp hp with rfl | hp
    · exact h
    · exact rep_zip t p hp
theorem rep_unzip {F : Hp} {ρ : List Addr} : ∀ {l : List (V × D)}, (∀ p ∈ l, Rep X.K X.mg F ρ p.1 p.2) → RepL X.K X.mg F ρ (l.map (·.1)) (l.map (·.2))
  | [], _ => .nil
  | p :: l, h => .cons (h p (List.mem_cons_self ..)) (rep_unzip fun q hq => h q (List.mem_cons_of_mem _ hq))
theorem sort_uniq {xs ys : List D} (hn : (xs.map keyD).Nodup) (hp : ys.Perm xs) (h : ys.Pairwise fun a b => keyD a ≤ keyD b) : ys = xs.mergeSort leD := by
  have inj : ∀ a ∈ xs, ∀ b ∈ xs, keyD a = keyD b → a = b := by
    have gen : ∀ l : List D, (l.map keyD).Nodup → ∀ z ∈ l, ∀ y ∈ l, keyD z = keyD y → z = y := by
      intro l
      induction l with
      | nil => intro _ z h; cases h
      | cons w l ih =>
        intro hn z h1 y h2 e
        rw [List.map_cons, List.nodup_cons] at hn
        rcases List.mem_cons.mp h1 with z1 | g1 <;> rcases List.mem_cons.mp h2 with z2 | g2
        · rw [z1, z2]
        · exact absurd (List.mem_map.mpr ⟨y, g2, by rw [← e, z1]⟩) hn.1
        · exact absurd (List.mem_map.mpr ⟨z, g1, by rw [e, z2]⟩) hn.1
        · exact ih hn.2 z g1 y g2 e
    exact gen xs hn
  have h2 : (xs.mergeSort leD).Pairwise fun a b => keyD a ≤ keyD b := by
    have := List.pairwise_mergeSort (le := leD) (fun a b c h1 h2 => by
      have h1 := of_decide_eq_true h1
      have h2 := of_decide_eq_true h2
      exact decide_eq_true (by omega)) (fun a b => by
      unfold leD
      by_cases h : keyD a ≤ keyD b
      · simp [h]
      · have : keyD b ≤ keyD a := by omega
        simp [this]) xs
    exact this.imp fun {a b} h => of_decide_eq_true h
  have pm : ys.Perm (xs.mergeSort leD) := hp.trans (List.mergeSort_perm xs leD).symm
  exact pm.eq_of_pairwise (le := fun a b => keyD a ≤ keyD b) (fun a b ha hb h1 h2 => inj a (hp.mem_iff.mp ha) b ((List.mergeSort_perm xs leD).mem_iff.mp hb) (by omega)) h h2
theorem j_sorted : RLJ X (rSortZ X.K) gSorted := by
  intro Z F ρ μ δ σ H xs ds s Q S bs e q
  unfold gSorted at e
  split at e
  · rename_i ys
    by_cases hc : (ys.all rowB && decide (ys.map keyD).Nodup) = true
    · rw [if_pos hc] at e
      cases e
      obtain ⟨c1, c2⟩ := Bool.and_eq_true_iff.mp hc
      have hn := of_decide_eq_true c2
      obtain ⟨v, rfl, bv⟩ := bs.one
      obtain ⟨a, vs, rfl, hH, rl⟩ := bv.lst S
      have hl := rl.len
      have zf : ((vs.zip ys).map fun p => (p.1, keyD p.2)).map (·.1) = vs := by
        rw [List.map_map]
        show (vs.zip ys).map Prod.fst = vs
        exact List.map_fst_zip (by omega)
      have zs : ((vs.zip ys).map fun p => (p.1, keyD p.2)).map (·.2) = ys.map keyD := by
        rw [List.map_map]
        show (vs.zip ys).map (keyD ∘ Prod.snd) = _
        rw [← List.map_map, List.map_snd_zip (by omega)]
      refine ⟨a, (vs.zip ys).map fun p => (p.1, keyD p.2), rfl, by rw [zf]; exact .of hH, fun z hz => ?_, by rw [zs]; exact hn, fun zz p h1 h2 h3 => ?_⟩
      · obtain ⟨w, hw, rfl⟩ := List.mem_map.mp hz
        have rw1 := rep_zip rl w hw
        have hb : rowB w.2 = true := List.all_eq_true.mp c1 _ (List.of_mem_zip hw).2
        obtain ⟨x, d⟩ := w
        simp only at rw1 hb ⊢
        unfold rowB at hb
        split at hb
        · cases rw1 with
          | @tup t us _ ht rt =>
            cases rt with
            | cons hi tl =>
              cases hi
              exact ⟨t, _, rfl, ht.elim (fun h => .inl (S.rd h)) .inr⟩
        · cases hb
      · obtain ⟨l', p1, p2⟩ := perm_back h1
        have r' := rep_unzip (X := X) (F := F) (ρ := ρ) (l := l') fun w hw => rep_zip rl w (p1.mem_iff.mp hw)
        have ez : zz.map (·.1) = l'.map (·.1) := by rw [← p2, List.map_map]; rfl
        have ed : l'.map (·.2) = ys.mergeSort leD := by
          refine sort_uniq hn ?_ ?_
          · have := p1.map (·.2)
            rwa [show (vs.zip ys).map (·.2) = ys from List.map_snd_zip (by omega)] at this
          · rw [← p2] at h2
            have h2' := List.pairwise_map.mp h2
            exact List.pairwise_map.mpr (h2'.imp fun {x y} h => h)
        rw [ed] at r'
        rw [ez]
        obtain ⟨S2, vr⟩ := vr_newL S h3 r'
        exact q _ _ F .refl S2 vr
    · rw [if_neg hc] at e; cases e
  · cases e
/-! ### items() of an owned dict: it is locked -/
def tLockD (td : TE) : TE := fun σ H Q => td σ H fun x H1 => ∃ d kvs, x = .ref d ∧ H1 d = some (.dK kvs) ∧ ∀ o H2, H2 d = some (.frz o (.dK kvs)) → (∀ b, b ≠ d → H2 b = H1 b) → Q x H2
theorem pe_lockD {td : TE} (he : PE X e td) : PE X e (tLockD td) := by
  refine ⟨fun pins s σ H Q I h => ?_⟩
  refine wpAny_mono (he.run pins s σ H _ I h) (fun u s1 ⟨x, H1, I1, r, d, kvs, ex, hd, q⟩ => ?_) fun _ _ z => z
  obtain ⟨od, J⟩ := I1.lock hd True.intro
  exact ⟨x, _, J, r, q od _ upd_same fun b hb => upd_ne hb⟩
def itemsD (kds : List (DK × D)) : List D := kds.map fun p => .tup [p.1.d, p.2]
def mItems (i : Nat) : MM (List D) := fun δ μ => match δ[i]? with
  | some (some (.own (.dct ks ds))) => .ok (itemsD (ks.zip ds)) (δ.set i (some (.fr (.dct ks ds)))) μ
  | _ => .bad
theorem KV.at {K : PySem.W.Frag} {mg : Str → Option Value} {F : Hp} {ρ : List Addr} : ∀ {kvs : List (Key × V)} {kds : List (DK × D)} {i : Nat} {p : DK × D}, KV K mg F ρ kvs kds → kds[i]? = some p → ∃ v, kvs[i]? = some (p.1.key, v) ∧ Rep K mg F ρ v p.2
  | _, _, _, _, .nil, e => by simp at e
  | _, _, 0, _, .cons h t, e => by simp at e; subst e; exact ⟨_, rfl, h⟩
  | _, _, i + 1, _, .cons h t, e => by
    obtain ⟨v, h1, h2⟩ := KV.at (i := i) t (by simpa using e)
    exact ⟨v, by simpa using h1, h2⟩
theorem rep_key {K : PySem.W.Frag} {mg : Str → Option Value} {F : Hp} {ρ : List Addr} (k : DK) : Rep K mg F ρ (kV k.key) k.d := by
  cases k with
  | i n => exact .int
  | s x => exact .str
theorem itr_items {F : Hp} {ρ : List Addr} {d : Addr} {o : Obj} {kvs : List (Key × V)} {kds : List (DK × D)} (hF : F d = some (.frz o (.dK kvs))) (r : KV X.K X.mg F ρ kvs kds) : ItR X F ρ (Iti d o kvs) (itemsD kds) := by
  intro Z' F' ρ' μ δ σ H i to tr S
  have q : H d = some (.frz o (.dK kvs)) := by
    rcases S.le _ _ (to _ _ hF) with z | ⟨_, _, z, _⟩
    · exact z
    · cases z
  obtain ⟨_, _, hl⟩ := r.back
  refine ⟨fun h => ⟨q, by rw [hl]; simpa [itemsD] using h⟩, fun x hx => ?_⟩
  unfold itemsD at hx
  rw [List.getElem?_map] at hx
  obtain ⟨p, e1, rfl⟩ := Option.map_eq_some_iff.mp hx
  obtain ⟨v, e2, rv⟩ := r.at e1
  refine ⟨⟨q, (List.getElem?_eq_some_iff.mp e2).1⟩, fun y H' ⟨T, k, w, e3, ey, hT, eH⟩ => ?_⟩
  subst ey
  subst eH
  rw [e2] at e3
  cases e3
  exact new_pair S hT (rep_key p.1) (rv.up to tr)
theorem Sim.lockItems {K : PySem.W.Frag} {mg : Str → Option Value} {Z F H H2 : Hp} {ρ : List Addr} {μ : Mem} {δ : Loc} {σ : L2.St} {i : Nat} {p : Addr} {ks : List DK} {ds : List D} {o : Obj} {kvs : List (Key × V)} (S : Sim K mg Z F ρ μ δ σ H) (e : δ[i]? = some (some (.own (.dct ks ds)))) (hp : σ[i]? = some (some (.ref p)))
    (kv : KV K mg F ρ kvs (ks.zip ds)) (hn : ks.length = ds.length) (h2 : H2 p = some (.frz o (.dK kvs))) (hk : ∀ b, b ≠ p → H2 b = H b) :
    ∃ F2, Le Z F F2 ∧ F2 p = some (.frz o (.dK kvs)) ∧ KV K mg F2 ρ kvs (ks.zip ds) ∧ Sim K mg Z F2 ρ μ (δ.set i (some (.fr (.dct ks ds)))) σ H2 := by
  obtain ⟨v, ev, p', rfl, fr, ow⟩ := S.slot i _ e
  rw [hp] at ev
  cases ev
  have hi : i < δ.length := (List.getElem?_eq_some_iff.mp e).1
  have same : σ.set i (some (.ref p)) = σ := by
    apply List.ext_getElem?
    intro j
    by_cases z : j = i
    · subst z
      rw [List.getElem?_set_self (by rw [S.len]; exact hi), hp]
    · rw [List.getElem?_set_ne (Ne.symm z)]
  have S1 : Sim K mg Z F ρ μ (δ.set i none) σ H := by
    have := S.forget (i := i) (x := some (.ref p))
    rwa [same] at this
  have none_at : ∀ (j : Nat) s, (δ.set i none)[j]? = some (some (.own s)) → σ[j]? ≠ some (some (.ref p)) := fun j s e1 e2 => by
    by_cases z : j = i
    · subst z
      rw [List.getElem?_set_self hi] at e1
      cases e1
    · rw [List.getElem?_set_ne (Ne.symm z)] at e1
      exact z (S.apart j i p s _ e1 e e2 hp)
  have S2 : Sim K mg Z F ρ μ (δ.set i none) σ H2 := S1.heap hk fr.f fr.z fr.r none_at
  obtain ⟨l, S3⟩ := S2.freeze h2 fr none_at
  refine ⟨_, l, upd_same, kv.up l.to fun _ _ h => h, ?_⟩
  have kv2 := kv.up (ρ' := ρ) l.to fun _ _ h => h
  obtain ⟨b1, b2, b3⟩ := kv2.back
  have rp : Rep K mg (upd F p (.frz o (.dK kvs))) ρ (.ref p) (.dct ks ds) := by
    have f1 : (ks.zip ds).map (·.1) = ks := List.map_fst_zip (by omega)
    have f2 : (ks.zip ds).map (·.2) = ds := List.map_snd_zip (by omega)
    rw [f2] at b2
    rw [f1] at b1
    exact .dct (.inr ⟨o, by rw [upd_same, ← b1]⟩) (by rw [hn, ← b2.len]) b2
  have S4 := S3.store (i := i) (v := .ref p) (s := .fr (.dct ks ds)) ⟨rp, fun o p z => by cases z⟩ (by simpa using hi)
  rw [same, List.set_set] at S4
  exact S4
theorem ji_items {i : Nat} {elts : List Expr} {kk : Nat} {tpos apos cpos : Pos} (hv : PE X e (tVar i)) (hbase : attributeBase e "items" X.env (eval e X.env) = eval e X.env := by rfl) (hline : (apos.endLine == cpos.line) = true := by rfl) :
    JI X W (.Tuple elts kk tpos) (.Call (.Attribute e "items" apos) [] [] cpos) (mItems i) := by
  refine (pi_items (pe_lockD hv) hbase hline).imp fun σ H R ⟨Z, F, ρ, μ, δ, S, q⟩ => ?_
  unfold mItems at q
  cases e1 : δ[i]? with
  | none => simp only [e1] at q; exact q.elim
  | some so =>
    cases so with
    | none => simp only [e1] at q; exact q.elim
    | some s =>
      cases s with
      | fr d => simp only [e1] at q; exact q.elim
      | own c =>
        cases c <;> first | (simp only [e1] at q; exact q.elim) | skip
        rename_i ks ds
        simp only [e1] at q
        obtain ⟨v, ev, p, rfl, fr, ow⟩ := S.slot i _ e1
        obtain ⟨vs, hH, hn, rl⟩ := id ow
        obtain ⟨kvs, hH2, kv⟩ := own_kv ow
        refine ⟨.ref p, ev, p, kvs, rfl, hH2, fun o H2 h1 h2 => ?_⟩
        obtain ⟨F2, l2, hF2, kv2, S2⟩ := S.lockItems e1 ev kv (by rw [hn, rl.len]) h1 h2
        exact ⟨p, o, kvs, rfl, h1, q H2 F2 ρ l2 .refl S2 _ (itr_items hF2 kv2)⟩
/-! ### dict comprehensions -/
def dcD (f : TgF) (tests : MT) (kx vx : ME) (vs : List Nat) : List D → List (DK × D) → ME
  | [], acc => fun δ μ => .ok (.own (dctO acc)) δ μ
  | d :: ds, acc => fun δ μ => match f d δ with
    | none => .bad
    | some δ' => (tests δ' μ).cut.bind fun b δ2 μ2 => if b = true then (kx δ2 μ2).cut.bind fun s δ3 μ3 => (vx δ3 μ3).cut.bind fun t δ4 μ4 => match dkey s.d with
        | some k => if acc.length < 16777216 then dcD f tests kx vx vs ds (putA acc k t.d) (wipeD δ4 vs) μ4 else .bad
        | none => .bad
      else dcD f tests kx vx vs ds acc (wipeD δ2 vs) μ2
def mDc (mi : MM (List D)) (f : TgF) (tests : MT) (kx vx : ME) (vs : List Nat) : ME := fun δ μ => (mi δ μ).bind fun ds δ1 μ1 => dcD f tests kx vx vs ds [] (wipeD δ1 vs) μ1
theorem wipe_own {vs : List Nat} {δ : Loc} {i : Nat} {c : Own} : (wipeD δ vs)[i]? = some (some (.own c)) → δ[i]? = some (some (.own c)) := by
  induction vs with
  | nil => exact id
  | cons v vs ih =>
    intro h
    have hn := wipeD_in h
    unfold wipeD at h
    rw [List.getElem?_set_ne (fun z => hn (by simp [z]))] at h
    exact ih h
theorem dc_read {mi : MM (List D)} {f : TgF} {tests : MT} {kx vx : ME} {vs is : List Nat} {B : Cx} (hK : B.K = X.K) (hm : B.mg = X.mg) (hsub : ∀ j ∈ is, j ∈ vs) : ∀ σ H Q, rdE X W (mDc mi f tests kx vx vs) σ H Q → tDc (rdI X W mi) (rdG X f is) (rdT B W0 tests) (rdE B W0 kx) (rdE B W0 vx) vs σ H Q := by
  intro σ H Q ⟨Z, F, ρ, μ, δ, S, q⟩
  refine ⟨Z, F, ρ, μ, δ, S, (FinE.bind q).imp fun ds δ1 μ1 H1 F1 ρ1 l lr S1 ⟨_, _, _, p⟩ J hJ A hA => ?_⟩
  obtain ⟨n1, n2, n3, n4⟩ := S1.notIn hA
  let P : Slot → Loc → Mem → Hp → List Addr → Hp → Prop := fun s δ' _ F' ρ' H' => ∀ v, VR X.K X.mg Z F' ρ' δ' σ H' v s → Q v H'
  let Wd : Nat → Nat → Hp → Prop := fun i k H => k = ds.length - i ∧ i ≤ ds.length ∧ ∃ F' ρ' μ δ kvs acc, (∀ p o, F1 p = some o → F' p = some o) ∧ (∀ (k : Nat) p, ρ1[k]? = some p → ρ'[k]? = some p) ∧ Sim X.K X.mg Z F' ρ' μ (wipeD δ vs) (L2.wipe σ vs) H ∧
    Free Z F' ρ' A ∧ (∀ (i : Nat) s, (wipeD δ vs)[i]? = some (some (.own s)) → (L2.wipe σ vs)[i]? ≠ some (some (.ref A))) ∧ H A = some (.dK kvs) ∧ KV X.K X.mg F' ρ' kvs acc ∧ FinE X W Z F' ρ' σ P (dcD f tests kx vx vs (ds.drop i) acc (wipeD δ vs) μ)
  have wout : ∀ {δ : Loc} {s : Slot} (i : Nat), (wipeD δ vs)[i]? = some (some s) → (L2.wipe σ vs)[i]? = σ[i]? := fun i h => wipe_out (wipeD_in h)
  have Sw := (S1.laid (o := .dK []) hA).wipe vs
  refine ⟨Wd, ⟨ds.length, by simp, Nat.zero_le _, F1, ρ1, μ1, δ1, [], [], fun _ _ h => h, fun _ _ h => h, Sw, ⟨n1, n2, n3⟩, fun i s e1 e2 => ?_, upd_same, .nil, by rw [List.drop_zero]; exact p⟩, ?_⟩
  · have e4 := wout i e1
    rw [e2] at e4
    exact n4 i s (wipe_own e1) e4.symm
  rintro i k H2 ⟨rfl, hle, F2, ρ2, μ2, δ2, kvs, acc, to, tr, S2, fA, nA, hL, kv, p2⟩
  obtain ⟨j1, j2⟩ := hJ Z F2 ρ2 μ2 _ _ H2 i to tr S2
  by_cases hlt : i < ds.length
  · refine .inr ?_
    have hd : ds.drop i = ds[i] :: ds.drop (i + 1) := List.drop_eq_getElem_cons hlt
    have SG := S2.guard hL fA nA
    obtain ⟨go, yl⟩ := hJ (upd Z A (.dK kvs)) F2 ρ2 μ2 _ _ H2 i to tr SG |>.2 ds[i] (List.getElem?_eq_getElem hlt)
    refine ⟨go, fun H' => Wd (i + 1) (ds.length - (i + 1)) H', fun H' w => ⟨ds.length - (i + 1), by omega, w⟩, fun x H' y => ?_⟩
    obtain ⟨F3, l3, S3, r3⟩ := yl x H' y
    rw [hd] at p2
    unfold dcD at p2
    cases ef : f ds[i] (wipeD δ2 vs) with
    | none => simp only [ef] at p2; exact p2.elim
    | some δ3 =>
      simp only [ef] at p2
      refine ⟨_, F3, ρ2, μ2, _, _, S3, r3, δ3, ef, fun σ4 hσ hl4 S4 => ?_⟩
      have ws : L2.wipe σ4 vs = L2.wipe σ vs := by
        have h1 := wipe_same (σ := L2.wipe σ vs) (σ' := σ4) hl4 (vs := vs) fun j hj => hσ j fun z => hj (hsub j z)
        rw [h1]
        exact wipe_same (wipe_length _ _) fun j hj => wipe_out hj
      refine ⟨by rw [ws, wipe_same (σ := σ) (σ' := σ) rfl fun _ _ => rfl], ?_⟩
      refine ⟨_, F3, ρ2, μ2, δ3, by rw [hK, hm]; exact S4, (FinE.cut (p := A) (o := .dK kvs) hK hm (p2.mono l3.unguard .refl)).imp fun b δ5 μ5 H5 F5 ρ5 l5 lr5 _ ⟨S5, l5', lr5', p5⟩ => ?_⟩
      have fin : ∀ {F6 : Hp} {ρ6 : List Addr} {μ6 : Mem} {δ6 : Loc} {H6 H7 : Hp} {kvs' : List (Key × V)} {acc' : List (DK × D)}, Sim X.K X.mg (upd Z A (.dK kvs)) F6 ρ6 μ6 δ6 σ4 H6 → Le (upd Z A (.dK kvs)) F3 F6 → LeR (upd Z A (.dK kvs)) ρ2 ρ6 →
          (∀ a, a ≠ A → H7 a = H6 a) → H7 A = some (.dK kvs') → KV X.K X.mg F6 ρ6 kvs' acc' → FinE X W Z F6 ρ6 σ P (dcD f tests kx vx vs (ds.drop (i + 1)) acc' (wipeD δ6 vs) μ6) → Wd (i + 1) (ds.length - (i + 1)) H7 := by
        intro F6 ρ6 μ6 δ6 H6 H7 kvs' acc' S6 l6 lr6 hne hA7 kv' p6
        have fA6 : Free Z F6 ρ6 A := (fA.on l3 .refl).on l6 lr6
        have S8 := ((S6.unguard fA.z).heap hne fA6.f fA6.z fA6.r S6.guardNo).wipe vs
        rw [ws] at S8
        refine ⟨rfl, hlt, F6, ρ6, μ6, δ6, kvs', acc', fun p o h => l6.to p o (l3.to p o (to p o h)), fun k p h => lr6.to k p (tr k p h), S8, fA6, fun i' s e1 e2 => ?_, hA7, kv', p6⟩
        have e4 : (L2.wipe σ4 vs)[i']? = σ4[i']? := wipe_out (wipeD_in e1)
        rw [ws, e2] at e4
        exact S6.guardNo i' s (wipe_own e1) e4.symm
      cases b with
      | false =>
        simp only [if_neg Bool.false_ne_true] at p5 ⊢
        exact fin S5 l5' lr5' (fun _ _ => rfl) S5.guarded (kv.up (fun p o h => l5'.to p o (l3.to p o h)) lr5'.to) p5
      | true =>
        simp only [if_true] at p5 ⊢
        refine ⟨_, F5, ρ5, μ5, δ5, by rw [hK, hm]; exact S5, (FinE.cut (p := A) (o := .dK kvs) hK hm p5).imp fun s δ6 μ6 H6 F6 ρ6 l6 lr6 _ ⟨S6, l6', lr6', p6⟩ v vr => ?_⟩
        rw [hK, hm] at vr
        refine ⟨_, F6, ρ6, μ6, δ6, by rw [hK, hm]; exact S6, (FinE.cut (p := A) (o := .dK kvs) hK hm p6).imp fun t δ7 μ7 H7 F7 ρ7 l7 lr7 _ ⟨S7, l7', lr7', p7⟩ u ur => ?_⟩
        rw [hK, hm] at ur
        cases ek : dkey s.d with
        | none => simp only [ek] at p7; exact p7.elim
        | some k =>
          simp only [ek] at p7
          have ev : v = kV k.key := by
            have r := vr.r
            cases s with
            | fr d => exact key_rep r ek
            | own c => cases c <;> cases ek
          obtain ⟨F8, l8, S8, r8⟩ := S7.lock ur
          by_cases hz : acc.length < 16777216
          · rw [if_pos hz] at p7
            have kv8 := kv.up (fun p o h => l8.to p o (l7'.to p o (l6'.to p o (l5'.to p o (l3.to p o h))))) (ρ' := ρ7) fun k p h => lr7'.to k p (lr6'.to k p (lr5'.to k p h))
            obtain ⟨_, _, hlen⟩ := kv.back
            refine ⟨kvs, k.key, ev, S8.guarded, by rw [hlen, line_eq]; exact hz, ?_⟩
            exact fin S8 (((l5'.trans l6').trans l7').trans l8) ((lr5'.trans lr6').trans lr7') (fun a ne => upd_ne ne) upd_same (kv8.put r8) (p7.mono l8.unguard .refl)
          · rw [if_neg hz] at p7; exact p7.elim
  · have e : i = ds.length := by omega
    subst e
    rw [List.drop_length] at p2
    refine .inl ⟨j1 (Nat.le_refl _), ?_⟩
    have S3 : Sim X.K X.mg Z F2 ρ2 μ2 (wipeD δ2 vs) σ H2 := S2.agree (wipe_length _ _).symm fun i s e => (wout i e).symm
    exact p2 H2 F2 ρ2 .refl .refl S3 (.ref A) ⟨⟨A, rfl, fA, kv_own kv hL⟩, fun o p z1 z2 i o' e1 e2 => by
      cases z2
      exact nA i o' e1 (by rw [wout i e1]; exact e2)⟩
theorem je_dc {kx vx tg iter : Expr} {ifs : List Expr} {scope : Scope} {own : List (Str × Nat)} {mi : MM (List D)} {f : TgF} {is : List Nat} {tests : MT} {mk mv : ME} (hc : X.calm = true) (hN : X.N.Nodup) (hi : JI X W tg iter mi) (ok : BlkOk X.N X.env.scope scope own)
    (hg : ∀ (s : Shared) (H : Hp) (C : Addr) (cl : List (Str × Addr)) (fp : List Addr), JG (X.blk s H scope (compEnvC scope cl C X.env) fp) tg f is) (ht : ∀ (s : Shared) (H : Hp) (C : Addr) (cl : List (Str × Addr)) (fp : List Addr), JTs (X.blk s H scope (compEnvC scope cl C X.env) fp) W0 ifs tests)
    (hk : ∀ (s : Shared) (H : Hp) (C : Addr) (cl : List (Str × Addr)) (fp : List Addr), JE (X.blk s H scope (compEnvC scope cl C X.env) fp) W0 kx mk) (hv : ∀ (s : Shared) (H : Hp) (C : Addr) (cl : List (Str × Addr)) (fp : List Addr), JE (X.blk s H scope (compEnvC scope cl C X.env) fp) W0 vx mv)
    (hsub : ∀ j ∈ is, j ∈ own.map (·.2)) (hs : ∀ x, foldedSetIterable iter X.env x = pure x := by intro _; rfl) : JE X W (.DictComp kx vx [⟨tg, iter, ifs, 0⟩] scope pos) (mDc mi f tests mk mv (own.map (·.2))) :=
  (pe_dc (g := rdG X f is) (tt := rdT X W0 tests) (tk := rdE X W0 mk) (tv := rdE X W0 mv) hc hN hi ok hg ht hk hv hs).imp (dc_read (B := X) rfl rfl hsub)
theorem Cs.dc {k : Nat} {N : List Str} {sc : Scope} {kx vx tg iter : Expr} {ifs : List Expr} {scope : Scope} {mi : MM (List D)} {f : TgF} {is : List Nat} {tests : MT} {mk mv : ME} {Tx : Program → World → PySem.W.Frag → (Str → Option Value) → Heap → Prop} (C : Cs X W k N sc) (T : Tx X.prog X.w X.K X.mg X.base) (own : List (Str × Nat)) (hi : JI X W tg iter mi) (ok : blkC N sc scope own = true)
    (hb : ∀ (Y : Cx), Tx Y.prog Y.w Y.K Y.mg Y.base → Cs Y W0 k N (relS scope sc) → JG Y tg f is ∧ JTs Y W0 ifs tests ∧ JE Y W0 kx mk ∧ JE Y W0 vx mv) (hsub : (is.all fun j => (own.map (·.2)).contains j) = true) (hs : ∀ x, foldedSetIterable iter X.env x = pure x := by intro _; rfl) :
    JE X W (.DictComp kx vx [⟨tg, iter, ifs, 0⟩] scope pos) (mDc mi f tests mk mv (own.map (·.2))) := by
  have at_ := fun s H c cl fp => hb (X.blk s H scope (compEnvC scope cl c X.env) fp) T (C.blk scope s H c cl fp)
  exact je_dc C.calm (by rw [C.hN]; exact C.nd) hi (by rw [C.hN, C.hsc]; exact blkOk_by ok) (fun s H c cl fp => (at_ s H c cl fp).1) (fun s H c cl fp => (at_ s H c cl fp).2.1) (fun s H c cl fp => (at_ s H c cl fp).2.2.1) (fun s H c cl fp => (at_ s H c cl fp).2.2.2) (fun j hj => by simpa using List.all_eq_true.mp hsub j hj) hs
/-! ### list(text) -/
abbrev rListS : List V → Hp → VK → Prop := fun xs H Q => ∃ x : Tx, xs = [.str (toS x)] ∧ x.length ≤ sizeLine ∧ ∀ p, H p = none → Q (.ref p) (upd H p (.lst (x.map fun c => V.str (toS [c]))))
theorem vals_signs : ∀ {x : Tx} {us : List Value}, us.length = x.length → (∀ (j : Nat) v, us[j]? = some v → ∃ c t, x[j]? = some c ∧ v = .str (toS [c]) t) → Vals (x.map fun c => V.str (toS [c])) us
  | [], us, h, _ => by
    cases us with
    | nil => exact .nil
    | cons _ _ => cases h
  | c :: x, us, h, hv => by
    cases us with
    | nil => cases h
    | cons u us =>
      obtain ⟨d, t, e1, e2⟩ := hv 0 u rfl
      cases e1
      exact .cons ⟨t, e2⟩ (vals_signs (by simpa using h) fun j v e => hv (j + 1) v e)
theorem cr_listS (hc : X.calm = true) : CallR X (.type "list") rListS := by
  intro pins s σ H xs us Q I r h
  obtain ⟨x, rfl, hz, q⟩ := h
  obtain ⟨u, rfl, ru⟩ := vals1 r
  obtain ⟨t, rfl⟩ := ru
  have hsz : (toS x).cps.size ≤ sizeLine := by simpa [toS] using hz
  refine call_list_str (I.ok.hd hc) (toS x) t (hn := hsz) fun h' tk acc c' kp ho ⟨ha, hv⟩ => ?_
  have vs : Vals (x.map fun c => V.str (toS [c])) acc.toList := vals_signs (by simpa [toS] using ha) fun j v e => by
    obtain ⟨c, u, h1, h2⟩ := hv j v (by simpa using e)
    exact ⟨c, u, by simpa [toS] using h1, h2⟩
  refine ⟨.ref s.heap.objs.size, _, I.laid (t' := tk) kp (Nat.le_refl _) (show ObjOk X.prog X.w _ h' _ (.lst (x.map fun c => V.str (toS [c]))) from ⟨by rw [List.length_map]; exact hz, acc.toList, c', vs, by simpa using ho⟩), rfl, q _ (I.hok.fresh (Nat.le_refl _))⟩
def gListS : List D → Option Slot
  | [.str x] => if x.length ≤ 16777216 then some (.own (.lst (x.map fun c => .str [c]))) else none
  | _ => none
theorem j_listS : RLJ X rListS gListS := by
  intro Z F ρ μ δ σ H xs ds s Q S bs e q
  unfold gListS at e
  split at e
  · rename_i x
    by_cases hz : x.length ≤ 16777216
    · rw [if_pos hz] at e
      cases e
      obtain ⟨v, rfl, bv⟩ := bs.one
      cases bv.str
      refine ⟨x, rfl, by rw [line_eq]; exact hz, fun p hp => ?_⟩
      have rl : RepL X.K X.mg F ρ (x.map fun c => V.str (toS [c])) (x.map fun c => D.str [c]) := by
        have := RepL.ofStrs (K := X.K) (mg := X.mg) (F := F) (ρ := ρ) (x.map fun c => [c])
        simpa [List.map_map, Function.comp_def] using this
      obtain ⟨S2, vr⟩ := vr_newL S hp rl
      exact q _ _ F .refl S2 vr
    · rw [if_neg hz] at e; cases e
  · cases e
def gListA : List D → Option Slot := fun x => (gList x).or (gListS x)
theorem o_listA (hc : X.calm = true) : CallR X (.type "list") (fun xs H Q => rList X.K xs H Q ∨ rListS xs H Q) := o_list.or (cr_listS hc)
theorem j_listA : RLJ X (fun xs H Q => rList X.K xs H Q ∨ rListS xs H Q) gListA := RLJ.or j_list j_listS
/-! ### names for the printed derivations -/
section
variable {k : Nat} {N : List Str} {sc : Scope} {o i value : Expr} {oo oi : Opn} {m : ME} {p p' apos cpos tpos : Pos} {es : List Expr}
theorem Cs.getD (C : Cs X W k N sc) (ha : JO X W o oo) (hb : JO X W i oi) (hs : NoSl i) : JE X W (.Subscript o i pos) (m2 gGetD oo oi) := je_getD (by have := C.hu; omega) ha hb hs
theorem Cd.setD (C : Cd X W k N sc) (he : JE X W value m) (ho : JO X W o oo) (hi : JO X W i oi) (hs : swapsWith value (some (.Subscript o i p')) pos.line X.env = pure false := by rfl) : JS X W (.Assign [.Subscript o i p'] value pos) (mSetI gSetD oo oi m) :=
  js_setD (by have := C.toCs.hu; omega) he ho hi hs
theorem popD_ (ho : JO X W o oo) (he : JE X W e m) (h1 : attributeBase o "pop" X.env (eval o X.env) = eval o X.env := by rfl)
    (h2 : ((backTo cpos (starEach [e] X.env)).all (fun x => !x.1) && (backToKw cpos (keywordEach [] X.env)).all (fun x => x.1.isSome) && decide (([e] : List Expr).length + ([] : List Keyword).length + (if ([] : List Keyword).isEmpty then 0 else 1) < 30)) = true := by rfl)
    (h3 : (apos.endLine == cpos.line) = true := by rfl) (h4 : backTo cpos (starEach [e] X.env) = [(false, eval e X.env)] := by rfl) : JE X W (.Call (.Attribute o "pop" apos) [e] [] cpos) (mPopD oo m) := je_popD ho he ⟨h1, h2, h3, h4⟩
theorem Cs.enum {elts : List Expr} {kk : Nat} (C : Cs X W k N sc) (h : glC sc "enumerate" = true) (hm : X.mg "enumerate" = none) (he : JE X W e m) (hs : starEach [e] X.env = [(false, eval e X.env)] := by rfl) : JI X W (.Tuple elts kk tpos) (.Call (.Name "enumerate" p) [e] [] pos) (mEnum m) :=
  ji_enum (C.gl h).1 hm he hs
theorem Cs.items {x : Str} {i : Nat} {elts : List Expr} {kk : Nat} (C : Cs X W k N sc) (h : varC N sc i x = true) (hbase : attributeBase (.Name x p) "items" X.env (eval (.Name x p) X.env) = eval (.Name x p) X.env := by rfl) (hline : (apos.endLine == cpos.line) = true := by rfl) :
    JI X W (.Tuple elts kk tpos) (.Call (.Attribute (.Name x p) "items" apos) [] [] cpos) (mItems i) := ji_items (C.var h) hbase hline
theorem Cs.index {os : List Opn} (C : Cs X W k N sc) (ho : JO X W o oo) (ha : JOs X W [e] os) (hbase : attributeBase o "index" X.env (eval o X.env) = eval o X.env := by rfl)
    (hline : (apos.endLine == pos.line) = true := by rfl) (hs : starEach [e] X.env = (false, eval e X.env) :: starEach [] X.env := by rfl)
    (hfew : ((backTo pos (starEach [e] X.env)).all (fun x => !x.1) && (backToKw pos (keywordEach [] X.env)).all (fun x => x.1.isSome)
      && decide ([e].length + ([] : List Keyword).length + (if ([] : List Keyword).isEmpty then 0 else 1) < 30)) = true := by rfl) : JE X W (.Call (.Attribute o "index" apos) [e] [] pos) (mM "list" gIndex oo os) :=
  je_bm (T := "list") (id := "list.index") PySem.F.plainAttrs_list PySem.F.slot_list_index PySem.F.type_list_index (mt_indexD (by have := C.rm.r.un; omega)) j_index ho ha hbase hfew hline hs rfl
theorem Cs.asgT {f : TgF} {is : List Nat} {tg : Expr} (C : Cs X W k N sc) (he : JE X W e m) (hg : JG X tg f is) (hw : ∀ env : Env, env.scope = sc → swappedStores [tg] e env = pure none) (hs : swapsWithSole [tg] e pos.line X.env = pure false := by rfl)
    (h1 : (assignEach [tg] X.env).map (·.2) = [assign tg X.env] := by rfl) : JS X W (.Assign [tg] e pos) (mAsg f m) := js_asg he hg hs (hw X.env C.hsc) h1
end
end
end FL

/-! Part S: the source of draws that all laws share, in plain words. -/
namespace FL
open PySem L2

noncomputable def bSource : MS := (mSeq (mSet 2 (mIf (mTb (m2 (gEq true) (.v 0) (.e (mLst [])))) (m2 gIxL (.v 0) (.e (m2 gMod (.v 1) (.e (mC gLen [(.v 0)]))))) (mD (.int 1))))
    (mRet (mShare (mLst [(mV 2), (m2 gMulA (.e (mD (.int 3))) (.v 1)), (mIf (mTb (m2 gGe (.v 2) (.e (m2 gPow (.e (mD (.int 10))) (.e (mD (.int 18))))))) (m2 gDiv (.v 2) (.e (m2 gPow (.e (mD (.int 10))) (.e (mD (.int 18)))))) (mD (.int 0)))]))))
noncomputable def bNext : MS := (mSeq (mIfS (mTb (m2 gGt (.e (m2 gIxL (.v 0) (.e (mD (.int 2))))) (.e (mD (.int 0))))) (mSeq (mSet 2 (m2 gMod (.e (m2 gIxL (.v 0) (.e (mD (.int 2))))) (.v 1)))
    (mSeq (mSetI gSetL (.v 0) (.e (mD (.int 2))) (m2 gDiv (.e (m2 gIxL (.v 0) (.e (mD (.int 2))))) (.v 1)))
    (mRet (mV 2))))
    mPass)
    (mSeq (mSetI gSetL (.v 0) (.e (mD (.int 1))) (m2 gAdd (.e (m2 gIxL (.v 0) (.e (mD (.int 1))))) (.e (mD (.int 1)))))
    (mSeq (mSet 3 (mLst [(mD (.int 2147483647)), (mD (.int 2147483629)), (mD (.int 2147483587)), (mD (.int 2147483579)), (mD (.int 2147483563)), (mD (.int 2147483549)), (mD (.int 2147483543)), (mD (.int 2147483497))]))
    (mSeq (mSet 4 (m2 gIxL (.e (m2 gAdd (.v 3) (.e (mLst [(mD (.int 2147483489)), (mD (.int 2147483477)), (mD (.int 2147483423))])))) (.e (m2 gMod (.e (m2 gIxL (.v 0) (.e (mD (.int 1))))) (.e (mD (.int 11)))))))
    (mRet (m2 gMod (.e (m2 gDiv (.e (m2 gMod (.e (m2 gPow (.e (m2 gAdd (.e (m2 gAdd (.e (m2 gMod (.e (m2 gIxL (.v 0) (.e (mD (.int 0))))) (.v 4))) (.e (m2 gMulA (.e (mD (.int 7919))) (.e (m2 gIxL (.v 0) (.e (mD (.int 1))))))))) (.e (mD (.int 1))))) (.e (mD (.int 5))))) (.v 4))) (.e (mD (.int 13))))) (.v 1)))))))
noncomputable def mNext : MF := mFn 5 bNext
noncomputable def mSource : MF := mFn 3 bSource
noncomputable def bPick : MS := (mRet (m2 gIxL (.v 1) (.e (mCall mNext [(mV 0), (mC gLen [(.v 1)])] []))))
noncomputable def mPick : MF := mFn 2 bPick

/-- the source stands at j, at most B drawn -/
def Src (μ : Mem) (j : Nat) (B : Int) : Prop := ∃ c i g : Int, μ[j]? = some (.lst [.int c, .int i, .int g]) ∧ 0 ≤ i ∧ i ≤ B ∧ 0 ≤ g
theorem Src.mono {μ : Mem} {j : Nat} {B B' : Int} (h : Src μ j B) (hb : B ≤ B') : Src μ j B' := by
  obtain ⟨c, i, g, h1, h2, h3, h4⟩ := h
  exact ⟨c, i, g, h1, h2, by omega, h4⟩
/-- nothing but j changes -/
def Fr (j : Nat) (μ μ' : Mem) : Prop := μ'.length = μ.length ∧ ∀ k : Nat, k ≠ j → μ'[k]? = μ[k]?
theorem Fr.refl {j : Nat} {μ : Mem} : Fr j μ μ := ⟨rfl, fun _ _ => rfl⟩
theorem Fr.trans {j : Nat} {μ μ1 μ2 : Mem} (a : Fr j μ μ1) (b : Fr j μ1 μ2) : Fr j μ μ2 := ⟨b.1.trans a.1, fun k h => (b.2 k h).trans (a.2 k h)⟩
theorem Fr.set {j : Nat} {μ : Mem} {c : Own} : Fr j μ (μ.set j c) := ⟨by simp, fun k h => List.getElem?_set_ne (Ne.symm h)⟩

theorem ix0 {a b c : D} : L2.atI [a, b, c] 0 = some a := rfl
theorem ix1 {a b c : D} : L2.atI [a, b, c] 1 = some b := rfl
theorem ix2 {a b c : D} : L2.atI [a, b, c] 2 = some c := rfl
theorem ixn1 : ixN 3 1 = some 1 := rfl
theorem ixn2 : ixN 3 2 = some 2 := rfl
def primes : List Int := [2147483647, 2147483629, 2147483587, 2147483579, 2147483563, 2147483549, 2147483543, 2147483497, 2147483489, 2147483477, 2147483423]
theorem primes_at (r : Int) (h0 : 0 ≤ r) (h1 : r < 11) : ∃ p : Int, L2.atI (primes.map D.int) r = some (.int p) ∧ 2147483423 ≤ p ∧ p ≤ 2147483647 := by
  have e : r = 0 ∨ r = 1 ∨ r = 2 ∨ r = 3 ∨ r = 4 ∨ r = 5 ∨ r = 6 ∨ r = 7 ∨ r = 8 ∨ r = 9 ∨ r = 10 := by omega
  rcases e with rfl | rfl | rfl | rfl | rfl | rfl | rfl | rfl | rfl | rfl | rfl <;> exact ⟨_, rfl, by decide, by decide⟩
theorem next_spec {μ : Mem} {j : Nat} {n B : Int} (h : Src μ j B) (hB : B ≤ 2 ^ 40) (h0 : 0 < n) (hn : n ≤ 2 ^ 63) :
    ∃ r μ', mNext [.obj j, .int n] μ = .ok (.fr (.int r)) μ' ∧ 0 ≤ r ∧ r < n ∧ Src μ' j (B + 1) ∧ Fr j μ μ' := by
  obtain ⟨c, i, g, hm, i0, iB, g0⟩ := h
  have hj : j < μ.length := (List.getElem?_eq_some_iff.mp hm).1
  have hlog : n.natAbs.log2 < 9000 := by
    have : n.natAbs < 2 ^ 64 := by omega
    have := (Nat.log2_lt (by omega)).mpr this
    omega
  by_cases hg : 0 < g
  · refine ⟨g % n, μ.set j (.lst [.int c, .int i, .int (g / n)]), ?_, Int.emod_nonneg _ (by omega), Int.emod_lt_of_pos _ h0, ⟨c, i, g / n, by simp [hj], i0, by omega, Int.ediv_nonneg g0 (by omega)⟩, .set⟩
    simp [mNext, bNext, mFn, mSeq, mIfS, mTb, m2, Opn.ev, mSet, mRet, mV, mD, mSetI, OR.at, look, startD, Out.bind, Out.thn, OutS.seq, OutS.fin, Slot.d, Own.d, lift, hm, gGt, gGtI, gTx, gInt, gMod, gDiv, gIxL, ix2, hg, h0, hlog, recv, gSetL, ixn2]
  · have e0 : g = 0 := by omega
    subst e0
    have hr0 : 0 ≤ (i + 1) % 11 := Int.emod_nonneg _ (by decide)
    have hr1 : (i + 1) % 11 < 11 := Int.emod_lt_of_pos _ (by decide)
    obtain ⟨p, ep, p0, p1⟩ := primes_at _ hr0 hr1
    have hc0 : 0 ≤ c % p := Int.emod_nonneg _ (by omega)
    have hc1 : c % p < p := Int.emod_lt_of_pos _ (by omega)
    have hbase : (c % p + 7919 * (i + 1) + 1).natAbs < 2 ^ 64 := by omega
    have hmul : Nat.log2 7919 + (i + 1).natAbs.log2 < 1000000 := by
      have h1 : Nat.log2 7919 = 12 := by decide +kernel
      have h2 : (i + 1).natAbs.log2 < 64 := (Nat.log2_lt (by omega)).mpr (by omega)
      omega
    have hp9 : 0 < p := by omega
    refine ⟨(c % p + 7919 * (i + 1) + 1) ^ 5 % p / 13 % n, μ.set j (.lst [.int c, .int (i + 1), .int 0]), ?_, Int.emod_nonneg _ (by omega), Int.emod_lt_of_pos _ h0, ⟨c, i + 1, 0, by simp [hj], by omega, by omega, by omega⟩, .set⟩
    have ep' : L2.atI [D.int 2147483647, .int 2147483629, .int 2147483587, .int 2147483579, .int 2147483563, .int 2147483549, .int 2147483543, .int 2147483497, .int 2147483489, .int 2147483477, .int 2147483423] ((i + 1) % 11) = some (.int p) := ep
    have hs : ∀ c : Own, (μ.set j c)[j]? = some c := fun c => List.getElem?_set_self hj
    have l13 : Nat.log2 13 < 9000 := by decide +kernel
    simp [mNext, bNext, mFn, mSeq, mIfS, mTb, m2, Opn.ev, mSet, mRet, mV, mD, mSetI, mLst, evA, mPass, OR.at, look, startD, Out.bind, Out.thn, OutS.seq, OutS.fin, Slot.d, Own.d, lift, hm, hs, gGt, gGtI, gTx, gInt, gMod, gDiv, gPow, gMulA, gMul, gAdd, gAddS, gAddL, gAddT, gIxL, ix0, ix1, ix2, h0, hlog, recv, gSetL, ixn1, ep', hp9, hbase, hmul, l13]
theorem atI_nat {α : Type} {xs : List α} {r : Int} (h0 : 0 ≤ r) (h1 : r < xs.length) : ∃ x, L2.atI xs r = some x ∧ x ∈ xs := by
  have hr : r.toNat < xs.length := by omega
  refine ⟨xs[r.toNat], ?_, List.getElem_mem hr⟩
  unfold L2.atI ixN
  simp [h0, h1, hr]
theorem pick_lst {μ : Mem} {j : Nat} {B : Int} {xs : List D} (h : Src μ j B) (hB : B ≤ 2 ^ 40) (h0 : xs ≠ []) (hn : xs.length ≤ 2 ^ 24) :
    ∃ x μ', x ∈ xs ∧ mPick [.obj j, .lst xs] μ = .ok (.fr x) μ' ∧ Src μ' j (B + 1) ∧ Fr j μ μ' := by
  have hl : 0 < xs.length := List.length_pos_iff.mpr h0
  obtain ⟨r, μ', e, r0, r1, hs, hf⟩ := next_spec (n := xs.length) h hB (by omega) (by omega)
  obtain ⟨x, ex, hx⟩ := atI_nat r0 r1
  refine ⟨x, μ', hx, ?_, hs, hf⟩
  simp [mPick, bPick, mFn, mRet, m2, Opn.ev, mCall, evA, mV, mC, evs, OR.ats, OR.at, look, startD, Out.bind, Out.thn, OutS.fin, Slot.d, gLen, gLen1, lift, e, gIxL, ex]
theorem pick_str {μ : Mem} {j : Nat} {B : Int} {xs : Tx} (h : Src μ j B) (hB : B ≤ 2 ^ 40) (h0 : xs ≠ []) (hn : xs.length ≤ 2 ^ 24) :
    ∃ x μ', x ∈ xs ∧ mPick [.obj j, .str xs] μ = .ok (.fr (.str [x])) μ' ∧ Src μ' j (B + 1) ∧ Fr j μ μ' := by
  have hl : 0 < xs.length := List.length_pos_iff.mpr h0
  obtain ⟨r, μ', e, r0, r1, hs, hf⟩ := next_spec (n := xs.length) h hB (by omega) (by omega)
  obtain ⟨x, ex, hx⟩ := atI_nat r0 r1
  refine ⟨x, μ', hx, ?_, hs, hf⟩
  have hn' : xs.length ≤ 16777216 := hn
  simp [mPick, bPick, mFn, mRet, m2, Opn.ev, mCall, evA, mV, mC, evs, OR.ats, OR.at, look, startD, Out.bind, Out.thn, OutS.fin, Slot.d, gLen, gLen1, lift, e, gIxL, ex, hn']
/-- lists of whole numbers -/
theorem pys_ints (ns : List Int) : D.pys (ns.map D.int) = some (ns.map PyData.int) := by
  induction ns with
  | nil => rfl
  | cons n ns ih => simp [D.pys, D.py, ih]
theorem canLay_ints (ns : List Int) : PyData.canLayAll0 (ns.map PyData.int) = true := by
  induction ns with
  | nil => simp [PyData.canLayAll0]
  | cons n ns ih => simp [PyData.canLayAll0, PyData.canLay0, ih]
theorem depth_ints (ns : List Int) : PyData.depthAll (ns.map PyData.int) = 0 := by
  induction ns with
  | nil => simp [PyData.depthAll]
  | cons n ns ih => simp [PyData.depthAll, PyData.depth, ih]
theorem shaped_ints (ns : List Int) : SeqAt.shaped (.list (ns.map PyData.int)) = true := by
  simp [SeqAt.shaped, PyData.canLay0, PyData.depth, canLay_ints, depth_ints]
theorem eq_ints_nil (neg : Bool) (ns : List Int) : gEq neg (.ro (ns.map .int)) (.lst []) = some (tb (decide (ns = []) != neg)) := by
  have h := shaped_ints ns
  have h0 := shaped_ints []
  have e : PyData.eqvAll (ns.map PyData.int) [] = decide (ns = []) := by cases ns <;> simp [PyData.eqvAll]
  simp only [List.map_nil] at h0
  simp [gEq, eqS, eqP, D.py, pys_ints, D.pys, h, h0, PyData.eqv, e]
theorem source_spec {ns : List Int} {k : Int} {μ : Mem} (hl : ns.length ≤ 63) (h0 : 0 ≤ k) (hk : k ≤ 2 ^ 40) :
    ∃ c g, 0 ≤ g ∧ mSource [.ro (ns.map .int), .int k] μ = .ok (.fr (.obj μ.length)) (μ ++ [.lst [.int c, .int (3 * k), .int g]]) := by
  have hmul : Nat.log2 3 + k.natAbs.log2 < 1000000 := by
    have h1 : Nat.log2 3 = 1 := by decide +kernel
    by_cases hz : k.natAbs = 0
    · rw [hz, h1]; decide +kernel
    · have h2 : k.natAbs.log2 < 64 := (Nat.log2_lt hz).mpr (by omega)
      omega
  have l10 : Nat.log2 1000000000000000000 < 9000 := by decide +kernel
  have core : ∀ c : Int, (ns = [] ∧ c = 1 ∨ ns ≠ [] ∧ L2.atI (ns.map D.int) (k % (ns.length : Int)) = some (.int c)) →
      ∃ g, 0 ≤ g ∧ mSource [.ro (ns.map .int), .int k] μ = .ok (.fr (.obj μ.length)) (μ ++ [.lst [.int c, .int (3 * k), .int g]]) := by
    intro c hc
    by_cases hb : 1000000000000000000 ≤ c
    · refine ⟨c / 1000000000000000000, Int.ediv_nonneg (by omega) (by decide), ?_⟩
      rcases hc with ⟨rfl, rfl⟩ | ⟨hne, hat⟩
      · omega
      · have hp := List.length_pos_iff.mpr hne
        simp [mSource, bSource, mFn, mSeq, mIf, mTb, m2, Opn.ev, mSet, mRet, mV, mD, mLst, mShare, mC, evs, evA, OR.at, OR.ats, look, startD, Out.bind, Out.thn, OutS.seq, OutS.fin, Slot.d, Own.d, lift, eq_ints_nil, hne, gLen, gLen1, gMod, gInt, hp, gIxL, hat, gMulA, gMul, hmul, gGe, gGeI, gPow, gDiv, l10, hb]
    · refine ⟨0, by decide, ?_⟩
      rcases hc with ⟨rfl, rfl⟩ | ⟨hne, hat⟩
      · have e0 : gEq true (.ro []) (.lst []) = some (tb false) := eq_ints_nil true []
        simp [mSource, bSource, mFn, mSeq, mIf, mTb, m2, Opn.ev, mSet, mRet, mV, mD, mLst, mShare, mC, evs, evA, OR.at, OR.ats, look, startD, Out.bind, Out.thn, OutS.seq, OutS.fin, Slot.d, Own.d, lift, e0, gLen, gLen1, gMod, gInt, gIxL, gMulA, gMul, hmul, gGe, gGeI, gPow, gDiv, l10, hb]
      · have hp := List.length_pos_iff.mpr hne
        simp [mSource, bSource, mFn, mSeq, mIf, mTb, m2, Opn.ev, mSet, mRet, mV, mD, mLst, mShare, mC, evs, evA, OR.at, OR.ats, look, startD, Out.bind, Out.thn, OutS.seq, OutS.fin, Slot.d, Own.d, lift, eq_ints_nil, hne, gLen, gLen1, gMod, gInt, hp, gIxL, hat, gMulA, gMul, hmul, gGe, gGeI, gPow, gDiv, l10, hb]
  by_cases hne : ns = []
  · obtain ⟨g, g0, e⟩ := core 1 (.inl ⟨hne, rfl⟩)
    exact ⟨1, g, g0, e⟩
  · have hp : 0 < (ns.length : Int) := by have := List.length_pos_iff.mpr hne; omega
    obtain ⟨x, ex, hx⟩ := atI_nat (xs := ns.map D.int) (r := k % (ns.length : Int)) (Int.emod_nonneg _ (by omega)) (by rw [List.length_map]; exact Int.emod_lt_of_pos _ hp)
    obtain ⟨c, _, rfl⟩ := List.mem_map.mp hx
    obtain ⟨g, g0, e⟩ := core c (.inr ⟨hne, ex⟩)
    exact ⟨c, g, g0, e⟩
end FL

/-! Part W: a text cut into words, in plain words. -/
namespace FL
open PySem L2
abbrev lo1 := PyProof.Rows.lo1
abbrev up1 := PyProof.Rows.up1
def WS : Tx := lit "abcdefghijklmnopqrstuvwxyz0123456789"
theorem ws_eq : lit "abcdefghijklmnopqrstuvwxyz0123456789" = WS := rfl
theorem lit_nil : lit "" = [] := rfl
def stepW (st : List Tx × Tx) (c : Nat) : List Tx × Tx :=
  if c ∈ WS then (if (st.2 ++ [c]).length = 20 then (st.1 ++ [st.2 ++ [c]], []) else (st.1, st.2 ++ [c]))
  else if st.2 = [] then (st.1, []) else (st.1 ++ [st.2], [])
def finW (st : List Tx × Tx) : List Tx := if st.2 = [] then st.1 else st.1 ++ [st.2]
/-- the words of a text in small letters -/
def wordsL (y : Tx) : List Tx := finW (y.foldl stepW ([], []))
def wordsT (x : Tx) : List Tx := wordsL (x.map lo1)

noncomputable def bSplitLoop : MS := (mSeq (mIfS (mTb (m2 (gIn false) (.v 3) (.e (mD (.str (lit "abcdefghijklmnopqrstuvwxyz0123456789")))))) (mSet 2 (m2 gAdd (.v 2) (.v 3)))
    mPass)
    (mIfS (mAnd (mTb (m2 (gEq true) (.v 2) (.e (mD (.str (lit "")))))) (mOr (mTb (m2 (gIn true) (.v 3) (.e (mD (.str (lit "abcdefghijklmnopqrstuvwxyz0123456789")))))) (mTb (m2 (gEq false) (.e (mC gLen [(.v 2)])) (.e (mD (.int 20))))))) (mSeq (mEx (mMut "list" gAppend (.v 1) [(mV 2)]))
    (mSet 2 (mD (.str (lit "")))))
    mPass))
noncomputable def bSplit : MS := (mSeq (mPar 1 2 (mLst []) (mD (.str (lit ""))))
    (mSeq (mFor (mIt (mM "str" gLower (.v 0) [])) (tgV 3) bSplitLoop)
    (mRet (mIf (mTb (m2 (gEq true) (.v 2) (.e (mD (.str (lit "")))))) (m2 gAdd (.v 1) (.e (mLst [(mV 2)]))) (mV 1)))))
noncomputable def mSplit : MF := mFn 4 bSplit
def stW (t : D) (st : List Tx × Tx) (s : Option Slot) : Loc := [some (.fr t), some (.own (.lst (st.1.map .str))), some (.fr (.str st.2)), s]
theorem split_step {t : D} {st : List Tx × Tx} {c : Nat} {s : Option Slot} {μ : Mem} (h1 : st.1.length < 16777216) (h2 : st.2.length < 16777216) :
    turnD (tgV 3) bSplitLoop (.str [c]) (stW t st s) μ = .nx (stW t (stepW st c) (some (.fr (.str [c])))) μ := by
  obtain ⟨f, r⟩ := st
  have h1' : f.length < 16777216 := h1
  have h2' : r.length + 1 ≤ 16777216 := h2
  have h2'' : r.length ≤ 16777216 := by omega
  by_cases hc : c ∈ WS
  · by_cases hl : r.length + 1 = 20
    · have hl' : (r.length : Int) + 1 = 20 := by omega
      simp [turnD, tgV, bSplitLoop, stW, stepW, mSeq, mIfS, mTb, m2, Opn.ev, mD, OR.at, OR.ats, look, Out.bind, Out.thn, OutS.seq, Slot.d, Own.d, lift, gIn, gInS, ws_eq, lit_nil, hc, hl, mSet, gAdd, gInt, gAddS, h2', mAnd, mOr, gEq, eqS, mC, evs, gLen, gLen1, mEx, mMut, recv, ownTy, evA, mV, gAppend, h1', mPass, hl']
    · have hl' : ¬ (r.length : Int) + 1 = 20 := by omega
      simp [turnD, tgV, bSplitLoop, stW, stepW, mSeq, mIfS, mTb, m2, Opn.ev, mD, OR.at, OR.ats, look, Out.bind, Out.thn, OutS.seq, Slot.d, Own.d, lift, gIn, gInS, ws_eq, lit_nil, hc, hl, mSet, gAdd, gInt, gAddS, h2', mAnd, mOr, gEq, eqS, mC, evs, gLen, gLen1, mEx, mMut, recv, ownTy, evA, mV, gAppend, h1', mPass, hl']
  · by_cases hr : r = []
    · simp [turnD, tgV, bSplitLoop, stW, stepW, mSeq, mIfS, mTb, m2, Opn.ev, mD, OR.at, OR.ats, look, Out.bind, Out.thn, OutS.seq, Slot.d, Own.d, lift, gIn, gInS, ws_eq, lit_nil, hc, hr, mSet, gAdd, gInt, gAddS, h2', mAnd, mOr, gEq, eqS, mC, evs, gLen, gLen1, mEx, mMut, recv, ownTy, evA, mV, gAppend, h1', mPass]
    · simp [turnD, tgV, bSplitLoop, stW, stepW, mSeq, mIfS, mTb, m2, Opn.ev, mD, OR.at, OR.ats, look, Out.bind, Out.thn, OutS.seq, Slot.d, Own.d, lift, gIn, gInS, ws_eq, lit_nil, hc, hr, mSet, gAdd, gInt, gAddS, h2', mAnd, mOr, gEq, eqS, mC, evs, gLen, gLen1, mEx, mMut, recv, ownTy, evA, mV, gAppend, h1', mPass]
theorem stepW_len (st : List Tx × Tx) (c : Nat) : (stepW st c).1.length ≤ st.1.length + 1 ∧ (stepW st c).2.length ≤ st.2.length + 1 := by
  unfold stepW
  split
  · split <;> simp
  · split <;> simp
theorem split_loop {t : D} {μ : Mem} : ∀ (y : Tx) (st : List Tx × Tx) (s : Option Slot), st.1.length + y.length < 16777216 → st.2.length + y.length < 16777216 →
    ∃ s', forD (turnD (tgV 3) bSplitLoop) (chars y) (stW t st s) μ = .nx (stW t (y.foldl stepW st) s') μ
  | [], st, s, _, _ => ⟨s, rfl⟩
  | c :: y, st, s, h1, h2 => by
    have hl := stepW_len st c
    rw [List.length_cons] at h1 h2
    obtain ⟨s', e⟩ := split_loop y (stepW st c) (some (.fr (.str [c]))) (by omega) (by omega)
    refine ⟨s', ?_⟩
    show (turnD (tgV 3) bSplitLoop (.str [c]) (stW t st s) μ).loop (forD (turnD (tgV 3) bSplitLoop) (chars y)) = _
    rw [split_step (by omega) (by omega)]
    exact e
theorem foldW_len (y : Tx) : ∀ st : List Tx × Tx, (y.foldl stepW st).1.length ≤ st.1.length + y.length := by
  induction y with
  | nil => intro st; simp
  | cons c y ih =>
    intro st
    have h1 := ih (stepW st c)
    have h2 := (stepW_len st c).1
    rw [List.foldl_cons, List.length_cons]
    omega
/-- split_words, where it is called -/
theorem split_spec {x : Tx} {μ : Mem} (ha : x.all (· < 128) = true) (hl : x.length ≤ 1000) : ∃ s, mSplit [.str x] μ = .ok s μ ∧ s.d = .lst ((wordsT x).map .str) := by
  have hl2 : x.length ≤ 5592405 := by omega
  obtain ⟨s', e⟩ := split_loop (t := .str x) (μ := μ) (x.map lo1) ([], []) none (by simp; omega) (by simp; omega)
  have hlen := foldW_len (x.map lo1) ([], [])
  generalize hw : (x.map lo1).foldl stepW ([], []) = w at e hlen
  obtain ⟨f, r⟩ := w
  have hf : f.length + 1 ≤ 16777216 := by simp at hlen; omega
  have e0 : (stW (.str x) ([], []) none) = [some (.fr (.str x)), some (.own (.lst [])), some (.fr (.str [])), none] := rfl
  rw [e0] at e
  have hW : wordsT x = finW (f, r) := by unfold wordsT wordsL; rw [hw]
  have he : (List.map lo1 x) = List.map PyProof.Rows.lo1 x := rfl
  rw [he] at e
  rw [hW]
  by_cases hr : r = []
  · subst hr
    refine ⟨.fr (.lst (f.map .str)), ?_, by simp [finW, Slot.d]⟩
    simp [mSplit, bSplit, mFn, mSeq, mPar, mLst, evA, mD, lit_nil, mFor, mIt, mM, Opn.ev, OR.at, OR.ats, look, startD, Out.bind, Out.thn, OutS.seq, OutS.fin, Slot.d, Own.d, lift, isTy, evs, gLower, ha, hl2, itA, e, stW, mRet, mIf, mTb, m2, gEq, eqS, mV]
  · refine ⟨.own (.lst (f.map .str ++ [.str r])), ?_, by simp [finW, hr, Slot.d, Own.d]⟩
    simp [mSplit, bSplit, mFn, mSeq, mPar, mLst, evA, mD, lit_nil, mFor, mIt, mM, Opn.ev, OR.at, OR.ats, look, startD, Out.bind, Out.thn, OutS.seq, OutS.fin, Slot.d, Own.d, lift, isTy, evs, gLower, ha, hl2, itA, e, stW, mRet, mIf, mTb, m2, gEq, eqS, mV, hr, gAdd, gInt, gAddS, gAddL, hf]
end FL

/-! Part V: laws of words. -/
namespace FL
open PySem L2
theorem lcD_cons {f : TgF} {t : MT} {m : ME} {vs : List Nat} {d : D} {ds acc : List D} {δ : FL.Loc} {μ : Mem} : lcD f t m vs (d :: ds) acc δ μ = (match f d δ with
    | none => .bad
    | some δ' => (t δ' μ).cut.bind fun b δ2 μ2 => if b = true then (m δ2 μ2).cut.bind fun s δ3 μ3 => if acc.length < 16777216 then lcD f t m vs ds (acc ++ [s.d]) (wipeD δ3 vs) μ3 else .bad
      else lcD f t m vs ds acc (wipeD δ2 vs) μ2) := rfl
theorem forD_cons {g : D → MS} {d : D} {ds : List D} {δ : FL.Loc} {μ : Mem} : forD g (d :: ds) δ μ = (g d δ μ).loop (forD g ds) := rfl
/-- a loop that comes to its end each time -/
theorem forD_ix {g : D → MS} (I : Nat → FL.Loc → Mem → Prop) (N : Nat) : ∀ (ds : List D) (n : Nat), n + ds.length ≤ N → (∀ d ∈ ds, ∀ i δ μ, i < N → I i δ μ → ∃ δ' μ', g d δ μ = .nx δ' μ' ∧ I (i + 1) δ' μ') → ∀ δ μ, I n δ μ → ∃ δ' μ', forD g ds δ μ = .nx δ' μ' ∧ I (n + ds.length) δ' μ'
  | [], n, _, _, δ, μ, h => ⟨δ, μ, rfl, h⟩
  | d :: ds, n, hN, hs, δ, μ, h => by
    rw [List.length_cons] at hN
    obtain ⟨δ1, μ1, e, h1⟩ := hs d (List.mem_cons_self ..) n δ μ (by omega) h
    obtain ⟨δ2, μ2, e2, h2⟩ := forD_ix I N ds (n + 1) (by omega) (fun d hd => hs d (List.mem_cons_of_mem _ hd)) δ1 μ1 h1
    refine ⟨δ2, μ2, ?_, by rw [List.length_cons, show n + (ds.length + 1) = n + 1 + ds.length by omega]; exact h2⟩
    rw [forD_cons, e]
    exact e2
theorem seq_nx {m n : MS} {δ δ1 : FL.Loc} {μ μ1 : Mem} (h : m δ μ = .nx δ1 μ1) : mSeq m n δ μ = n δ1 μ1 := by unfold mSeq; rw [h]; rfl
theorem seq_rt {m n : MS} {δ : FL.Loc} {μ μ1 : Mem} {s : FL.Slot} (h : m δ μ = .rt s μ1) : mSeq m n δ μ = .rt s μ1 := by unfold mSeq; rw [h]; rfl
theorem fn_rt {n : Nat} {b : MS} {ds : List D} {μ μ1 : Mem} {s : FL.Slot} (h : b (startD n ds) μ = .rt s μ1) : mFn n b ds μ = .ok s μ1 := by unfold mFn; rw [h]; rfl
theorem for_of {mi : MM (List D)} {f : TgF} {m : MS} {δ δ1 : FL.Loc} {μ μ1 : Mem} {ds : List D} {r : OutS} (h : mi δ μ = .ok ds δ1 μ1) (h2 : forD (turnD f m) ds δ1 μ1 = r) : mFor mi f m δ μ = r := by unfold mFor; rw [h]; exact h2
theorem set_of {i : Nat} {m : ME} {δ δ1 : FL.Loc} {μ μ1 : Mem} {s : FL.Slot} (h : m δ μ = .ok s δ1 μ1) : mSet i m δ μ = .nx (δ1.set i (some s)) μ1 := by unfold mSet; rw [h]; rfl
theorem ret_of {m : ME} {δ δ1 : FL.Loc} {μ μ1 : Mem} {s : FL.Slot} (h : m δ μ = .ok s δ1 μ1) : mRet m δ μ = .rt s μ1 := by unfold mRet; rw [h]; rfl
theorem if_t {t : MT} {m n : MS} {δ δ1 : FL.Loc} {μ μ1 : Mem} (h : t δ μ = .ok true δ1 μ1) : mIfS t m n δ μ = m δ1 μ1 := by unfold mIfS; rw [h]; rfl
theorem if_f {t : MT} {m n : MS} {δ δ1 : FL.Loc} {μ μ1 : Mem} (h : t δ μ = .ok false δ1 μ1) : mIfS t m n δ μ = n δ1 μ1 := by unfold mIfS; rw [h]; rfl
theorem if_fp {t : MT} {m : MS} {δ δ1 : FL.Loc} {μ μ1 : Mem} (h : t δ μ = .ok false δ1 μ1) : mIfS t m mPass δ μ = .nx δ1 μ1 := if_f h
theorem slot_lst {s : FL.Slot} {xs : List D} (h : s.d = .lst xs) : s = .fr (.lst xs) ∨ s = .own (.lst xs) := by
  cases s with
  | fr d => exact .inl (by rw [← h]; rfl)
  | own o =>
    cases o with
    | lst ys =>
      have h' : D.lst ys = .lst xs := h
      cases h'
      exact .inr rfl
    | dct ks ys =>
      have h' : D.dct ks ys = .lst xs := h
      cases h'
    | tab P q =>
      have h' : D.unk = .lst xs := h
      cases h'
theorem dfr {d : D} : (FL.Slot.fr d).d = d := rfl
theorem down {xs : List D} : (FL.Slot.own (.lst xs)).d = .lst xs := rfl
theorem owd {xs : List D} : (Own.lst xs).d = .lst xs := rfl
theorem or_ff {m n : MT} {δ δ1 δ2 : FL.Loc} {μ μ1 μ2 : Mem} (h1 : m δ μ = .ok false δ1 μ1) (h2 : n δ1 μ1 = .ok false δ2 μ2) : mOr m n δ μ = .ok false δ2 μ2 := by unfold mOr; rw [h1, Out.bind_ok, if_neg Bool.false_ne_true, h2]
theorem and_f {m n : MT} {δ δ1 : FL.Loc} {μ μ1 : Mem} (h1 : m δ μ = .ok false δ1 μ1) : mAnd m n δ μ = .ok false δ1 μ1 := by unfold mAnd; rw [h1, Out.bind_ok, if_neg Bool.false_ne_true]
theorem and_t {m n : MT} {δ δ1 : FL.Loc} {μ μ1 : Mem} {r : Out Bool} (h1 : m δ μ = .ok true δ1 μ1) (h2 : n δ1 μ1 = r) : mAnd m n δ μ = r := by unfold mAnd; rw [h1, Out.bind_ok, if_pos rfl, h2]
theorem sum_ones (cs : Tx) : ((cs.map fun c => [c]).map List.length).sum = cs.length := by
  induction cs with
  | nil => rfl
  | cons c cs ih => simp only [List.map_cons, List.sum_cons, List.length_cons, ih, List.length_nil]; omega
theorem flat_ones (cs : Tx) : (cs.map fun c => [c]).flatten = cs := by
  induction cs with
  | nil => rfl
  | cons c cs ih => rw [List.map_cons, List.flatten_cons, ih]; rfl
theorem kitB_ss : kitB "str" "str" = some true := by kernel_rfl
theorem stepW_pre (f f' : List Tx) (r : Tx) (c : Nat) : stepW (f ++ f', r) c = (f ++ (stepW (f', r) c).1, (stepW (f', r) c).2) := by
  unfold stepW
  dsimp only
  split
  · split <;> simp
  · split <;> simp
theorem foldW_pre (y : Tx) : ∀ (f f' : List Tx) (r : Tx), y.foldl stepW (f ++ f', r) = (f ++ (y.foldl stepW (f', r)).1, (y.foldl stepW (f', r)).2) := by
  induction y with
  | nil => intro f f' r; rfl
  | cons c y ih =>
    intro f f' r
    rw [List.foldl_cons, List.foldl_cons, stepW_pre]
    exact ih f _ _
theorem finW_pre (f : List Tx) (st : List Tx × Tx) : finW (f ++ st.1, st.2) = f ++ finW st := by
  unfold finW
  dsimp only
  split <;> simp
theorem foldW_gap {g : Tx} (hg : ∀ c ∈ g, c ∉ WS) (h0 : g ≠ []) : ∀ st : List Tx × Tx, g.foldl stepW st = (finW st, []) := by
  have key : ∀ (g : Tx), (∀ c ∈ g, c ∉ WS) → ∀ f : List Tx, g.foldl stepW (f, []) = (f, []) := by
    intro g
    induction g with
    | nil => intro _ f; rfl
    | cons c g ih =>
      intro h f
      have hc : c ∉ WS := h c (List.mem_cons_self ..)
      rw [List.foldl_cons]
      have e : stepW (f, []) c = (f, []) := by unfold stepW; simp [hc]
      rw [e]
      exact ih (fun d hd => h d (List.mem_cons_of_mem _ hd)) f
  cases g with
  | nil => exact absurd rfl h0
  | cons c g =>
    intro st
    have hc : c ∉ WS := hg c (List.mem_cons_self ..)
    rw [List.foldl_cons]
    have e : stepW st c = (finW st, []) := by
      unfold stepW finW
      rw [if_neg hc]
      split <;> rfl
    rw [e]
    exact key g (fun d hd => hg d (List.mem_cons_of_mem _ hd)) _
theorem wordsL_gap {x g y : Tx} (hg : ∀ c ∈ g, c ∉ WS) (h0 : g ≠ []) : wordsL (x ++ g ++ y) = wordsL x ++ wordsL y := by
  unfold wordsL
  rw [List.foldl_append, List.foldl_append, foldW_gap hg h0]
  generalize finW (x.foldl stepW ([], [])) = f
  have := foldW_pre y f [] []
  rw [List.append_nil] at this
  rw [this, finW_pre]
theorem wordsL_nil : wordsL [] = [] := rfl
theorem wordsL_gap0 {g y : Tx} (hg : ∀ c ∈ g, c ∉ WS) (h0 : g ≠ []) : wordsL (g ++ y) = wordsL y := by
  have := wordsL_gap (x := []) (y := y) hg h0
  simpa [wordsL_nil] using this
theorem wordsL_gap1 {x g : Tx} (hg : ∀ c ∈ g, c ∉ WS) (h0 : g ≠ []) : wordsL (x ++ g) = wordsL x := by
  have := wordsL_gap (x := x) (y := []) hg h0
  simpa [wordsL_nil] using this
/-- a run without a gap -/
theorem foldW_run {x : Tx} (hx : ∀ c ∈ x, c ∈ WS) : ∀ (f : List Tx) (r : Tx), r.length < 20 → (∀ p ∈ f, p.length = 20) →
    ∃ f' r', x.foldl stepW (f, r) = (f', r') ∧ f'.flatten ++ r' = f.flatten ++ r ++ x ∧ (∀ p ∈ f', p.length = 20) ∧ r'.length < 20 := by
  induction x with
  | nil => intro f r hr hf; exact ⟨f, r, rfl, by simp, hf, hr⟩
  | cons c x ih =>
    intro f r hr hf
    have hc : c ∈ WS := hx c (List.mem_cons_self ..)
    have ih := ih fun d hd => hx d (List.mem_cons_of_mem _ hd)
    rw [List.foldl_cons]
    unfold stepW
    rw [if_pos hc]
    by_cases hl : (r ++ [c]).length = 20
    · rw [if_pos hl]
      obtain ⟨f', r', e, h1, h2, h3⟩ := ih (f ++ [r ++ [c]]) [] (by simp) (fun p hp => by
        rcases List.mem_append.mp hp with hp | hp
        · exact hf p hp
        · rw [List.mem_singleton.mp hp]; exact hl)
      exact ⟨f', r', e, by rw [h1]; simp, h2, h3⟩
    · rw [if_neg hl]
      have hl' : (r ++ [c]).length < 20 := by simp at hl ⊢; omega
      obtain ⟨f', r', e, h1, h2, h3⟩ := ih f (r ++ [c]) hl' hf
      exact ⟨f', r', e, by rw [h1]; simp, h2, h3⟩
theorem flat_len {f : List Tx} (h : ∀ p ∈ f, p.length = 20) : f.flatten.length = 20 * f.length := by
  induction f with
  | nil => rfl
  | cons p f ih =>
    rw [List.flatten_cons, List.length_append, List.length_cons, h p (List.mem_cons_self ..), ih fun q hq => h q (List.mem_cons_of_mem _ hq)]
    omega
/-- what the pieces of a run are -/
theorem wordsL_run {x : Tx} (hx : ∀ c ∈ x, c ∈ WS) (h0 : x ≠ []) : ∃ f l, wordsL x = f ++ [l] ∧ (f ++ [l]).flatten = x ∧ (∀ p ∈ f, p.length = 20) ∧ 1 ≤ l.length ∧ l.length ≤ 20 ∧ (f.length + 1) = (x.length + 19) / 20 := by
  obtain ⟨f, r, e, h1, h2, h3⟩ := foldW_run hx [] [] (by simp) (by simp)
  have hlen := congrArg List.length h1
  simp only [List.flatten_nil, List.nil_append, List.length_append, flat_len h2] at hlen
  have hx0 := List.length_pos_iff.mpr h0
  unfold wordsL
  rw [e]
  unfold finW
  by_cases hr : r = []
  · subst hr
    rw [if_pos rfl]
    simp only [List.length_nil, Nat.add_zero] at hlen
    have hf : f ≠ [] := by rintro rfl; simp at hlen; omega
    have ef := (List.dropLast_concat_getLast hf).symm
    refine ⟨f.dropLast, f.getLast hf, ef, by rw [← ef]; simpa using h1, fun p hp => h2 p ((List.dropLast_sublist f).subset hp), by rw [h2 _ (List.getLast_mem hf)]; decide, by rw [h2 _ (List.getLast_mem hf)]; decide, ?_⟩
    have := List.length_pos_iff.mpr hf
    rw [List.length_dropLast]
    omega
  · rw [if_neg hr]
    have hr0 := List.length_pos_iff.mpr hr
    exact ⟨f, r, rfl, by rw [List.flatten_append]; simpa using h1, h2, hr0, by omega, by omega⟩
theorem wordsL_word {w : Tx} (hw : ∀ c ∈ w, c ∈ WS) (h0 : w ≠ []) (hl : w.length ≤ 20) : wordsL w = [w] := by
  obtain ⟨f, l, e, h1, h2, h3, h4, h5⟩ := wordsL_run hw h0
  have hw0 := List.length_pos_iff.mpr h0
  have hf : f = [] := List.length_eq_zero_iff.mp (by omega)
  subst hf
  rw [e]
  simp at h1
  rw [h1]; rfl
theorem wordsL_row {g : Tx} (hg : ∀ c ∈ g, c ∉ WS) (h0 : g ≠ []) : ∀ ws : List Tx, (∀ w ∈ ws, (∀ c ∈ w, c ∈ WS) ∧ w ≠ [] ∧ w.length ≤ 20) → wordsL (joinT g ws) = ws
  | [], _ => rfl
  | [w], h => by
    obtain ⟨h1, h2, h3⟩ := h w (List.mem_cons_self ..)
    exact wordsL_word h1 h2 h3
  | w :: v :: r, h => by
    obtain ⟨h1, h2, h3⟩ := h w (List.mem_cons_self ..)
    show wordsL (w ++ g ++ joinT g (v :: r)) = _
    rw [wordsL_gap hg h0, wordsL_word h1 h2 h3, wordsL_row hg h0 (v :: r) fun u hu => h u (List.mem_cons_of_mem _ hu)]
    rfl
theorem joinT_nil : ∀ ws : List Tx, joinT [] ws = ws.flatten
  | [] => rfl
  | [w] => by simp [joinT]
  | w :: v :: r => by
    show w ++ [] ++ joinT [] (v :: r) = _
    rw [joinT_nil (v :: r)]; simp
theorem joinT_len (g : Tx) : ∀ ws : List Tx, (joinT g ws).length ≤ (ws.map List.length).sum + g.length * ws.length
  | [] => by simp [joinT]
  | [w] => by simp [joinT]
  | w :: v :: r => by
    have ih := joinT_len g (v :: r)
    show (w ++ g ++ joinT g (v :: r)).length ≤ _
    simp only [List.length_append, List.map_cons, List.sum_cons, List.length_cons] at ih ⊢
    have : g.length * (r.length + 1 + 1) = g.length * (r.length + 1) + g.length := by rw [Nat.mul_add, Nat.mul_one]
    omega
theorem lo_lo (c : Nat) : lo1 (lo1 c) = lo1 c := by
  unfold lo1 PyProof.Rows.lo1
  split
  · rw [if_neg (by omega)]
  · rfl
theorem lo_up (c : Nat) : lo1 (up1 c) = lo1 c := by
  unfold lo1 up1 PyProof.Rows.lo1 PyProof.Rows.up1
  split
  · split <;> split <;> omega
  · rfl
theorem lo_ascii {c : Nat} (h : c < 128) : lo1 c < 128 := by
  unfold lo1 PyProof.Rows.lo1
  split <;> omega
theorem up_ascii {c : Nat} (h : c < 128) : up1 c < 128 := by
  unfold up1 PyProof.Rows.up1
  split <;> omega
theorem map_lo_lo (x : Tx) : (x.map lo1).map lo1 = x.map lo1 := by rw [List.map_map]; exact List.map_congr_left fun c _ => lo_lo c
theorem map_lo_up (x : Tx) : (x.map up1).map lo1 = x.map lo1 := by rw [List.map_map]; exact List.map_congr_left fun c _ => lo_up c
theorem words_lo (x : Tx) : wordsT (x.map lo1) = wordsT x := by unfold wordsT; rw [map_lo_lo]
theorem words_up (x : Tx) : wordsT (x.map up1) = wordsT x := by unfold wordsT; rw [map_lo_up]
theorem ws_ascii : ∀ c ∈ WS, c < 128 := by decide +kernel
/-! ### lists of texts compared -/
theorem pys_strs (xs : List Tx) : D.pys (xs.map D.str) = some (xs.map fun x => PyData.str (toS x)) := by
  induction xs with
  | nil => rfl
  | cons n ns ih => simp [D.pys, D.py, ih]
theorem strOk_ascii {x : Tx} (h : ∀ c ∈ x, c < 128) : PyData.canLay0 (.str (toS x)) = true := by
  simp only [PyData.canLay0, PyData.strOk, toS]
  simp only [List.all_toArray, List.all_eq_true, decide_eq_true_eq]
  intro c hc
  have := h c hc
  omega
theorem shaped_strs {xs : List Tx} (h : ∀ x ∈ xs, ∀ c ∈ x, c < 128) : SeqAt.shaped (.list (xs.map fun x => PyData.str (toS x))) = true := by
  have h1 : PyData.canLayAll0 (xs.map fun x => PyData.str (toS x)) = true := by
    induction xs with
    | nil => simp [PyData.canLayAll0]
    | cons x xs ih =>
      rw [List.map_cons]
      simp only [PyData.canLayAll0, strOk_ascii (h x (List.mem_cons_self ..)), ih fun y hy => h y (List.mem_cons_of_mem _ hy), Bool.and_self]
  have h2 : PyData.depthAll (xs.map fun x => PyData.str (toS x)) = 0 := by
    clear h h1
    induction xs with
    | nil => simp [PyData.depthAll]
    | cons x xs ih => rw [List.map_cons]; simp [PyData.depthAll, PyData.depth, ih]
  simp [SeqAt.shaped, PyData.canLay0, PyData.depth, h1, h2]
theorem eqv_strs : ∀ xs ys : List Tx, PyData.eqvAll (xs.map fun x => PyData.str (toS x)) (ys.map fun x => PyData.str (toS x)) = decide (xs = ys)
  | [], [] => by simp [PyData.eqvAll]
  | [], _ :: _ => by simp [PyData.eqvAll]
  | _ :: _, [] => by simp [PyData.eqvAll]
  | x :: xs, y :: ys => by
    rw [List.map_cons, List.map_cons]
    simp only [PyData.eqvAll, PyData.eqv, eqv_strs xs ys]
    by_cases e : x = y
    · subst e; simp
    · have n : ¬ toS x = toS y := fun z => e (toS_inj z)
      simp [e, n]
theorem eq_strs (neg : Bool) {xs ys : List Tx} (hx : ∀ x ∈ xs, ∀ c ∈ x, c < 128) (hy : ∀ x ∈ ys, ∀ c ∈ x, c < 128) :
    gEq neg (.lst (xs.map .str)) (.lst (ys.map .str)) = some (tb (decide (xs = ys) != neg)) := by
  simp [gEq, eqS, eqP, D.py, pys_strs, shaped_strs hx, shaped_strs hy, PyData.eqv, eqv_strs]
theorem wordsL_mem {y : Tx} : ∀ w ∈ wordsL y, ∀ c ∈ w, c ∈ WS := by
  have key : ∀ (y : Tx) (st : List Tx × Tx), (∀ w ∈ st.1, ∀ c ∈ w, c ∈ WS) → (∀ c ∈ st.2, c ∈ WS) → (∀ w ∈ (y.foldl stepW st).1, ∀ c ∈ w, c ∈ WS) ∧ ∀ c ∈ (y.foldl stepW st).2, c ∈ WS := by
    intro y
    induction y with
    | nil => intro st h1 h2; exact ⟨h1, h2⟩
    | cons c y ih =>
      intro st h1 h2
      rw [List.foldl_cons]
      have app : ∀ d ∈ st.2 ++ [c], c ∈ WS → d ∈ WS := fun d hd hc => by
        rcases List.mem_append.mp hd with hd | hd
        · exact h2 d hd
        · rw [List.mem_singleton.mp hd]; exact hc
      refine ih _ ?_ ?_
      · unfold stepW
        split
        · rename_i hc
          split
          · intro w hw
            rcases List.mem_append.mp hw with hw | hw
            · exact h1 w hw
            · rw [List.mem_singleton.mp hw]; exact fun d hd => app d hd hc
          · exact h1
        · split
          · exact h1
          · intro w hw
            rcases List.mem_append.mp hw with hw | hw
            · exact h1 w hw
            · rw [List.mem_singleton.mp hw]; exact h2
      · unfold stepW
        split
        · rename_i hc
          split
          · simp
          · exact fun d hd => app d hd hc
        · split <;> simp
  obtain ⟨h1, h2⟩ := key y ([], []) (by simp) (by simp)
  intro w hw
  unfold wordsL finW at hw
  split at hw
  · exact h1 w hw
  · rcases List.mem_append.mp hw with hw | hw
    · exact h1 w hw
    · rw [List.mem_singleton.mp hw]; exact h2
theorem words_ascii {x : Tx} : ∀ w ∈ wordsT x, ∀ c ∈ w, c < 128 := fun w hw c hc => ws_ascii c (wordsL_mem w hw c hc)
theorem joinT_mem {g : Tx} {c : Nat} : ∀ {ws : List Tx}, c ∈ joinT g ws → c ∈ g ∨ ∃ w ∈ ws, c ∈ w
  | [], h => by simp [joinT] at h
  | [w], h => .inr ⟨w, by simp, h⟩
  | w :: v :: r, h => by
    have h : c ∈ w ++ g ++ joinT g (v :: r) := h
    rcases List.mem_append.mp h with h | h
    · rcases List.mem_append.mp h with h | h
      · exact .inr ⟨w, by simp, h⟩
      · exact .inl h
    · rcases joinT_mem h with h | ⟨u, hu, h⟩
      · exact .inl h
      · exact .inr ⟨u, List.mem_cons_of_mem _ hu, h⟩
theorem ws_lo : ∀ c ∈ WS, lo1 c = c := by decide +kernel
theorem map_id_of {x : Tx} {f : Nat → Nat} (h : ∀ c ∈ x, f c = c) : x.map f = x := by
  induction x with
  | nil => rfl
  | cons c x ih => rw [List.map_cons, h c (List.mem_cons_self ..), ih fun d hd => h d (List.mem_cons_of_mem _ hd)]
theorem words_len (x : Tx) : (wordsT x).length ≤ x.length + 1 := by
  have h := foldW_len (x.map lo1) ([], [])
  unfold wordsT wordsL finW
  rw [List.length_map] at h
  simp only [List.length_nil, Nat.zero_add] at h
  split
  · omega
  · rw [List.length_append, List.length_singleton]; omega
theorem cut_last {α : Type} (f : List α) (l : α) : cutD (f ++ [l]) none (some (-1)) = f := by
  unfold cutD HT.sIx
  simp only [List.length_append, List.length_singleton]
  have : ((-1 : Int) + ((f.length + 1 : Nat) : Int)).toNat = f.length := by omega
  rw [if_pos (by decide), this]
  simp
theorem atI_last {α : Type} (f : List α) (l : α) : L2.atI (f ++ [l]) (-1) = some l := by
  unfold L2.atI ixN
  have h1 : ¬ (0 : Int) ≤ -1 := by decide
  have h2 : -(((f ++ [l]).length : Nat) : Int) ≤ -1 := by simp; omega
  rw [if_neg h1, if_pos h2]
  have : (-1 + (((f ++ [l]).length : Nat) : Int)).toNat = f.length := by simp; omega
  rw [this]
  simp
end FL

/-! Part Y: how long a repr is; what is equal to itself; letters in lists. -/
namespace FL
open PySem L2
abbrev piles (ts : List Str) : Nat := (ts.map fun t => t.length + 2).sum
theorem join_len : ∀ ts : List Str, (Str.join ", " ts).length ≤ piles ts
  | [] => by decide
  | [x] => by simp [Str.join, piles]
  | x :: y :: r => by
    have ih := join_len (y :: r)
    show (x ++ (", " : Str) ++ Str.join ", " (y :: r)).length ≤ _
    rw [strLen_append, strLen_append]
    have e : ((", " : Str)).length = 2 := by decide
    simp only [piles, List.map_cons, List.sum_cons] at ih ⊢
    omega
theorem tup_len (ts : List Str) : (tupleText ts).length ≤ 3 + piles ts := by
  unfold tupleText
  rw [strLen_append, strLen_append]
  have h1 := join_len ts
  have h2 : (("(" : Str)).length = 1 := by decide
  have h3 : (Str.ofString (if ts.length == 1 then ",)" else ")" : String)).length ≤ 2 := by split <;> decide
  have h3' : ((if ts.length == 1 then ",)" else ")" : String) : Str).length ≤ 2 := h3
  omega
theorem from_len : ∀ (ts : List Str) (k : Nat) (acc : Str), (textFrom k acc ts).length ≤ acc.length + piles ts
  | [], _, acc => by simp [textFrom, piles]
  | t :: ts, k, acc => by
    have ih := from_len ts (k + 1) (acc ++ (if k > 0 then ", " else "" : String) ++ t)
    rw [strLen_append, strLen_append] at ih
    have h : ((if k > 0 then ", " else "" : String) : Str).length ≤ 2 := by split <;> decide
    show (textFrom (k + 1) _ ts).length ≤ _
    simp only [piles, List.map_cons, List.sum_cons] at ih ⊢
    omega
theorem lst_len (ts : List Str) : (listText ts).length ≤ 2 + piles ts := by
  unfold listText
  rw [strLen_append]
  have h1 := from_len ts 0 "["
  have h2 : (("[" : Str)).length = 1 := by decide
  have h3 : (("]" : Str)).length = 1 := by decide
  omega
def Sh (d n : Nat) (x : D) : Prop := ∃ q, D.py x = some q ∧ PyData.showable q = true ∧ PyData.hasDict q = false ∧ PyData.canLay0 q = true ∧ q.depth ≤ d ∧ (PyData.shown q).length ≤ n
theorem Sh.mono {d n e m : Nat} {x : D} (h : Sh d n x) (h1 : d ≤ e) (h2 : n ≤ m) : Sh e m x :=
  let ⟨q, a, b, c, l, g, k⟩ := h
  ⟨q, a, b, c, l, Nat.le_trans g h1, Nat.le_trans k h2⟩
theorem Sh.all {d n : Nat} : ∀ {xs : List D}, (∀ x ∈ xs, Sh d n x) → ∃ qs, D.pys xs = some qs ∧ PyData.showableAll qs = true ∧ PyData.hasDictAll qs = false ∧ PyData.canLayAll0 qs = true ∧ PyData.depthAll qs ≤ d ∧ piles (PyData.shownAll qs) ≤ xs.length * (n + 2)
  | [], _ => ⟨[], by simp [D.pys, PyData.showableAll, PyData.hasDictAll, PyData.canLayAll0, PyData.depthAll, PyData.shownAll, piles]⟩
  | x :: xs, h => by
    obtain ⟨q, a1, b1, c1, l1, g1, k1⟩ := h x (List.mem_cons_self ..)
    obtain ⟨qs, a2, b2, c2, l2, g2, k2⟩ := Sh.all (xs := xs) fun y hy => h y (List.mem_cons_of_mem _ hy)
    refine ⟨q :: qs, by simp [D.pys, a1, a2], by simp [PyData.showableAll, b1, b2], by simp [PyData.hasDictAll, c1, c2], by simp [PyData.canLayAll0, l1, l2], by simp only [PyData.depthAll]; omega, ?_⟩
    simp only [PyData.shownAll, piles, List.map_cons, List.sum_cons, List.length_cons, Nat.add_mul] at k2 ⊢
    omega
theorem Sh.tup {d n : Nat} {xs : List D} (h : ∀ x ∈ xs, Sh d n x) : Sh (d + 1) (3 + xs.length * (n + 2)) (.tup xs) := by
  obtain ⟨qs, a, b, c, l, g, k⟩ := Sh.all h
  refine ⟨.tuple qs, by simp [D.py, a], by simpa [PyData.showable] using b, by simpa [PyData.hasDict] using c, by simpa [PyData.canLay0] using l, by simp only [PyData.depth]; omega, ?_⟩
  have := tup_len (PyData.shownAll qs)
  simp only [PyData.shown]
  omega
theorem Sh.lst {d n : Nat} {xs : List D} (h : ∀ x ∈ xs, Sh d n x) : Sh (d + 1) (2 + xs.length * (n + 2)) (.lst xs) := by
  obtain ⟨qs, a, b, c, l, g, k⟩ := Sh.all h
  refine ⟨.list qs, by simp [D.py, a], by simpa [PyData.showable] using b, by simpa [PyData.hasDict] using c, by simpa [PyData.canLay0] using l, by simp only [PyData.depth]; omega, ?_⟩
  have := lst_len (PyData.shownAll qs)
  simp only [PyData.shown]
  omega
theorem small_int : ∀ k : Fin 100, PyData.showable (.int (k.val : Nat)) = true ∧ (PyData.shown (.int (k.val : Nat))).length ≤ 2 := by decide +kernel
theorem Sh.int {i : Int} (h0 : 0 ≤ i) (h1 : i < 100) : Sh 0 2 (.int i) := by
  have := small_int ⟨i.toNat, by omega⟩
  have e : ((i.toNat : Nat) : Int) = i := by omega
  simp only [e] at this
  exact ⟨.int i, rfl, this.1, by simp [PyData.hasDict], by simp [PyData.canLay0], by simp [PyData.depth], this.2⟩
theorem small_str : ∀ k : Fin 26, (PyData.shown (.str (toS [97 + k.val]))).length ≤ 3 := by decide +kernel
theorem Sh.letter {c : Nat} (h0 : 97 ≤ c) (h1 : c < 123) : Sh 0 3 (.str [c]) := by
  have := small_str ⟨c - 97, by omega⟩
  have e : 97 + (c - 97) = c := by omega
  simp only [e] at this
  exact ⟨.str (toS [c]), rfl, by simp [PyData.showable], by simp [PyData.hasDict], by simp only [PyData.canLay0]; exact strOk_ascii fun x hx => by simp at hx; omega, by simp [PyData.depth], this⟩
theorem Sh.rep {d n : Nat} {x : D} (h : Sh d n x) (h1 : d ≤ 64) (h2 : n ≤ 16777216) : ∃ t, gRepr [x] = some (.fr (.str t)) := by
  obtain ⟨q, a, b, c, l, g, k⟩ := h
  have k' : (PyData.shown q).length ≤ 16777216 := by omega
  have g' : q.depth ≤ 64 := by omega
  exact ⟨_, by simp only [gRepr, a, b, c]; rw [if_pos (by simp [k', g'])]⟩
theorem Sh.same {d n : Nat} {x : D} (neg : Bool) (h : Sh d n x) (h1 : d ≤ 64) (h2 : eqS x x = none) : gEq neg x x = some (tb (true != neg)) := by
  obtain ⟨q, a, b, c, l, g, k⟩ := h
  have s : SeqAt.shaped q = true := by
    unfold SeqAt.shaped
    rw [l, decide_eq_true (show q.depth ≤ 64 by omega)]
    rfl
  simp [gEq, h2, eqP, a, s, SeqAt.eqv_refl q l]
/-! ### letters -/
abbrev letD (c : Nat) : D := .str [c]
theorem fvs_let : ∀ cs : List Nat, fvs (cs.map letD) = some (cs.map fun c => V.str (toS [c]))
  | [] => rfl
  | c :: cs => by
    rw [List.map_cons]
    simp only [fvs, D.fv, fvs_let cs, List.map_cons]
theorem inV_let (c : Nat) : ∀ cs : List Nat, inV (.str (toS [c])) (cs.map fun c => V.str (toS [c])) = decide (c ∈ cs) := by
  intro cs
  induction cs with
  | nil => rfl
  | cons d cs ih =>
    unfold inV at ih ⊢
    rw [List.map_cons, List.any_cons, ih]
    have e : eqV (.str (toS [d])) (.str (toS [c])) = decide (c = d) := by
      show decide (toS [d] = toS [c]) = _
      by_cases h : c = d
      · subst h; simp
      · have n : ¬ toS [d] = toS [c] := fun z => h (by have := toS_inj z; simp at this; exact this.symm)
        rw [decide_eq_false h, decide_eq_false n]
    rw [e]
    by_cases h1 : c = d <;> by_cases h2 : c ∈ cs <;> simp [h1, h2] <;> (try subst h1) <;> simp [h2]
theorem in_let (neg : Bool) (c : Nat) (cs : List Nat) : gIn neg (letD c) (.lst (cs.map letD)) = some (tb (decide (c ∈ cs) != neg)) := by
  have h := fvs_let cs
  simp only [gIn, gInS, gInL, D.fv, h, inV_let, Option.or]
theorem ix_let {cs : List Nat} {c : Nat} (hc : c ∈ cs) (ha : ∀ x ∈ cs, x < 128) : gIndex (.lst (cs.map letD)) [letD c] = some (.fr (.int (cs.idxOf c : Nat))) := by
  have p1 : D.pys (cs.map letD) = some (cs.map fun x => PyData.str (toS [x])) := by
    have := pys_strs (cs.map fun x => [x])
    simpa [List.map_map, Function.comp_def] using this
  have s1 : SeqAt.shaped (.list (cs.map fun x => PyData.str (toS [x]))) = true := by
    have := shaped_strs (xs := cs.map fun x => [x]) (fun x hx d hd => by
      obtain ⟨y, hy, rfl⟩ := List.mem_map.mp hx
      rw [List.mem_singleton.mp hd]
      exact ha y hy)
    simpa [List.map_map, Function.comp_def] using this
  have s2 : SeqAt.shaped (.str (toS [c])) = true := by
    unfold SeqAt.shaped
    rw [show PyData.canLay0 (.str (toS [c])) = true from by simp only [PyData.canLay0]; exact strOk_ascii fun x hx => by simp at hx; rw [hx]; exact ha c hc]
    rfl
  have f1 : (cs.map fun x => PyData.str (toS [x])).findIdx? (fun z => PyData.eqv z (.str (toS [c]))) = some (cs.idxOf c) := by
    rw [List.findIdx?_map]
    have e : ((fun z => PyData.eqv z (.str (toS [c]))) ∘ fun x => PyData.str (toS [x])) = fun x => x == c := by
      funext x
      show PyData.eqv (.str (toS [x])) (.str (toS [c])) = (x == c)
      rw [show PyData.eqv (.str (toS [x])) (.str (toS [c])) = (toS [x] == toS [c]) from rfl]
      by_cases h : x = c
      · subst h; simp
      · have n : ¬ toS [x] = toS [c] := fun z => h (by have := toS_inj z; simpa using this)
        rw [beq_eq_false_iff_ne.mpr n, beq_eq_false_iff_ne.mpr h]
    rw [e]
    have := List.findIdx?_eq_some_of_exists (xs := cs) (p := fun x => x == c) ⟨c, hc, by simp⟩
    rw [this]
    rfl
  unfold gIndex
  simp only [p1, D.py, s1, s2, f1]
  rfl
end FL

namespace L93
open PySem PySem.Spec PyProof.Rows L2 FL

abbrev tp (i : Nat) : Stmt := PySem.Challenge.pw_findlang_k93_lists_made_again.main.body.getD i (.Pass ⟨0, 0, 0, 0⟩)
structure Txt (P : Program) (w : World) (K : PySem.W.Frag) (mg : Str → Option Value) (base : Heap) : Prop where
  n_enumerate : mg "enumerate" = none
  n_len : mg "len" = none
  n_list : mg "list" = none
  n_max : mg "max" = none
  n_min : mg "min" = none
  n_range : mg "range" = none
  n_repr : mg "repr" = none
  n_sorted : mg "sorted" = none
  n_tuple : mg "tuple" = none
  d__law_source : ∃ f fd, Fd K "_law_source" "_law_source" (tp 4) f fd .none ∧ mg "_law_source" = some (.ref f) ∧ PySem.W.keepIn K (.ref f) = true
  d__law_next : ∃ f fd, Fd K "_law_next" "_law_next" (tp 5) f fd .none ∧ mg "_law_next" = some (.ref f) ∧ PySem.W.keepIn K (.ref f) = true
  d__law_pick : ∃ f fd, Fd K "_law_pick" "_law_pick" (tp 6) f fd .none ∧ mg "_law_pick" = some (.ref f) ∧ PySem.W.keepIn K (.ref f) = true
  d__law_ordered : ∃ f fd, Fd K "_law_ordered" "_law_ordered" (tp 7) f fd .none ∧ mg "_law_ordered" = some (.ref f) ∧ PySem.W.keepIn K (.ref f) = true
  d__law_drawn_list : ∃ f fd, Fd K "_law_drawn_list" "_law_drawn_list" (tp 9) f fd .none ∧ mg "_law_drawn_list" = some (.ref f) ∧ PySem.W.keepIn K (.ref f) = true
  d__law_events : ∃ f fd, Fd K "_law_events" "_law_events" (tp 8) f fd .none ∧ mg "_law_events" = some (.ref f) ∧ PySem.W.keepIn K (.ref f) = true
  d_ranks_of : ∃ f fd, Fd K "ranks_of" "ranks_of" (tp 1) f fd .none ∧ mg "ranks_of" = some (.ref f) ∧ PySem.W.keepIn K (.ref f) = true
  d_after_events : ∃ f fd, Fd K "after_events" "after_events" (tp 2) f fd .none ∧ mg "after_events" = some (.ref f) ∧ PySem.W.keepIn K (.ref f) = true
/-! _law_source -/
def sc__law_source : Scope := { kind := .function, names := [("_law_script", .local), ("_law_k", .local), ("_law_cell", .local), ("len", .globalImplicit)], isGenerator := false, isCoroutine := false, more := [] }
theorem scf__law_source : FnScope ["_law_script", "_law_k", "_law_cell"] ["_law_script", "_law_k"] sc__law_source := ⟨rfl, rfl, rfl, by decide +kernel, rfl, by decide +kernel, by decide +kernel⟩
noncomputable def b__law_source : MS := (mSeq (mSet 2 (mIf (mTb (m2 (gEq true) (.v 0) (.e (mLst [])))) (m2 gIxL (.v 0) (.e (m2 gMod (.v 1) (.e (mC gLen [(.v 0)]))))) (mD (.int 1))))
    (mRet (mShare (mLst [(mV 2), (m2 gMulA (.e (mD (.int 3))) (.v 1)), (mIf (mTb (m2 gGe (.v 2) (.e (m2 gPow (.e (mD (.int 10))) (.e (mD (.int 18))))))) (m2 gDiv (.v 2) (.e (m2 gPow (.e (mD (.int 10))) (.e (mD (.int 18)))))) (mD (.int 0)))]))))
noncomputable def m__law_source : MF := mFn 3 b__law_source
theorem g__law_source {P : Program} {w : World} {K : PySem.W.Frag} {mg : Str → Option Value} {base : Heap} {f : Addr} {fd : FuncData} (F : Fd K "_law_source" "_law_source" (tp 4) f fd .none) (T : Txt P w K mg base) : FnG P w K mg base (L2.CX P w) (0 + 1) f fd ["_law_script", "_law_k"] (spM K mg (mFn 3 b__law_source) 2) := by
  refine fnG_s (N := ["_law_script", "_law_k", "_law_cell"]) (sc := sc__law_source) F scf__law_source (by kernel_rfl) rfl ?_
  intro X W hP hw hK hM hB C
  subst hP hw hK hM hB
  exact (jss_cons (C.set (by decide +kernel) (je_if (C.neT (C.ov (by decide +kernel)) (jo_e (je_lst ja_nil))) (ix_ (C.ov (by decide +kernel)) (jo_e (mod_ (C.ov (by decide +kernel)) (jo_e (C.bi (by decide +kernel) T.n_len PySem.boot_len o_len j_len (jos_cons (C.ov (by decide +kernel)) jos_nil))))) (by intro _ _; rfl)) je_int))
    (jss_one (js_ret (je_share (je_lst (ja_cons (C.v (by decide +kernel)) (ja_cons (mul_ (jo_e je_int) (C.ov (by decide +kernel))) (ja_cons (je_if (geT (C.ov (by decide +kernel)) (jo_e (pow_ (jo_e je_int) (jo_e je_int)))) (div_ (C.ov (by decide +kernel)) (jo_e (pow_ (jo_e je_int) (jo_e je_int)))) je_int) ja_nil))))))))
theorem bd__law_source {K : PySem.W.Frag} {f : Addr} {fd : FuncData} (F : Fd K "_law_source" "_law_source" (tp 4) f fd .none) : Binds K fd ["_law_script", "_law_k"] [] :=
  F.binds fun _ _ _ _ _ _ us hl => match us, hl with | [_, _], _ => by kernel_rfl
theorem ok__law_source {P : Program} {w : World} {K : PySem.W.Frag} {mg : Str → Option Value} {base : Heap} (T : Txt P w K mg base) : Fu P w K mg base 1 "_law_source" m__law_source 2 [] := by
  obtain ⟨f, fd, F, hm, hk⟩ := T.d__law_source
  exact Fu.mk0 (g__law_source F T) hm hk (bd__law_source F)

/-! _law_next -/
def sc__law_next : Scope := { kind := .function, names := [("_law_source_here", .local), ("_law_many", .local), ("_law_found", .local), ("_law_primes", .local), ("_law_prime", .local)], isGenerator := false, isCoroutine := false, more := [] }
theorem scf__law_next : FnScope ["_law_source_here", "_law_many", "_law_found", "_law_primes", "_law_prime"] ["_law_source_here", "_law_many"] sc__law_next := ⟨rfl, rfl, rfl, by decide +kernel, rfl, by decide +kernel, by decide +kernel⟩
noncomputable def b__law_next : MS := (mSeq (mIfS (mTb (m2 gGt (.e (m2 gIxL (.v 0) (.e (mD (.int 2))))) (.e (mD (.int 0))))) (mSeq (mSet 2 (m2 gMod (.e (m2 gIxL (.v 0) (.e (mD (.int 2))))) (.v 1)))
    (mSeq (mSetI gSetL (.v 0) (.e (mD (.int 2))) (m2 gDiv (.e (m2 gIxL (.v 0) (.e (mD (.int 2))))) (.v 1)))
    (mRet (mV 2))))
    mPass)
    (mSeq (mSetI gSetL (.v 0) (.e (mD (.int 1))) (m2 gAdd (.e (m2 gIxL (.v 0) (.e (mD (.int 1))))) (.e (mD (.int 1)))))
    (mSeq (mSet 3 (mLst [(mD (.int 2147483647)), (mD (.int 2147483629)), (mD (.int 2147483587)), (mD (.int 2147483579)), (mD (.int 2147483563)), (mD (.int 2147483549)), (mD (.int 2147483543)), (mD (.int 2147483497))]))
    (mSeq (mSet 4 (m2 gIxL (.e (m2 gAdd (.v 3) (.e (mLst [(mD (.int 2147483489)), (mD (.int 2147483477)), (mD (.int 2147483423))])))) (.e (m2 gMod (.e (m2 gIxL (.v 0) (.e (mD (.int 1))))) (.e (mD (.int 11)))))))
    (mRet (m2 gMod (.e (m2 gDiv (.e (m2 gMod (.e (m2 gPow (.e (m2 gAdd (.e (m2 gAdd (.e (m2 gMod (.e (m2 gIxL (.v 0) (.e (mD (.int 0))))) (.v 4))) (.e (m2 gMulA (.e (mD (.int 7919))) (.e (m2 gIxL (.v 0) (.e (mD (.int 1))))))))) (.e (mD (.int 1))))) (.e (mD (.int 5))))) (.v 4))) (.e (mD (.int 13))))) (.v 1)))))))
noncomputable def m__law_next : MF := mFn 5 b__law_next
theorem g__law_next {P : Program} {w : World} {K : PySem.W.Frag} {mg : Str → Option Value} {base : Heap} {f : Addr} {fd : FuncData} (F : Fd K "_law_next" "_law_next" (tp 5) f fd .none) (T : Txt P w K mg base) : FnG P w K mg base (L2.CX P w) (0 + 1) f fd ["_law_source_here", "_law_many"] (spM K mg (mFn 5 b__law_next) 2) := by
  refine fnG_s (N := ["_law_source_here", "_law_many", "_law_found", "_law_primes", "_law_prime"]) (sc := sc__law_next) F scf__law_next (by kernel_rfl) rfl ?_
  intro X W hP hw hK hM hB C
  subst hP hw hK hM hB
  exact (jss_cons (js_if (gtT (jo_e (ix_ (C.ov (by decide +kernel)) (jo_e je_int) (by intro _ _; rfl))) (jo_e je_int)) (jss_cons (C.set (by decide +kernel) (mod_ (jo_e (ix_ (C.ov (by decide +kernel)) (jo_e je_int) (by intro _ _; rfl))) (C.ov (by decide +kernel))))
    (jss_cons (setI_ (div_ (jo_e (ix_ (C.ov (by decide +kernel)) (jo_e je_int) (by intro _ _; rfl))) (C.ov (by decide +kernel))) (C.ov (by decide +kernel)) (jo_e je_int))
    (jss_one (js_ret (C.v (by decide +kernel))))))
    jss_nil)
    (jss_cons (setI_ (add_ (jo_e (ix_ (C.ov (by decide +kernel)) (jo_e je_int) (by intro _ _; rfl))) (jo_e je_int)) (C.ov (by decide +kernel)) (jo_e je_int))
    (jss_cons (C.set (by decide +kernel) (je_lst (ja_cons je_int (ja_cons je_int (ja_cons je_int (ja_cons je_int (ja_cons je_int (ja_cons je_int (ja_cons je_int (ja_cons je_int ja_nil))))))))))
    (jss_cons (C.set (by decide +kernel) (ix_ (jo_e (add_ (C.ov (by decide +kernel)) (jo_e (je_lst (ja_cons je_int (ja_cons je_int (ja_cons je_int ja_nil))))))) (jo_e (mod_ (jo_e (ix_ (C.ov (by decide +kernel)) (jo_e je_int) (by intro _ _; rfl))) (jo_e je_int))) (by intro _ _; rfl)))
    (jss_one (js_ret (mod_ (jo_e (div_ (jo_e (mod_ (jo_e (pow_ (jo_e (add_ (jo_e (add_ (jo_e (mod_ (jo_e (ix_ (C.ov (by decide +kernel)) (jo_e je_int) (by intro _ _; rfl))) (C.ov (by decide +kernel)))) (jo_e (mul_ (jo_e je_int) (jo_e (ix_ (C.ov (by decide +kernel)) (jo_e je_int) (by intro _ _; rfl))))))) (jo_e je_int))) (jo_e je_int))) (C.ov (by decide +kernel)))) (jo_e je_int))) (C.ov (by decide +kernel)))))))))
theorem bd__law_next {K : PySem.W.Frag} {f : Addr} {fd : FuncData} (F : Fd K "_law_next" "_law_next" (tp 5) f fd .none) : Binds K fd ["_law_source_here", "_law_many"] [] :=
  F.binds fun _ _ _ _ _ _ us hl => match us, hl with | [_, _], _ => by kernel_rfl
theorem ok__law_next {P : Program} {w : World} {K : PySem.W.Frag} {mg : Str → Option Value} {base : Heap} (T : Txt P w K mg base) : Fu P w K mg base 1 "_law_next" m__law_next 2 [] := by
  obtain ⟨f, fd, F, hm, hk⟩ := T.d__law_next
  exact Fu.mk0 (g__law_next F T) hm hk (bd__law_next F)

/-! _law_pick -/
def sc__law_pick : Scope := { kind := .function, names := [("_law_source_here", .local), ("_law_items", .local), ("_law_next", .globalImplicit), ("len", .globalImplicit)], isGenerator := false, isCoroutine := false, more := [] }
theorem scf__law_pick : FnScope ["_law_source_here", "_law_items"] ["_law_source_here", "_law_items"] sc__law_pick := ⟨rfl, rfl, rfl, by decide +kernel, rfl, by decide +kernel, by decide +kernel⟩
noncomputable def b__law_pick : MS := (mRet (m2 gIxL (.v 1) (.e (mCall m__law_next [(mV 0), (mC gLen [(.v 1)])] []))))
noncomputable def m__law_pick : MF := mFn 2 b__law_pick
theorem g__law_pick {P : Program} {w : World} {K : PySem.W.Frag} {mg : Str → Option Value} {base : Heap} {f : Addr} {fd : FuncData} (F : Fd K "_law_pick" "_law_pick" (tp 6) f fd .none) (T : Txt P w K mg base) : FnG P w K mg base (L2.CX P w) (1 + 1) f fd ["_law_source_here", "_law_items"] (spM K mg (mFn 2 b__law_pick) 2) := by
  refine fnG_s (N := ["_law_source_here", "_law_items"]) (sc := sc__law_pick) F scf__law_pick (by kernel_rfl) rfl ?_
  intro X W hP hw hK hM hB C
  subst hP hw hK hM hB
  exact (jss_one (js_ret (ix_ (C.ov (by decide +kernel)) (jo_e (je_call C.toCs (ok__law_next T) (by decide +kernel) (by decide +kernel) (ja_cons (C.v (by decide +kernel)) (ja_cons (C.bi (by decide +kernel) T.n_len PySem.boot_len o_len j_len (jos_cons (C.ov (by decide +kernel)) jos_nil)) ja_nil)) rfl)) (by intro _ _; rfl))))
theorem bd__law_pick {K : PySem.W.Frag} {f : Addr} {fd : FuncData} (F : Fd K "_law_pick" "_law_pick" (tp 6) f fd .none) : Binds K fd ["_law_source_here", "_law_items"] [] :=
  F.binds fun _ _ _ _ _ _ us hl => match us, hl with | [_, _], _ => by kernel_rfl
theorem ok__law_pick {P : Program} {w : World} {K : PySem.W.Frag} {mg : Str → Option Value} {base : Heap} (T : Txt P w K mg base) : Fu P w K mg base 2 "_law_pick" m__law_pick 2 [] := by
  obtain ⟨f, fd, F, hm, hk⟩ := T.d__law_pick
  exact Fu.mk0 (g__law_pick F T) hm hk (bd__law_pick F)

/-! _law_ordered -/
def sc__law_ordered : Scope := { kind := .function, names := [("_law_rows", .local), ("_law_found", .local), ("_law_key", .local), ("_law_worth", .local), ("_law_at", .local), ("_law_far", .local), ("_law_other", .local), ("_law_left", .local), ("_law_right", .local), ("len", .globalImplicit)], isGenerator := false, isCoroutine := false, more := [] }
theorem scf__law_ordered : FnScope ["_law_rows", "_law_found", "_law_key", "_law_worth", "_law_at", "_law_far", "_law_other", "_law_left", "_law_right"] ["_law_rows"] sc__law_ordered := ⟨rfl, rfl, rfl, by decide +kernel, rfl, by decide +kernel, by decide +kernel⟩
noncomputable def b__law_ordered : MS := (mSeq (mSet 1 (mLst []))
    (mSeq (mFor (mIt (mV 0)) (tgT 2 (tgC (tgV 2) (tgC (tgV 3) tgN))) (mSeq (mSet 4 (mD (.int 0)))
    (mSeq (mWhile (mTb (m2 gLt (.v 4) (.e (mC gLen [(.v 1)])))) (mSeq (mAsg (tgT 2 (tgC (tgV 5) (tgC (tgV 6) tgN))) (m2 gIxL (.v 1) (.v 4)))
    (mSeq (mPar 7 8 (m2 gMulA (.e (m2 gIxL (.v 3) (.e (mD (.int 0))))) (.e (m2 gIxL (.v 6) (.e (mD (.int 1)))))) (m2 gMulA (.e (m2 gIxL (.v 6) (.e (mD (.int 0))))) (.e (m2 gIxL (.v 3) (.e (mD (.int 1)))))))
    (mSeq (mIfS (mOr (mTb (m2 gGt (.v 7) (.v 8))) (mAnd (mTb (m2 (gEq false) (.v 7) (.v 8))) (mTb (m2 gLt (.v 2) (.v 5))))) (fun δ μ => .bk δ μ)
    mPass)
    (mSet 4 (m2 gAdd (.v 4) (.e (mD (.int 1)))))))))
    (mEx (mMut "list" gInsert (.v 1) [(mV 4), (mTup [(mV 2), (mV 3)])])))))
    (mRet (mV 1))))
noncomputable def m__law_ordered : MF := mFn 9 b__law_ordered
theorem g__law_ordered {P : Program} {w : World} {K : PySem.W.Frag} {mg : Str → Option Value} {base : Heap} {f : Addr} {fd : FuncData} (F : Fd K "_law_ordered" "_law_ordered" (tp 7) f fd .none) (T : Txt P w K mg base) : FnG P w K mg base (L2.CX P w) (0 + 1) f fd ["_law_rows"] (spM K mg (mFn 9 b__law_ordered) 1) := by
  refine fnG_s (N := ["_law_rows", "_law_found", "_law_key", "_law_worth", "_law_at", "_law_far", "_law_other", "_law_left", "_law_right"]) (sc := sc__law_ordered) F scf__law_ordered (by kernel_rfl) rfl ?_
  intro X W hP hw hK hM hB C
  subst hP hw hK hM hB
  exact (jss_cons (C.set (by decide +kernel) (je_lst ja_nil))
    (jss_cons (js_for C.hp C.calm (ji_any (C.v (by decide +kernel))) (jg_t C.calm (jgs_cons (C.tg (by decide +kernel)) (jgs_cons (C.tg (by decide +kernel)) jgs_nil))) (jss_cons (C.set (by decide +kernel) je_int)
    (jss_cons (js_while C.hp (ltT (C.ov (by decide +kernel)) (jo_e (C.bi (by decide +kernel) T.n_len PySem.boot_len o_len j_len (jos_cons (C.ov (by decide +kernel)) jos_nil)))) (jss_cons (js_asg (ix_ (C.ov (by decide +kernel)) (C.ov (by decide +kernel)) (by intro _ _; rfl)) (jg_t C.calm (jgs_cons (C.tg (by decide +kernel)) (jgs_cons (C.tg (by decide +kernel)) jgs_nil))))
    (jss_cons (C.par (by decide +kernel) (by decide +kernel) (by decide) (mul_ (jo_e (ix_ (C.ov (by decide +kernel)) (jo_e je_int) (by intro _ _; rfl))) (jo_e (ix_ (C.ov (by decide +kernel)) (jo_e je_int) (by intro _ _; rfl)))) (mul_ (jo_e (ix_ (C.ov (by decide +kernel)) (jo_e je_int) (by intro _ _; rfl))) (jo_e (ix_ (C.ov (by decide +kernel)) (jo_e je_int) (by intro _ _; rfl)))) (by intro env he; simp only [swappedStores, Env.blockKind, Env.kindOf, he]; rfl))
    (jss_cons (js_if (jt_w (jw_or (gtT (C.ov (by decide +kernel)) (C.ov (by decide +kernel))) (jw_or1 (jt_w (jw_and (C.eqT (C.ov (by decide +kernel)) (C.ov (by decide +kernel))) (jw_and1 (ltT (C.ov (by decide +kernel)) (C.ov (by decide +kernel))))))))) (jss_one js_break)
    jss_nil)
    (jss_one (C.set (by decide +kernel) (add_ (C.ov (by decide +kernel)) (jo_e je_int))))))))
    (jss_one (js_expr (insert_ (C.ov (by decide +kernel)) (ja_cons (C.v (by decide +kernel)) (ja_cons (je_tup (ja_cons (C.v (by decide +kernel)) (ja_cons (C.v (by decide +kernel)) ja_nil))) ja_nil))))))))
    (jss_one (js_ret (C.v (by decide +kernel))))))
theorem bd__law_ordered {K : PySem.W.Frag} {f : Addr} {fd : FuncData} (F : Fd K "_law_ordered" "_law_ordered" (tp 7) f fd .none) : Binds K fd ["_law_rows"] [] :=
  F.binds fun _ _ _ _ _ _ us hl => match us, hl with | [_], _ => by kernel_rfl
theorem ok__law_ordered {P : Program} {w : World} {K : PySem.W.Frag} {mg : Str → Option Value} {base : Heap} (T : Txt P w K mg base) : Fu P w K mg base 1 "_law_ordered" m__law_ordered 1 [] := by
  obtain ⟨f, fd, F, hm, hk⟩ := T.d__law_ordered
  exact Fu.mk0 (g__law_ordered F T) hm hk (bd__law_ordered F)

/-! _law_drawn_list -/
def sc__law_drawn_list : Scope := { kind := .function, names := [("_law_source_here", .local), ("_law_rest", .local), ("_law_found", .local), ("_law_turn", .local), ("_law_key", .local), ("list", .globalImplicit), ("range", .globalImplicit), ("_law_next", .globalImplicit), ("len", .globalImplicit), ("_law_pick", .globalImplicit), ("_law_ordered", .globalImplicit)], isGenerator := false, isCoroutine := false, more := [] }
theorem scf__law_drawn_list : FnScope ["_law_source_here", "_law_rest", "_law_found", "_law_turn", "_law_key"] ["_law_source_here"] sc__law_drawn_list := ⟨rfl, rfl, rfl, by decide +kernel, rfl, by decide +kernel, by decide +kernel⟩
noncomputable def b__law_drawn_list : MS := (mSeq (mPar 1 2 (mC gListA [(.e (mD (.str (lit "abcdefghijklmn"))))]) (mLst []))
    (mSeq (mFor (mRange1 (.e (mCall m__law_next [(mV 0), (mD (.int 15))] []))) (tgV 3) (mSeq (mSet 4 (mMut "list" gPopAt (.v 1) [(mCall m__law_next [(mV 0), (mC gLen [(.v 1)])] [])]))
    (mEx (mMut "list" gAppend (.v 2) [(mTup [(mV 4), (mCall m__law_pick [(mV 0), (mLst [(mTup [(mD (.int 0)), (mD (.int 1))]), (mTup [(mD (.int 1)), (mD (.int 1))]), (mTup [(mD (.int 3)), (mD (.int 2))]), (mTup [(mD (.int 5)), (mD (.int 7))]), (mTup [(mD (.int 2)), (mD (.int 1))])])] [])])]))))
    (mRet (mCall m__law_ordered [(mV 2)] []))))
noncomputable def m__law_drawn_list : MF := mFn 5 b__law_drawn_list
theorem g__law_drawn_list {P : Program} {w : World} {K : PySem.W.Frag} {mg : Str → Option Value} {base : Heap} {f : Addr} {fd : FuncData} (F : Fd K "_law_drawn_list" "_law_drawn_list" (tp 9) f fd .none) (T : Txt P w K mg base) : FnG P w K mg base (L2.CX P w) (2 + 1) f fd ["_law_source_here"] (spM K mg (mFn 5 b__law_drawn_list) 1) := by
  refine fnG_s (N := ["_law_source_here", "_law_rest", "_law_found", "_law_turn", "_law_key"]) (sc := sc__law_drawn_list) F scf__law_drawn_list (by kernel_rfl) rfl ?_
  intro X W hP hw hK hM hB C
  subst hP hw hK hM hB
  exact (jss_cons (C.par (by decide +kernel) (by decide +kernel) (by decide) (C.bt (by decide +kernel) T.n_list (by decide +kernel) (o_listA C.calm) j_listA (jos_cons (jo_e je_str) jos_nil)) (je_lst ja_nil) (by intro env he; simp only [swappedStores, Env.blockKind, Env.kindOf, he]; rfl))
    (jss_cons (js_for C.hp C.calm (range1_ C.toCs (by decide +kernel) T.n_range (jos_cons (jo_e (je_call C.toCs (ok__law_next T) (by decide +kernel) (by decide +kernel) (ja_cons (C.v (by decide +kernel)) (ja_cons je_int ja_nil)) rfl)) jos_nil)) (C.tg (by decide +kernel)) (jss_cons (C.set (by decide +kernel) (popAt_ (C.ov (by decide +kernel)) (ja_cons (je_call C.toCs (ok__law_next T) (by decide +kernel) (by decide +kernel) (ja_cons (C.v (by decide +kernel)) (ja_cons (C.bi (by decide +kernel) T.n_len PySem.boot_len o_len j_len (jos_cons (C.ov (by decide +kernel)) jos_nil)) ja_nil)) rfl) ja_nil)))
    (jss_one (js_expr (append_ (C.ov (by decide +kernel)) (ja_cons (je_tup (ja_cons (C.v (by decide +kernel)) (ja_cons (je_call C.toCs (ok__law_pick T) (by decide +kernel) (by decide +kernel) (ja_cons (C.v (by decide +kernel)) (ja_cons (je_lst (ja_cons (je_tup (ja_cons je_int (ja_cons je_int ja_nil))) (ja_cons (je_tup (ja_cons je_int (ja_cons je_int ja_nil))) (ja_cons (je_tup (ja_cons je_int (ja_cons je_int ja_nil))) (ja_cons (je_tup (ja_cons je_int (ja_cons je_int ja_nil))) (ja_cons (je_tup (ja_cons je_int (ja_cons je_int ja_nil))) ja_nil)))))) ja_nil)) rfl) ja_nil))) ja_nil))))))
    (jss_one (js_ret (je_call C.toCs (ok__law_ordered T) (by decide +kernel) (by decide +kernel) (ja_cons (C.v (by decide +kernel)) ja_nil) rfl)))))
theorem bd__law_drawn_list {K : PySem.W.Frag} {f : Addr} {fd : FuncData} (F : Fd K "_law_drawn_list" "_law_drawn_list" (tp 9) f fd .none) : Binds K fd ["_law_source_here"] [] :=
  F.binds fun _ _ _ _ _ _ us hl => match us, hl with | [_], _ => by kernel_rfl
theorem ok__law_drawn_list {P : Program} {w : World} {K : PySem.W.Frag} {mg : Str → Option Value} {base : Heap} (T : Txt P w K mg base) : Fu P w K mg base 3 "_law_drawn_list" m__law_drawn_list 1 [] := by
  obtain ⟨f, fd, F, hm, hk⟩ := T.d__law_drawn_list
  exact Fu.mk0 (g__law_drawn_list F T) hm hk (bd__law_drawn_list F)

/-! _law_events -/
def sc__law_events : Scope := { kind := .function, names := [("_law_old", .local), ("_law_new", .local), ("_law_key", .local), ("_law_worth", .local), ("_law_old_keys", .local), ("_law_new_keys", .cell), ("_law_found", .local), ("_law_rank", .local), ("_law_before", .local), ("enumerate", .globalImplicit)], isGenerator := false, isCoroutine := false, more := [("fast", .str "_law_old"), ("fast", .str "_law_new"), ("fast", .str "_law_key"), ("fast", .str "_law_worth"), ("fast", .str "_law_old_keys"), ("fast", .str "_law_new_keys"), ("fast", .str "_law_found"), ("fast", .str "_law_rank"), ("fast", .str "_law_before")] }
theorem scf__law_events : FnScope ["_law_old", "_law_new", "_law_key", "_law_worth", "_law_old_keys", "_law_new_keys", "_law_found", "_law_rank", "_law_before"] ["_law_old", "_law_new"] sc__law_events := ⟨rfl, rfl, rfl, by decide +kernel, rfl, by decide +kernel, by decide +kernel⟩
noncomputable def b__law_events : MS := (mSeq (mAsg (tgT 2 (tgC (tgV 4) (tgC (tgV 5) tgN))) (mTup [(mLc (mIt (mV 0)) (tgT 2 (tgC (tgV 2) (tgC (tgV 3) tgN))) mYes (mV 2) [2, 3]), (mLc (mIt (mV 1)) (tgT 2 (tgC (tgV 2) (tgC (tgV 3) tgN))) mYes (mV 2) [2, 3])]))
    (mSeq (mSet 6 (mLc (mIt (mV 4)) (tgV 2) (mTb (m2 (gIn true) (.v 2) (.v 5))) (mTup [(mD (.str (lit "left"))), (mV 2)]) [2]))
    (mSeq (mFor (mEnum (mV 1)) (tgT 2 (tgC (tgV 7) (tgC (tgT 2 (tgC (tgV 2) (tgC (tgV 3) tgN))) tgN))) (mIfS (mTb (m2 (gIn true) (.v 2) (.v 4))) (mEx (mMut "list" gAppend (.v 6) [(mTup [(mD (.str (lit "entered"))), (mV 2), (mV 7), (mV 3)])]))
    mPass))
    (mSeq (mFor (mEnum (mV 1)) (tgT 2 (tgC (tgV 7) (tgC (tgT 2 (tgC (tgV 2) (tgC (tgV 3) tgN))) tgN))) (mIfS (mTb (m2 (gIn false) (.v 2) (.v 4))) (mSeq (mSet 8 (mM "list" gIndex (.v 4) [(.v 2)]))
    (mSeq (mIfS (mTb (m2 (gEq true) (.v 8) (.v 7))) (mEx (mMut "list" gAppend (.v 6) [(mTup [(mD (.str (lit "moved"))), (mV 2), (mV 8), (mV 7)])]))
    mPass)
    (mIfS (mTb (m2 (gEq true) (.e (m2 gIxL (.e (m2 gIxL (.v 0) (.v 8))) (.e (mD (.int 1))))) (.v 3))) (mEx (mMut "list" gAppend (.v 6) [(mTup [(mD (.str (lit "scored"))), (mV 2), (m2 gIxL (.e (m2 gIxL (.v 0) (.v 8))) (.e (mD (.int 1)))), (mV 3)])]))
    mPass)))
    mPass))
    (mRet (mV 6))))))
noncomputable def m__law_events : MF := mFn 9 b__law_events
theorem g__law_events {P : Program} {w : World} {K : PySem.W.Frag} {mg : Str → Option Value} {base : Heap} {f : Addr} {fd : FuncData} (F : Fd K "_law_events" "_law_events" (tp 8) f fd .none) (T : Txt P w K mg base) : FnG P w K mg base (L2.CX P w) (0 + 1) f fd ["_law_old", "_law_new"] (spM K mg (mFn 9 b__law_events) 2) := by
  refine fnG_s (N := ["_law_old", "_law_new", "_law_key", "_law_worth", "_law_old_keys", "_law_new_keys", "_law_found", "_law_rank", "_law_before"]) (sc := sc__law_events) F scf__law_events (by kernel_rfl) rfl ?_
  intro X W hP hw hK hM hB C
  subst hP hw hK hM hB
  exact (jss_cons (Cs.asgT C.toCs (je_tup (ja_cons (Cs.lc (Tx := Txt) C.toCs T [("_law_key", 2), ("_law_worth", 3)] (ji_any (C.v (by decide +kernel))) (by decide +kernel) (fun Y T1 C1 => ⟨(jg_t C1.calm (jgs_cons (C1.tg (by decide +kernel)) (jgs_cons (C1.tg (by decide +kernel)) jgs_nil))), jts_nil, (C1.v (by decide +kernel))⟩) (by rfl)) (ja_cons (Cs.lc (Tx := Txt) C.toCs T [("_law_key", 2), ("_law_worth", 3)] (ji_any (C.v (by decide +kernel))) (by decide +kernel) (fun Y T1 C1 => ⟨(jg_t C1.calm (jgs_cons (C1.tg (by decide +kernel)) (jgs_cons (C1.tg (by decide +kernel)) jgs_nil))), jts_nil, (C1.v (by decide +kernel))⟩) (by rfl)) ja_nil))) (jg_t C.calm (jgs_cons (C.tg (by decide +kernel)) (jgs_cons (C.tg (by decide +kernel)) jgs_nil))) (by intro env he; simp only [swappedStores, Env.blockKind, Env.kindOf, he]; rfl))
    (jss_cons (Cs.setLc (Tx := Txt) C.toCs T [("_law_key", 2)] (by decide +kernel) (by rfl) (by rfl) (by rfl) (by decide +kernel) (ji_any (C.v (by decide +kernel))) (by decide +kernel) (fun Y T1 C1 => ⟨(C1.tg (by decide +kernel)), (jts_one (ninT (C1.ov (by decide +kernel)) (C1.ov (by decide +kernel)))), (je_tup (ja_cons je_str (ja_cons (C1.v (by decide +kernel)) ja_nil)))⟩) (by rfl))
    (jss_cons (js_for C.hp C.calm (C.toCs.enum (by decide +kernel) T.n_enumerate (C.v (by decide +kernel))) (jg_t C.calm (jgs_cons (C.tg (by decide +kernel)) (jgs_cons (jg_t C.calm (jgs_cons (C.tg (by decide +kernel)) (jgs_cons (C.tg (by decide +kernel)) jgs_nil))) jgs_nil))) (jss_one (js_if (ninT (C.ov (by decide +kernel)) (C.ov (by decide +kernel))) (jss_one (js_expr (append_ (C.ov (by decide +kernel)) (ja_cons (je_tup (ja_cons je_str (ja_cons (C.v (by decide +kernel)) (ja_cons (C.v (by decide +kernel)) (ja_cons (C.v (by decide +kernel)) ja_nil))))) ja_nil))))
    jss_nil)))
    (jss_cons (js_for C.hp C.calm (C.toCs.enum (by decide +kernel) T.n_enumerate (C.v (by decide +kernel))) (jg_t C.calm (jgs_cons (C.tg (by decide +kernel)) (jgs_cons (jg_t C.calm (jgs_cons (C.tg (by decide +kernel)) (jgs_cons (C.tg (by decide +kernel)) jgs_nil))) jgs_nil))) (jss_one (js_if (inT (C.ov (by decide +kernel)) (C.ov (by decide +kernel))) (jss_cons (C.set (by decide +kernel) (C.toCs.index (C.ov (by decide +kernel)) (jos_cons (C.ov (by decide +kernel)) jos_nil)))
    (jss_cons (js_if (C.neT (C.ov (by decide +kernel)) (C.ov (by decide +kernel))) (jss_one (js_expr (append_ (C.ov (by decide +kernel)) (ja_cons (je_tup (ja_cons je_str (ja_cons (C.v (by decide +kernel)) (ja_cons (C.v (by decide +kernel)) (ja_cons (C.v (by decide +kernel)) ja_nil))))) ja_nil))))
    jss_nil)
    (jss_one (js_if (C.neT (jo_e (ix_ (jo_e (ix_ (C.ov (by decide +kernel)) (C.ov (by decide +kernel)) (by intro _ _; rfl))) (jo_e je_int) (by intro _ _; rfl))) (C.ov (by decide +kernel))) (jss_one (js_expr (append_ (C.ov (by decide +kernel)) (ja_cons (je_tup (ja_cons je_str (ja_cons (C.v (by decide +kernel)) (ja_cons (ix_ (jo_e (ix_ (C.ov (by decide +kernel)) (C.ov (by decide +kernel)) (by intro _ _; rfl))) (jo_e je_int) (by intro _ _; rfl)) (ja_cons (C.v (by decide +kernel)) ja_nil))))) ja_nil))))
    jss_nil))))
    jss_nil)))
    (jss_one (js_ret (C.v (by decide +kernel))))))))
theorem bd__law_events {K : PySem.W.Frag} {f : Addr} {fd : FuncData} (F : Fd K "_law_events" "_law_events" (tp 8) f fd .none) : Binds K fd ["_law_old", "_law_new"] [] :=
  F.binds fun _ _ _ _ _ _ us hl => match us, hl with | [_, _], _ => by kernel_rfl
theorem ok__law_events {P : Program} {w : World} {K : PySem.W.Frag} {mg : Str → Option Value} {base : Heap} (T : Txt P w K mg base) : Fu P w K mg base 1 "_law_events" m__law_events 2 [] := by
  obtain ⟨f, fd, F, hm, hk⟩ := T.d__law_events
  exact Fu.mk0 (g__law_events F T) hm hk (bd__law_events F)

/-! ranks_of -/
def sc_ranks_of : Scope := { kind := .function, names := [("entries", .local), ("enumerate", .globalImplicit)], isGenerator := false, isCoroutine := false, more := [("fast", .str "entries"), ("fast", .str "rank"), ("fast", .str "key"), ("fast", .str "score")] }
theorem scf_ranks_of : FnScope ["entries", "rank", "key", "score"] ["entries"] sc_ranks_of := ⟨rfl, rfl, rfl, by decide +kernel, rfl, by decide +kernel, by decide +kernel⟩
noncomputable def b_ranks_of : MS := (mRet (mDc (mEnum (mV 0)) (tgT 2 (tgC (tgV 1) (tgC (tgT 2 (tgC (tgV 2) (tgC (tgV 3) tgN))) tgN))) mYes (mV 2) (mTup [(mV 1), (mV 3)]) [1, 2, 3]))
noncomputable def m_ranks_of : MF := mFn 4 b_ranks_of
theorem g_ranks_of {P : Program} {w : World} {K : PySem.W.Frag} {mg : Str → Option Value} {base : Heap} {f : Addr} {fd : FuncData} (F : Fd K "ranks_of" "ranks_of" (tp 1) f fd .none) (T : Txt P w K mg base) : FnG P w K mg base (L2.CX P w) (0 + 1) f fd ["entries"] (spM K mg (mFn 4 b_ranks_of) 1) := by
  refine fnG_s (N := ["entries", "rank", "key", "score"]) (sc := sc_ranks_of) F scf_ranks_of (by kernel_rfl) rfl ?_
  intro X W hP hw hK hM hB C
  subst hP hw hK hM hB
  exact (jss_one (js_ret (Cs.dc (Tx := Txt) C.toCs T [("rank", 1), ("key", 2), ("score", 3)] (C.toCs.enum (by decide +kernel) T.n_enumerate (C.v (by decide +kernel))) (by decide +kernel) (fun Y T1 C1 => ⟨(jg_t C1.calm (jgs_cons (C1.tg (by decide +kernel)) (jgs_cons (jg_t C1.calm (jgs_cons (C1.tg (by decide +kernel)) (jgs_cons (C1.tg (by decide +kernel)) jgs_nil))) jgs_nil))), jts_nil, (C1.v (by decide +kernel)), (je_tup (ja_cons (C1.v (by decide +kernel)) (ja_cons (C1.v (by decide +kernel)) ja_nil)))⟩) (by rfl))))
theorem bd_ranks_of {K : PySem.W.Frag} {f : Addr} {fd : FuncData} (F : Fd K "ranks_of" "ranks_of" (tp 1) f fd .none) : Binds K fd ["entries"] [] :=
  F.binds fun _ _ _ _ _ _ us hl => match us, hl with | [_], _ => by kernel_rfl
theorem ok_ranks_of {P : Program} {w : World} {K : PySem.W.Frag} {mg : Str → Option Value} {base : Heap} (T : Txt P w K mg base) : Fu P w K mg base 1 "ranks_of" m_ranks_of 1 [] := by
  obtain ⟨f, fd, F, hm, hk⟩ := T.d_ranks_of
  exact Fu.mk0 (g_ranks_of F T) hm hk (bd_ranks_of F)

/-! after_events -/
def sc_after_events : Scope := { kind := .function, names := [("entries", .local), ("events", .local), ("table", .local), ("event", .local), ("word", .local), ("key", .local), ("ordered", .local), ("ranks_of", .globalImplicit), ("sorted", .globalImplicit), ("tuple", .globalImplicit)], isGenerator := false, isCoroutine := false, more := [("fast", .str "entries"), ("fast", .str "events"), ("fast", .str "table"), ("fast", .str "event"), ("fast", .str "word"), ("fast", .str "key"), ("fast", .str "rank"), ("fast", .str "score"), ("fast", .str "ordered")] }
theorem scf_after_events : FnScope ["entries", "events", "table", "event", "word", "key", "ordered", "rank", "score"] ["entries", "events"] sc_after_events := ⟨rfl, rfl, rfl, by decide +kernel, rfl, by decide +kernel, by decide +kernel⟩
noncomputable def b_after_events : MS := (mSeq (mSet 2 (mCall m_ranks_of [(mV 0)] []))
    (mSeq (mFor (mIt (mV 1)) (tgV 3) (mSeq (mPar 4 5 (m2 gIxL (.v 3) (.e (mD (.int 0)))) (m2 gIxL (.v 3) (.e (mD (.int 1)))))
    (mIfS (mTb (m2 (gEq false) (.v 4) (.e (mD (.str (lit "left")))))) (mEx (mPopD (.v 2) (mV 5)))
    (mIfS (mTb (m2 (gEq false) (.v 4) (.e (mD (.str (lit "entered")))))) (mSetI gSetD (.v 2) (.v 5) (mTup [(m2 gIxL (.v 3) (.e (mD (.int 2)))), (m2 gIxL (.v 3) (.e (mD (.int 3))))]))
    (mIfS (mTb (m2 (gEq false) (.v 4) (.e (mD (.str (lit "moved")))))) (mSetI gSetD (.v 2) (.v 5) (mTup [(m2 gIxL (.v 3) (.e (mD (.int 3)))), (m2 gIxL (.e (m2 gGetD (.v 2) (.v 5))) (.e (mD (.int 1))))]))
    (mSetI gSetD (.v 2) (.v 5) (mTup [(m2 gIxL (.e (m2 gGetD (.v 2) (.v 5))) (.e (mD (.int 0)))), (m2 gIxL (.v 3) (.e (mD (.int 3))))])))))))
    (mSeq (mSet 6 (mC gSorted [(.e (mLc (mItems 2) (tgT 2 (tgC (tgV 5) (tgC (tgT 2 (tgC (tgV 7) (tgC (tgV 8) tgN))) tgN))) mYes (mTup [(mV 7), (mV 5), (mV 8)]) [5, 7, 8]))]))
    (mRet (mC gTuple [(.e (mLc (mIt (mV 6)) (tgT 3 (tgC (tgV 7) (tgC (tgV 5) (tgC (tgV 8) tgN)))) mYes (mTup [(mV 5), (mV 8)]) [7, 5, 8]))])))))
noncomputable def m_after_events : MF := mFn 9 b_after_events
theorem g_after_events {P : Program} {w : World} {K : PySem.W.Frag} {mg : Str → Option Value} {base : Heap} {f : Addr} {fd : FuncData} (F : Fd K "after_events" "after_events" (tp 2) f fd .none) (T : Txt P w K mg base) : FnG P w K mg base (L2.CX P w) (1 + 1) f fd ["entries", "events"] (spM K mg (mFn 9 b_after_events) 2) := by
  refine fnG_s (N := ["entries", "events", "table", "event", "word", "key", "ordered", "rank", "score"]) (sc := sc_after_events) F scf_after_events (by kernel_rfl) rfl ?_
  intro X W hP hw hK hM hB C
  subst hP hw hK hM hB
  exact (jss_cons (C.set (by decide +kernel) (je_call C.toCs (ok_ranks_of T) (by decide +kernel) (by decide +kernel) (ja_cons (C.v (by decide +kernel)) ja_nil) rfl))
    (jss_cons (js_for C.hp C.calm (ji_any (C.v (by decide +kernel))) (C.tg (by decide +kernel)) (jss_cons (C.par (by decide +kernel) (by decide +kernel) (by decide) (ix_ (C.ov (by decide +kernel)) (jo_e je_int) (by intro _ _; rfl)) (ix_ (C.ov (by decide +kernel)) (jo_e je_int) (by intro _ _; rfl)) (by intro env he; simp only [swappedStores, Env.blockKind, Env.kindOf, he]; rfl))
    (jss_one (js_if (C.eqT (C.ov (by decide +kernel)) (jo_e je_str)) (jss_one (js_expr (popD_ (C.ov (by decide +kernel)) (C.v (by decide +kernel)))))
    (jss_one (js_if (C.eqT (C.ov (by decide +kernel)) (jo_e je_str)) (jss_one (C.setD (je_tup (ja_cons (ix_ (C.ov (by decide +kernel)) (jo_e je_int) (by intro _ _; rfl)) (ja_cons (ix_ (C.ov (by decide +kernel)) (jo_e je_int) (by intro _ _; rfl)) ja_nil))) (C.ov (by decide +kernel)) (C.ov (by decide +kernel))))
    (jss_one (js_if (C.eqT (C.ov (by decide +kernel)) (jo_e je_str)) (jss_one (C.setD (je_tup (ja_cons (ix_ (C.ov (by decide +kernel)) (jo_e je_int) (by intro _ _; rfl)) (ja_cons (ix_ (jo_e (C.toCs.getD (C.ov (by decide +kernel)) (C.ov (by decide +kernel)) (by intro _ _; rfl))) (jo_e je_int) (by intro _ _; rfl)) ja_nil))) (C.ov (by decide +kernel)) (C.ov (by decide +kernel))))
    (jss_one (C.setD (je_tup (ja_cons (ix_ (jo_e (C.toCs.getD (C.ov (by decide +kernel)) (C.ov (by decide +kernel)) (by intro _ _; rfl))) (jo_e je_int) (by intro _ _; rfl)) (ja_cons (ix_ (C.ov (by decide +kernel)) (jo_e je_int) (by intro _ _; rfl)) ja_nil))) (C.ov (by decide +kernel)) (C.ov (by decide +kernel))))))))))))
    (jss_cons (C.set (by decide +kernel) (C.bi (by decide +kernel) T.n_sorted (by decide +kernel) cr_sortZ j_sorted (jos_cons (jo_e (Cs.lc (Tx := Txt) C.toCs T [("key", 5), ("rank", 7), ("score", 8)] (C.toCs.items (by decide +kernel)) (by decide +kernel) (fun Y T1 C1 => ⟨(jg_t C1.calm (jgs_cons (C1.tg (by decide +kernel)) (jgs_cons (jg_t C1.calm (jgs_cons (C1.tg (by decide +kernel)) (jgs_cons (C1.tg (by decide +kernel)) jgs_nil))) jgs_nil))), jts_nil, (je_tup (ja_cons (C1.v (by decide +kernel)) (ja_cons (C1.v (by decide +kernel)) (ja_cons (C1.v (by decide +kernel)) ja_nil))))⟩) (by rfl))) jos_nil)))
    (jss_one (js_ret (C.bt (by decide +kernel) T.n_tuple (by decide +kernel) o_tuple j_tuple (jos_cons (jo_e (Cs.lc (Tx := Txt) C.toCs T [("rank", 7), ("key", 5), ("score", 8)] (ji_any (C.v (by decide +kernel))) (by decide +kernel) (fun Y T1 C1 => ⟨(jg_t C1.calm (jgs_cons (C1.tg (by decide +kernel)) (jgs_cons (C1.tg (by decide +kernel)) (jgs_cons (C1.tg (by decide +kernel)) jgs_nil)))), jts_nil, (je_tup (ja_cons (C1.v (by decide +kernel)) (ja_cons (C1.v (by decide +kernel)) ja_nil)))⟩) (by rfl))) jos_nil)))))))
theorem bd_after_events {K : PySem.W.Frag} {f : Addr} {fd : FuncData} (F : Fd K "after_events" "after_events" (tp 2) f fd .none) : Binds K fd ["entries", "events"] [] :=
  F.binds fun _ _ _ _ _ _ us hl => match us, hl with | [_, _], _ => by kernel_rfl
theorem ok_after_events {P : Program} {w : World} {K : PySem.W.Frag} {mg : Str → Option Value} {base : Heap} (T : Txt P w K mg base) : Fu P w K mg base 2 "after_events" m_after_events 2 [] := by
  obtain ⟨f, fd, F, hm, hk⟩ := T.d_after_events
  exact Fu.mk0 (g_after_events F T) hm hk (bd_after_events F)

/-! law -/
def sc_law : Scope := { kind := .function, names := [("_law_script", .cell), ("_law_source_here", .local), ("_law_old", .local), ("_law_turn", .local), ("_law_new", .local), ("_law_events_here", .local), ("_law_kept", .local), ("_law_copied", .local), ("_law_told", .local), ("range", .globalImplicit), ("max", .globalImplicit), ("min", .globalImplicit), ("len", .globalImplicit), ("_law_drawn_list", .globalImplicit), ("_law_events", .globalImplicit), ("tuple", .globalImplicit), ("repr", .globalImplicit), ("after_events", .globalImplicit)], isGenerator := false, isCoroutine := false, more := [("fast", .str "_law_script"), ("fast", .str "_law_k"), ("fast", .str "_law_source_here"), ("fast", .str "_law_old"), ("fast", .str "_law_turn"), ("fast", .str "_law_new"), ("fast", .str "_law_events_here"), ("fast", .str "_law_kept"), ("fast", .str "_law_copied"), ("fast", .str "_law_told")] }
theorem scf_law : FnScope ["_law_script", "_law_source_here", "_law_old", "_law_turn", "_law_new", "_law_events_here", "_law_kept", "_law_copied", "_law_told", "_law_k"] ["_law_script"] sc_law := ⟨rfl, rfl, rfl, by decide +kernel, rfl, by decide +kernel, by decide +kernel⟩
noncomputable def b_law : MS := (mSeq (mFor (mIt (mLc (mRange1 (.e (mC gMax2 [(.e (mD (.int 1))), (.e (mC gMin2 [(.e (mD (.int 3))), (.e (mC gLen [(.v 0)]))]))]))) (tgV 9) mYes (mCall m__law_source [(mV 0), (mV 9)] []) [9])) (tgV 1) (mSeq (mSet 2 (mCall m__law_drawn_list [(mV 1)] []))
    (mFor (mRange1 (.e (mD (.int 6)))) (tgV 3) (mSeq (mSet 4 (mCall m__law_drawn_list [(mV 1)] []))
    (mSeq (mPar 5 6 (mCall m__law_events [(mV 2), (mV 4)] []) (mC gTuple [(.v 2)]))
    (mSeq (mSet 7 (mC gRepr [(.v 5)]))
    (mSeq (mIfS (mOr (mTb (m2 (gEq true) (.e (mC gRepr [(.e (mCall m_after_events [(mV 6), (mV 5)] []))])) (.e (mC gRepr [(.e (mC gTuple [(.v 4)]))])))) (mOr (mTb (m2 (gEq true) (.e (mC gRepr [(.v 5)])) (.v 7))) (mTb (m2 (gEq true) (.v 6) (.e (mC gTuple [(.v 2)])))))) (mRet (mD (.bl false)))
    mPass)
    (mSet 2 (mV 4)))))))))
    (mSeq (mSet 5 (mLst [(mTup [(mD (.str (lit "left"))), (mD (.str (lit "a")))]), (mTup [(mD (.str (lit "entered"))), (mD (.str (lit "c"))), (mD (.int 0)), (mTup [(mD (.int 2)), (mD (.int 1))])]), (mTup [(mD (.str (lit "entered"))), (mD (.str (lit "d"))), (mD (.int 1)), (mTup [(mD (.int 1)), (mD (.int 1))])]), (mTup [(mD (.str (lit "moved"))), (mD (.str (lit "b"))), (mD (.int 1)), (mD (.int 2))])]))
    (mSeq (mEx (mMut "list" gAppend (.v 5) [(mTup [(mD (.str (lit "scored"))), (mD (.str (lit "b"))), (mTup [(mD (.int 1)), (mD (.int 1))]), (mTup [(mD (.int 1)), (mD (.int 2))])])]))
    (mSeq (mSet 8 (mCall m_after_events [(mTup [(mTup [(mD (.str (lit "a"))), (mTup [(mD (.int 3)), (mD (.int 1))])]), (mTup [(mD (.str (lit "b"))), (mTup [(mD (.int 1)), (mD (.int 1))])])]), (mV 5)] []))
    (mRet (mAndV (m2 (gEq false) (.v 8) (.e (mTup [(mTup [(mD (.str (lit "c"))), (mTup [(mD (.int 2)), (mD (.int 1))])]), (mTup [(mD (.str (lit "d"))), (mTup [(mD (.int 1)), (mD (.int 1))])]), (mTup [(mD (.str (lit "b"))), (mTup [(mD (.int 1)), (mD (.int 2))])])]))) (m2 (gEq false) (.e (mCall m_after_events [(mTup []), (mLst [])] [])) (.e (mTup [])))))))))
noncomputable def m_law : MF := mFn 10 b_law
theorem g_law {P : Program} {w : World} {K : PySem.W.Frag} {mg : Str → Option Value} {base : Heap} {f : Addr} {fd : FuncData} (F : Fd K "law" "law" (tp 10) f fd .none) (T : Txt P w K mg base) : FnG P w K mg base (L2.CX P w) (3 + 1) f fd ["_law_script"] (spM K mg (mFn 10 b_law) 1) := by
  refine fnG_s (N := ["_law_script", "_law_source_here", "_law_old", "_law_turn", "_law_new", "_law_events_here", "_law_kept", "_law_copied", "_law_told", "_law_k"]) (sc := sc_law) F scf_law (by kernel_rfl) rfl ?_
  intro X W hP hw hK hM hB C
  subst hP hw hK hM hB
  exact (jss_cons (js_for C.hp C.calm (ji_any (Cs.lc (Tx := Txt) C.toCs T [("_law_k", 9)] (range1_ C.toCs (by decide +kernel) T.n_range (jos_cons (jo_e (C.bi (by decide +kernel) T.n_max (by decide +kernel) (call_max2 C.calm) j_max2 (jos_cons (jo_e je_int) (jos_cons (jo_e (C.bi (by decide +kernel) T.n_min (by decide +kernel) (call_min2 C.calm) j_min2 (jos_cons (jo_e je_int) (jos_cons (jo_e (C.bi (by decide +kernel) T.n_len PySem.boot_len o_len j_len (jos_cons (C.ov (by decide +kernel)) jos_nil))) jos_nil)))) jos_nil)))) jos_nil)) (by decide +kernel) (fun Y T1 C1 => ⟨(C1.tg (by decide +kernel)), jts_nil, (je_call C1 (ok__law_source T1) (by decide +kernel) (by decide +kernel) (ja_cons (C1.v (by decide +kernel)) (ja_cons (C1.v (by decide +kernel)) ja_nil)) rfl)⟩) (by rfl))) (C.tg (by decide +kernel)) (jss_cons (C.set (by decide +kernel) (je_call C.toCs (ok__law_drawn_list T) (by decide +kernel) (by decide +kernel) (ja_cons (C.v (by decide +kernel)) ja_nil) rfl))
    (jss_one (js_for C.hp C.calm (range1_ C.toCs (by decide +kernel) T.n_range (jos_cons (jo_e je_int) jos_nil)) (C.tg (by decide +kernel)) (jss_cons (C.set (by decide +kernel) (je_call C.toCs (ok__law_drawn_list T) (by decide +kernel) (by decide +kernel) (ja_cons (C.v (by decide +kernel)) ja_nil) rfl))
    (jss_cons (C.par (by decide +kernel) (by decide +kernel) (by decide) (je_call C.toCs (ok__law_events T) (by decide +kernel) (by decide +kernel) (ja_cons (C.v (by decide +kernel)) (ja_cons (C.v (by decide +kernel)) ja_nil)) rfl) (C.bt (by decide +kernel) T.n_tuple (by decide +kernel) o_tuple j_tuple (jos_cons (C.ov (by decide +kernel)) jos_nil)) (by intro env he; simp only [swappedStores, Env.blockKind, Env.kindOf, he]; rfl))
    (jss_cons (C.set (by decide +kernel) (C.bi (by decide +kernel) T.n_repr (by decide +kernel) (o_repr C.hg C.hu70) j_repr (jos_cons (C.ov (by decide +kernel)) jos_nil)))
    (jss_cons (js_if (jt_w (jw_or (C.neT (jo_e (C.bi (by decide +kernel) T.n_repr (by decide +kernel) (o_repr C.hg C.hu70) j_repr (jos_cons (jo_e (je_call C.toCs (ok_after_events T) (by decide +kernel) (by decide +kernel) (ja_cons (C.v (by decide +kernel)) (ja_cons (C.v (by decide +kernel)) ja_nil)) rfl)) jos_nil))) (jo_e (C.bi (by decide +kernel) T.n_repr (by decide +kernel) (o_repr C.hg C.hu70) j_repr (jos_cons (jo_e (C.bt (by decide +kernel) T.n_tuple (by decide +kernel) o_tuple j_tuple (jos_cons (C.ov (by decide +kernel)) jos_nil))) jos_nil)))) (jw_or (C.neT (jo_e (C.bi (by decide +kernel) T.n_repr (by decide +kernel) (o_repr C.hg C.hu70) j_repr (jos_cons (C.ov (by decide +kernel)) jos_nil))) (C.ov (by decide +kernel))) (jw_or1 (C.neT (C.ov (by decide +kernel)) (jo_e (C.bt (by decide +kernel) T.n_tuple (by decide +kernel) o_tuple j_tuple (jos_cons (C.ov (by decide +kernel)) jos_nil)))))))) (jss_one (js_ret je_bl))
    jss_nil)
    (jss_one (C.set (by decide +kernel) (C.v (by decide +kernel))))))))))))
    (jss_cons (C.set (by decide +kernel) (je_lst (ja_cons (je_tup (ja_cons je_str (ja_cons je_str ja_nil))) (ja_cons (je_tup (ja_cons je_str (ja_cons je_str (ja_cons je_int (ja_cons (je_tup (ja_cons je_int (ja_cons je_int ja_nil))) ja_nil))))) (ja_cons (je_tup (ja_cons je_str (ja_cons je_str (ja_cons je_int (ja_cons (je_tup (ja_cons je_int (ja_cons je_int ja_nil))) ja_nil))))) (ja_cons (je_tup (ja_cons je_str (ja_cons je_str (ja_cons je_int (ja_cons je_int ja_nil))))) ja_nil))))))
    (jss_cons (js_expr (append_ (C.ov (by decide +kernel)) (ja_cons (je_tup (ja_cons je_str (ja_cons je_str (ja_cons (je_tup (ja_cons je_int (ja_cons je_int ja_nil))) (ja_cons (je_tup (ja_cons je_int (ja_cons je_int ja_nil))) ja_nil))))) ja_nil)))
    (jss_cons (C.set (by decide +kernel) (je_call C.toCs (ok_after_events T) (by decide +kernel) (by decide +kernel) (ja_cons (je_tup (ja_cons (je_tup (ja_cons je_str (ja_cons (je_tup (ja_cons je_int (ja_cons je_int ja_nil))) ja_nil))) (ja_cons (je_tup (ja_cons je_str (ja_cons (je_tup (ja_cons je_int (ja_cons je_int ja_nil))) ja_nil))) ja_nil))) (ja_cons (C.v (by decide +kernel)) ja_nil)) rfl))
    (jss_one (js_ret (je_and (C.eq (C.ov (by decide +kernel)) (jo_e (je_tup (ja_cons (je_tup (ja_cons je_str (ja_cons (je_tup (ja_cons je_int (ja_cons je_int ja_nil))) ja_nil))) (ja_cons (je_tup (ja_cons je_str (ja_cons (je_tup (ja_cons je_int (ja_cons je_int ja_nil))) ja_nil))) (ja_cons (je_tup (ja_cons je_str (ja_cons (je_tup (ja_cons je_int (ja_cons je_int ja_nil))) ja_nil))) ja_nil)))))) (je_one (C.eq (jo_e (je_call C.toCs (ok_after_events T) (by decide +kernel) (by decide +kernel) (ja_cons (je_tup ja_nil) (ja_cons (je_lst ja_nil) ja_nil)) rfl)) (jo_e (je_tup ja_nil)))))))))))

end L93

namespace L93
open PySem L2 FL
theorem en : m__law_next = mNext := rfl
theorem ep : m__law_pick = mPick := rfl
theorem es : m__law_source = mSource := rfl
abbrev Sc := Int × Int
abbrev En := Nat × Sc
def scD (p : Sc) : D := .tup [.int p.1, .int p.2]
def eD (e : En) : D := .tup [letD e.1, scD e.2]
def sv (p : Sc) : Prop := 0 ≤ p.1 ∧ p.1 < 10 ∧ 0 ≤ p.2 ∧ p.2 < 10
def Ok (L : List En) : Prop := ∀ e ∈ L, 97 ≤ e.1 ∧ e.1 < 111 ∧ sv e.2
def Gd (L : List En) : Prop := Ok L ∧ (L.map (·.1)).Nodup ∧ L.length ≤ 14
theorem log_small {a b : Int} (ha : 0 ≤ a ∧ a < 10) (hb : 0 ≤ b ∧ b < 10) : gMulA (.int a) (.int b) = some (.fr (.int (a * b))) := by
  have hl : ∀ c : Int, 0 ≤ c ∧ c < 10 → c.natAbs.log2 < 10 := fun c hc => by
    by_cases z : c.natAbs = 0
    · rw [z]; decide
    · exact (Nat.log2_lt z).mpr (by omega)
  have hm : a.natAbs.log2 + b.natAbs.log2 < 1000000 := by have := hl a ha; have := hl b hb; omega
  simp [gMulA, gMul, gInt, hm]
theorem lk_e (e : En) (μ : Mem) : look μ (eD e) = some (eD e) := rfl
theorem lk_s (p : Sc) (μ : Mem) : look μ (scD p) = some (scD p) := rfl
theorem sc0 (p : Sc) : gIxL (scD p) (.int 0) = some (.fr (.int p.1)) := rfl
theorem sc1 (p : Sc) : gIxL (scD p) (.int 1) = some (.fr (.int p.2)) := rfl
def wTest : MT := mTb (m2 gLt (.v 4) (.e (mC gLen [(.v 1)])))
noncomputable def wBody : MS := (mSeq (mAsg (tgT 2 (tgC (tgV 5) (tgC (tgV 6) tgN))) (m2 gIxL (.v 1) (.v 4)))
    (mSeq (mPar 7 8 (m2 gMulA (.e (m2 gIxL (.v 3) (.e (mD (.int 0))))) (.e (m2 gIxL (.v 6) (.e (mD (.int 1)))))) (m2 gMulA (.e (m2 gIxL (.v 6) (.e (mD (.int 0))))) (.e (m2 gIxL (.v 3) (.e (mD (.int 1)))))))
    (mSeq (mIfS (mOr (mTb (m2 gGt (.v 7) (.v 8))) (mAnd (mTb (m2 (gEq false) (.v 7) (.v 8))) (mTb (m2 gLt (.v 2) (.v 5))))) (fun δ μ => .bk δ μ)
    mPass)
    (mSet 4 (m2 gAdd (.v 4) (.e (mD (.int 1))))))))
theorem place {rows : D} {e : En} (he : sv e.2) {F : List En} (hF : Ok F) (hl : F.length ≤ 100) {μ : Mem} : ∀ (k n : Nat) (a5 a6 a7 a8 : Option FL.Slot), n + k = F.length →
    ∃ (m : Nat) (b5 b6 b7 b8 : Option FL.Slot), m ≤ F.length ∧ mWhile wTest wBody [some (.fr rows), some (.own (.lst (F.map eD))), some (.fr (letD e.1)), some (.fr (scD e.2)), some (.fr (.int n)), a5, a6, a7, a8] μ =
      .nx [some (.fr rows), some (.own (.lst (F.map eD))), some (.fr (letD e.1)), some (.fr (scD e.2)), some (.fr (.int m)), b5, b6, b7, b8] μ
  | 0, n, a5, a6, a7, a8, h => by
    refine ⟨n, a5, a6, a7, a8, by omega, ?_⟩
    rw [mWhile_eq]
    have t : wTest [some (.fr rows), some (.own (.lst (F.map eD))), some (.fr (letD e.1)), some (.fr (scD e.2)), some (.fr (.int n)), a5, a6, a7, a8] μ = .ok false [some (.fr rows), some (.own (.lst (F.map eD))), some (.fr (letD e.1)), some (.fr (scD e.2)), some (.fr (.int n)), a5, a6, a7, a8] μ := by
      have : ¬ ((n : Int) < (F.length : Int)) := by omega
      simp [wTest, mTb, m2, mC, evs, Opn.ev, OR.at, OR.ats, look, Out.bind, dfr, down, gLen, gLen1, lift, gLt, gLtI, gInt, this]
    rw [t]
    rfl
  | k + 1, n, a5, a6, a7, a8, h => by
    have hn : n < F.length := by omega
    have t : wTest [some (.fr rows), some (.own (.lst (F.map eD))), some (.fr (letD e.1)), some (.fr (scD e.2)), some (.fr (.int n)), a5, a6, a7, a8] μ = .ok true [some (.fr rows), some (.own (.lst (F.map eD))), some (.fr (letD e.1)), some (.fr (scD e.2)), some (.fr (.int n)), a5, a6, a7, a8] μ := by
      simp [wTest, mTb, m2, mC, evs, Opn.ev, OR.at, OR.ats, look, Out.bind, dfr, down, gLen, gLen1, lift, gLt, gLtI, gInt, hn]
    have at1 : L2.atI (F.map eD) (n : Int) = some (eD F[n]) := by
      unfold L2.atI ixN
      simp [hn]
    obtain ⟨f1, f2, fs⟩ := hF F[n] (List.getElem_mem hn)
    have s1 : mAsg (tgT 2 (tgC (tgV 5) (tgC (tgV 6) tgN))) (m2 gIxL (.v 1) (.v 4)) [some (.fr rows), some (.own (.lst (F.map eD))), some (.fr (letD e.1)), some (.fr (scD e.2)), some (.fr (.int n)), a5, a6, a7, a8] μ =
        .nx [some (.fr rows), some (.own (.lst (F.map eD))), some (.fr (letD e.1)), some (.fr (scD e.2)), some (.fr (.int n)), some (.fr (letD F[n].1)), some (.fr (scD F[n].2)), a7, a8] μ := by
      simp [mAsg, m2, Opn.ev, OR.at, look, Out.bind, Out.thn, dfr, down, gIxL, at1, lift, tgT, tgC, tgV, tgN, eD]
    obtain ⟨e1, e2, e3, e4⟩ := id he
    obtain ⟨g1, g2, g3, g4⟩ := fs
    have m1 := log_small (a := e.2.1) (b := F[n].2.2) ⟨e1, e2⟩ ⟨g3, g4⟩
    have m2' := log_small (a := F[n].2.1) (b := e.2.2) ⟨g1, g2⟩ ⟨e3, e4⟩
    have lkI : ∀ i μ, look μ (.int i) = some (.int i) := fun _ _ => rfl
    have s2 : mPar 7 8 (m2 gMulA (.e (m2 gIxL (.v 3) (.e (mD (.int 0))))) (.e (m2 gIxL (.v 6) (.e (mD (.int 1)))))) (m2 gMulA (.e (m2 gIxL (.v 6) (.e (mD (.int 0))))) (.e (m2 gIxL (.v 3) (.e (mD (.int 1)))))) [some (.fr rows), some (.own (.lst (F.map eD))), some (.fr (letD e.1)), some (.fr (scD e.2)), some (.fr (.int n)), some (.fr (letD F[n].1)), some (.fr (scD F[n].2)), a7, a8] μ =
        .nx [some (.fr rows), some (.own (.lst (F.map eD))), some (.fr (letD e.1)), some (.fr (scD e.2)), some (.fr (.int n)), some (.fr (letD F[n].1)), some (.fr (scD F[n].2)), some (.fr (.int (e.2.1 * F[n].2.2))), some (.fr (.int (F[n].2.1 * e.2.2)))] μ := by
      simp [mPar, m2, mD, Opn.ev, OR.at, lk_s, lkI, Out.bind, Out.thn, dfr, sc0, sc1, m1, m2', lift]
    obtain ⟨b, hb⟩ : ∃ b : Bool, mOr (mTb (m2 gGt (.v 7) (.v 8))) (mAnd (mTb (m2 (gEq false) (.v 7) (.v 8))) (mTb (m2 gLt (.v 2) (.v 5)))) [some (.fr rows), some (.own (.lst (F.map eD))), some (.fr (letD e.1)), some (.fr (scD e.2)), some (.fr (.int n)), some (.fr (letD F[n].1)), some (.fr (scD F[n].2)), some (.fr (.int (e.2.1 * F[n].2.2))), some (.fr (.int (F[n].2.1 * e.2.2)))] μ =
        .ok b [some (.fr rows), some (.own (.lst (F.map eD))), some (.fr (letD e.1)), some (.fr (scD e.2)), some (.fr (.int n)), some (.fr (letD F[n].1)), some (.fr (scD F[n].2)), some (.fr (.int (e.2.1 * F[n].2.2))), some (.fr (.int (F[n].2.1 * e.2.2)))] μ := by
      generalize e.2.1 * F[n].2.2 = x
      generalize F[n].2.1 * e.2.2 = y
      by_cases c1 : y < x
      · exact ⟨true, by simp [mOr, mTb, m2, Opn.ev, OR.at, lkI, Out.bind, dfr, gGt, gGtI, gInt, lift, c1]⟩
      · by_cases c2 : x = y
        · refine ⟨decide ([e.1] < [F[n].1]), ?_⟩
          simp [mOr, mAnd, mTb, m2, Opn.ev, OR.at, look, Out.bind, dfr, gGt, gGtI, gInt, lift, c1, c2, gEq, eqS, gLt, gLtI, gTx]
        · exact ⟨false, by simp [mOr, mAnd, mTb, m2, Opn.ev, OR.at, lkI, Out.bind, dfr, gGt, gGtI, gInt, lift, c1, c2, gEq, eqS]⟩
    rw [mWhile_eq, t]
    have ub : ∀ r : OutS, mSeq (mIfS (mOr (mTb (m2 gGt (.v 7) (.v 8))) (mAnd (mTb (m2 (gEq false) (.v 7) (.v 8))) (mTb (m2 gLt (.v 2) (.v 5))))) (fun δ μ => .bk δ μ) mPass) (mSet 4 (m2 gAdd (.v 4) (.e (mD (.int 1))))) [some (.fr rows), some (.own (.lst (F.map eD))), some (.fr (letD e.1)), some (.fr (scD e.2)), some (.fr (.int n)), some (.fr (letD F[n].1)), some (.fr (scD F[n].2)), some (.fr (.int (e.2.1 * F[n].2.2))), some (.fr (.int (F[n].2.1 * e.2.2)))] μ = r →
        wBody [some (.fr rows), some (.own (.lst (F.map eD))), some (.fr (letD e.1)), some (.fr (scD e.2)), some (.fr (.int n)), a5, a6, a7, a8] μ = r := fun r hr => by
      unfold wBody
      rw [seq_nx s1, seq_nx s2]
      exact hr
    show ∃ _ _ _ _ _, _ ∧ (wBody _ _).loop _ = _
    cases b with
    | true =>
      refine ⟨n, some (.fr (letD F[n].1)), some (.fr (scD F[n].2)), some (.fr (.int (e.2.1 * F[n].2.2))), some (.fr (.int (F[n].2.1 * e.2.2))), by omega, ?_⟩
      have : ∀ (δ : FL.Loc) (μ : Mem) (m : MS), mOr (mTb (m2 gGt (.v 7) (.v 8))) (mAnd (mTb (m2 (gEq false) (.v 7) (.v 8))) (mTb (m2 gLt (.v 2) (.v 5)))) δ μ = .ok true δ μ → mSeq (mIfS (mOr (mTb (m2 gGt (.v 7) (.v 8))) (mAnd (mTb (m2 (gEq false) (.v 7) (.v 8))) (mTb (m2 gLt (.v 2) (.v 5))))) (fun δ μ => .bk δ μ) mPass) m δ μ = .bk δ μ := fun δ μ m h => by
        unfold mSeq
        rw [if_t h]
        rfl
      rw [ub _ (this _ _ _ hb)]
      rfl
    | false =>
      have s4 : mSet 4 (m2 gAdd (.v 4) (.e (mD (.int 1)))) [some (.fr rows), some (.own (.lst (F.map eD))), some (.fr (letD e.1)), some (.fr (scD e.2)), some (.fr (.int n)), some (.fr (letD F[n].1)), some (.fr (scD F[n].2)), some (.fr (.int (e.2.1 * F[n].2.2))), some (.fr (.int (F[n].2.1 * e.2.2)))] μ =
          .nx [some (.fr rows), some (.own (.lst (F.map eD))), some (.fr (letD e.1)), some (.fr (scD e.2)), some (.fr (.int (n + 1 : Nat))), some (.fr (letD F[n].1)), some (.fr (scD F[n].2)), some (.fr (.int (e.2.1 * F[n].2.2))), some (.fr (.int (F[n].2.1 * e.2.2)))] μ := by
        simp [mSet, m2, mD, Opn.ev, OR.at, lkI, Out.bind, Out.thn, dfr, gAdd, gInt, lift]
      rw [ub _ ((seq_nx (if_fp hb)).trans s4)]
      exact place he hF hl k (n + 1) _ _ _ _ (by omega)
theorem ordered_loop {rows : D} {μ : Mem} : ∀ (L F : List En) (a2 a3 a4 a5 a6 a7 a8 : Option FL.Slot), Ok L → Ok F → L.length + F.length ≤ 100 →
    ∃ (M : List En) (b2 b3 b4 b5 b6 b7 b8 : Option FL.Slot), forD (turnD (tgT 2 (tgC (tgV 2) (tgC (tgV 3) tgN))) (mSeq (mSet 4 (mD (.int 0))) (mSeq (mWhile wTest wBody) (mEx (mMut "list" gInsert (.v 1) [(mV 4), (mTup [(mV 2), (mV 3)])]))))) (L.map eD) [some (.fr rows), some (.own (.lst (F.map eD))), a2, a3, a4, a5, a6, a7, a8] μ =
      .nx [some (.fr rows), some (.own (.lst (M.map eD))), b2, b3, b4, b5, b6, b7, b8] μ ∧ M.Perm (L ++ F)
  | [], F, a2, a3, a4, a5, a6, a7, a8, _, _, _ => ⟨F, a2, a3, a4, a5, a6, a7, a8, rfl, .refl _⟩
  | e :: L, F, a2, a3, a4, a5, a6, a7, a8, hL, hF, hl => by
    rw [List.length_cons] at hl
    have he := hL e (List.mem_cons_self ..)
    obtain ⟨m, c5, c6, c7, c8, hm, w⟩ := place (rows := rows) (μ := μ) he.2.2 hF (by omega) F.length 0 a5 a6 a7 a8 (by omega)
    have pm : (F.take m ++ [e] ++ F.drop m).Perm (e :: F) := by
      have h1 : (F.take m ++ [e] ++ F.drop m).Perm ([e] ++ F.take m ++ F.drop m) := (List.perm_append_comm (l₁ := F.take m) (l₂ := [e])).append_right _
      exact h1.trans (by rw [List.append_assoc, List.take_append_drop]; exact .refl _)
    obtain ⟨M, b2, b3, b4, b5, b6, b7, b8, e2, p2⟩ := ordered_loop (rows := rows) (μ := μ) L (F.take m ++ [e] ++ F.drop m) (some (.fr (letD e.1))) (some (.fr (scD e.2))) (some (.fr (.int m))) c5 c6 c7 c8 (fun x hx => hL x (List.mem_cons_of_mem _ hx))
      (fun x hx => by
        rcases List.mem_cons.mp (pm.mem_iff.mp hx) with z | z
        · rw [z]; exact he
        · exact hF x z) (by rw [pm.length_eq, List.length_cons]; omega)
    refine ⟨M, b2, b3, b4, b5, b6, b7, b8, ?_, p2.trans ?_⟩
    · have s1 : mSet 4 (mD (.int 0)) [some (.fr rows), some (.own (.lst (F.map eD))), some (.fr (letD e.1)), some (.fr (scD e.2)), a4, a5, a6, a7, a8] μ = .nx [some (.fr rows), some (.own (.lst (F.map eD))), some (.fr (letD e.1)), some (.fr (scD e.2)), some (.fr (.int (0 : Nat))), a5, a6, a7, a8] μ := by
        simp [mSet, mD, Out.thn]
      have hF2 : F.length < 16777216 := by omega
      have hm2 : (m : Int) < 9223372036854775808 := by omega
      have s3 : mEx (mMut "list" gInsert (.v 1) [(mV 4), (mTup [(mV 2), (mV 3)])]) [some (.fr rows), some (.own (.lst (F.map eD))), some (.fr (letD e.1)), some (.fr (scD e.2)), some (.fr (.int m)), c5, c6, c7, c8] μ =
          .nx [some (.fr rows), some (.own (.lst ((F.take m ++ [e] ++ F.drop m).map eD))), some (.fr (letD e.1)), some (.fr (scD e.2)), some (.fr (.int m)), c5, c6, c7, c8] μ := by
        simp [mEx, mMut, Opn.ev, recv, ownTy, evA, mV, mTup, Out.bind, Out.thn, dfr, gInsert, hF2, hm2, eD, List.map_take, List.map_drop]
      have step : turnD (tgT 2 (tgC (tgV 2) (tgC (tgV 3) tgN))) (mSeq (mSet 4 (mD (.int 0))) (mSeq (mWhile wTest wBody) (mEx (mMut "list" gInsert (.v 1) [(mV 4), (mTup [(mV 2), (mV 3)])])))) (eD e) [some (.fr rows), some (.own (.lst (F.map eD))), a2, a3, a4, a5, a6, a7, a8] μ =
          .nx [some (.fr rows), some (.own (.lst ((F.take m ++ [e] ++ F.drop m).map eD))), some (.fr (letD e.1)), some (.fr (scD e.2)), some (.fr (.int m)), c5, c6, c7, c8] μ := by
        show mSeq _ _ [some (.fr rows), some (.own (.lst (F.map eD))), some (.fr (letD e.1)), some (.fr (scD e.2)), a4, a5, a6, a7, a8] μ = _
        rw [seq_nx s1, seq_nx w, s3]
      rw [List.map_cons, forD_cons, step]
      exact e2
    · have h1 := (pm.append_left L)
      exact h1.trans List.perm_middle
theorem ordered_spec {L : List En} {μ : Mem} (hL : Ok L) (hl : L.length ≤ 14) : ∃ M : List En, m__law_ordered [.lst (L.map eD)] μ = .ok (.fr (.lst (M.map eD))) μ ∧ M.Perm L := by
  obtain ⟨M, b2, b3, b4, b5, b6, b7, b8, e, p⟩ := ordered_loop (rows := .lst (L.map eD)) (μ := μ) L [] none none none none none none none hL (fun x hx => nomatch hx) (by simp; omega)
  refine ⟨M, fn_rt ?_, by simpa using p⟩
  have n1 : mSet 1 (mLst []) (startD 9 [.lst (L.map eD)]) μ = .nx [some (.fr (.lst (L.map eD))), some (.own (.lst ([].map eD))), none, none, none, none, none, none, none] μ := by
    simp [mSet, mLst, evA, startD, Out.bind, Out.thn]
  have n2 := for_of (mi := mIt (mV 0)) (δ := [some (.fr (.lst (L.map eD))), some (.own (.lst ([].map eD))), none, none, none, none, none, none, none]) (μ := μ) (ds := L.map eD) (δ1 := [some (.fr (.lst (L.map eD))), some (.own (.lst ([].map eD))), none, none, none, none, none, none, none]) (μ1 := μ) (by simp [mIt, mV, Out.bind, dfr, itA]) e
  have hb : b__law_ordered = mSeq (mSet 1 (mLst [])) (mSeq (mFor (mIt (mV 0)) (tgT 2 (tgC (tgV 2) (tgC (tgV 3) tgN))) (mSeq (mSet 4 (mD (.int 0))) (mSeq (mWhile wTest wBody) (mEx (mMut "list" gInsert (.v 1) [(mV 4), (mTup [(mV 2), (mV 3)])]))))) (mRet (mV 1))) := rfl
  rw [hb, seq_nx n1, seq_nx n2]
  simp [mRet, mV, Out.thn, down]
/-! ### a drawn list -/
def letters : List Nat := [97, 98, 99, 100, 101, 102, 103, 104, 105, 106, 107, 108, 109, 110]
theorem lit_letters : lit "abcdefghijklmn" = letters := by decide +kernel
theorem range_is {o : Opn} {δ : FL.Loc} {μ μ1 : Mem} {n : Nat} {rs : List OR} (e1 : evs [o] δ μ = .ok rs δ μ1) (e2 : OR.ats δ μ1 rs = some [.int n]) (h : n ≤ 1000) : mRange1 o δ μ = .ok (rangeD 0 n) δ μ1 := by
  have c : -(2 ^ 62) ≤ (n : Int) ∧ (n : Int) < 2 ^ 62 := ⟨by omega, by omega⟩
  unfold mRange1
  rw [e1, Out.bind_ok, e2]
  exact if_pos c
theorem erase_perm {α : Type} : ∀ (l : List α) (i : Nat) (x : α), l[i]? = some x → (x :: l.eraseIdx i).Perm l
  | [], _, _, h => by simp at h
  | a :: l, 0, x, h => by simp at h; subst h; exact .refl _
  | a :: l, i + 1, x, h => by
    have ih := erase_perm l i x (by simpa using h)
    show (x :: a :: l.eraseIdx i).Perm (a :: l)
    exact (List.Perm.swap a x _).trans (ih.cons a)
theorem map_erase {α β : Type} (f : α → β) : ∀ (l : List α) (i : Nat), (l.map f).eraseIdx i = (l.eraseIdx i).map f
  | [], _ => rfl
  | a :: l, 0 => rfl
  | a :: l, i + 1 => by
    show f a :: (l.map f).eraseIdx i = f a :: (l.eraseIdx i).map f
    rw [map_erase f l i]
noncomputable def dBody : MS := (mSeq (mSet 4 (mMut "list" gPopAt (.v 1) [(mCall mNext [(mV 0), (mC gLen [(.v 1)])] [])]))
    (mEx (mMut "list" gAppend (.v 2) [(mTup [(mV 4), (mCall mPick [(mV 0), (mLst [(mTup [(mD (.int 0)), (mD (.int 1))]), (mTup [(mD (.int 1)), (mD (.int 1))]), (mTup [(mD (.int 3)), (mD (.int 2))]), (mTup [(mD (.int 5)), (mD (.int 7))]), (mTup [(mD (.int 2)), (mD (.int 1))])])] [])])])))
theorem draw_loop {j : Nat} : ∀ (ds : List D) (rest : List Nat) (found : List En) (a3 a4 : Option FL.Slot) (μ : Mem) (B : Int), ds.length ≤ rest.length → rest.length + found.length ≤ 14 → (∀ c ∈ rest, 97 ≤ c ∧ c < 111) → Ok found → Src μ j B → B + 2 * ds.length + 10 ≤ 2 ^ 40 →
    ∃ (rest' : List Nat) (found' : List En) (b3 b4 : Option FL.Slot) (μ' : Mem), forD (turnD (tgV 3) dBody) ds [some (.fr (.obj j)), some (.own (.lst (rest.map letD))), some (.own (.lst (found.map eD))), a3, a4] μ =
      .nx [some (.fr (.obj j)), some (.own (.lst (rest'.map letD))), some (.own (.lst (found'.map eD))), b3, b4] μ' ∧ (found'.map (·.1) ++ rest').Perm (found.map (·.1) ++ rest) ∧ Ok found' ∧ Src μ' j (B + 2 * ds.length) ∧ Fr j μ μ'
  | [], rest, found, a3, a4, μ, B, _, _, _, ho, hs, _ => ⟨rest, found, a3, a4, μ, rfl, .refl _, ho, by simpa using hs, .refl⟩
  | d :: ds, rest, found, a3, a4, μ, B, h1, h2, hr, ho, hs, hB => by
    rw [List.length_cons] at h1 hB
    obtain ⟨r, μ1, e1, r0, r1, s1, f1⟩ := next_spec (n := (rest.length : Int)) hs (by omega) (by omega) (by omega)
    have hrn : r.toNat < rest.length := by omega
    have hx : rest[r.toNat]? = some rest[r.toNat] := List.getElem?_eq_getElem hrn
    have hp := erase_perm rest r.toNat _ hx
    have hlen := hp.length_eq
    rw [List.length_cons] at hlen
    have hc := hr _ (List.getElem_mem hrn)
    obtain ⟨x, μ2, hm, e2, s2, f2⟩ := pick_lst (xs := [D.tup [.int 0, .int 1], .tup [.int 1, .int 1], .tup [.int 3, .int 2], .tup [.int 5, .int 7], .tup [.int 2, .int 1]]) s1 (by omega) (by simp) (by simp)
    obtain ⟨p, rfl, hv⟩ : ∃ p : Sc, x = scD p ∧ sv p := by
      simp only [List.mem_cons, List.not_mem_nil, or_false] at hm
      rcases hm with h | h | h | h | h <;> rw [h] <;> exact ⟨(_, _), rfl, by decide, by decide, by decide, by decide⟩
    generalize hcc : rest[r.toNat] = c at hx hp hc
    have ho2 : Ok (found ++ [(c, p)]) := fun e he => by
      rcases List.mem_append.mp he with z | z
      · exact ho e z
      · rw [List.mem_singleton.mp z]; exact ⟨hc.1, hc.2, hv⟩
    obtain ⟨rest', found', b3, b4, μ3, e3, p3, o3, s3, f3⟩ := draw_loop ds (rest.eraseIdx r.toNat) (found ++ [(c, p)]) (some (.fr d)) (some (.fr (letD c))) μ2 (B + 2) (by omega) (by rw [List.length_append, List.length_singleton]; omega)
      (fun y hy => hr y (hp.mem_iff.mp (List.mem_cons_of_mem _ hy))) ho2 (s2.mono (by omega)) (by omega)
    refine ⟨rest', found', b3, b4, μ3, ?_, p3.trans ?_, o3, s3.mono (by rw [List.length_cons]; omega), (f1.trans f2).trans f3⟩
    · have hi : ixN rest.length r = some r.toNat := by unfold ixN; rw [if_pos r0, if_pos r1]
      have hb : -9223372036854775808 ≤ r ∧ r < 9223372036854775808 := by omega
      have hfl : found.length < 16777216 := by omega
      have q1 : mSet 4 (mMut "list" gPopAt (.v 1) [(mCall mNext [(mV 0), (mC gLen [(.v 1)])] [])]) [some (.fr (.obj j)), some (.own (.lst (rest.map letD))), some (.own (.lst (found.map eD))), some (.fr d), a4] μ =
          .nx [some (.fr (.obj j)), some (.own (.lst ((rest.eraseIdx r.toNat).map letD))), some (.own (.lst (found.map eD))), some (.fr d), some (.fr (letD c))] μ1 := by
        simp [mSet, mMut, Opn.ev, recv, ownTy, evA, mCall, mV, mC, evs, OR.at, OR.ats, look, Out.bind, Out.thn, dfr, down, gLen, gLen1, lift, e1, gPopAt, hb, hi, hx, map_erase]
      have q2 : mEx (mMut "list" gAppend (.v 2) [(mTup [(mV 4), (mCall mPick [(mV 0), (mLst [(mTup [(mD (.int 0)), (mD (.int 1))]), (mTup [(mD (.int 1)), (mD (.int 1))]), (mTup [(mD (.int 3)), (mD (.int 2))]), (mTup [(mD (.int 5)), (mD (.int 7))]), (mTup [(mD (.int 2)), (mD (.int 1))])])] [])])]) [some (.fr (.obj j)), some (.own (.lst ((rest.eraseIdx r.toNat).map letD))), some (.own (.lst (found.map eD))), some (.fr d), some (.fr (letD c))] μ1 =
          .nx [some (.fr (.obj j)), some (.own (.lst ((rest.eraseIdx r.toNat).map letD))), some (.own (.lst ((found ++ [(c, p)]).map eD))), some (.fr d), some (.fr (letD c))] μ2 := by
        simp [mEx, mMut, Opn.ev, recv, ownTy, evA, mCall, mV, mTup, mLst, mD, Out.bind, Out.thn, dfr, down, e2, gAppend, hfl, eD]
      have step : turnD (tgV 3) dBody d [some (.fr (.obj j)), some (.own (.lst (rest.map letD))), some (.own (.lst (found.map eD))), a3, a4] μ = .nx [some (.fr (.obj j)), some (.own (.lst ((rest.eraseIdx r.toNat).map letD))), some (.own (.lst ((found ++ [(c, p)]).map eD))), some (.fr d), some (.fr (letD c))] μ2 := by
        show dBody [some (.fr (.obj j)), some (.own (.lst (rest.map letD))), some (.own (.lst (found.map eD))), some (.fr d), a4] μ = _
        unfold dBody
        rw [seq_nx q1, q2]
      rw [forD_cons, step]
      exact e3
    · rw [List.map_append, List.append_assoc]
      exact hp.append_left _
theorem drawn_spec {μ : Mem} {j : Nat} {B : Int} (hs : Src μ j B) (hB : B + 100 ≤ 2 ^ 40) : ∃ (L : List En) (μ' : Mem), m__law_drawn_list [.obj j] μ = .ok (.fr (.lst (L.map eD))) μ' ∧ Gd L ∧ Src μ' j (B + 40) ∧ Fr j μ μ' := by
  obtain ⟨w, μ1, e1, w0, w1, s1, f1⟩ := next_spec (n := 15) hs (by omega) (by decide) (by decide)
  obtain ⟨n, hn⟩ : ∃ n : Nat, (n : Int) = w := ⟨w.toNat, by omega⟩
  have hlen : (rangeD 0 n).length = n := by simp [rangeD]
  obtain ⟨rest, found, b3, b4, μ2, e2, p2, o2, s2, f2⟩ := draw_loop (j := j) (rangeD 0 n) letters [] none none μ1 (B + 1) (by rw [hlen]; show n ≤ 14; omega) (by decide) (by decide) (fun x hx => nomatch hx) s1 (by rw [hlen]; omega)
  rw [hlen] at s2
  have p2' : (found.map (·.1) ++ rest).Perm letters := by simpa using p2
  have hfl : found.length ≤ 14 := by
    have := p2'.length_eq
    rw [List.length_append, List.length_map] at this
    have h14 : letters.length = 14 := rfl
    omega
  obtain ⟨M, e3, p3⟩ := ordered_spec (μ := μ2) o2 hfl
  have nd : (found.map (·.1)).Nodup := by
    have : (found.map (·.1) ++ rest).Nodup := p2'.nodup_iff.mpr (by decide)
    exact (List.nodup_append.mp this).1
  refine ⟨M, μ2, fn_rt ?_, ⟨fun e he => o2 e (p3.mem_iff.mp he), (p3.map _).nodup_iff.mpr nd, by rw [p3.length_eq]; exact hfl⟩, s2.mono (by omega), f1.trans f2⟩
  have n1 : mPar 1 2 (mC gListA [(.e (mD (.str (lit "abcdefghijklmn"))))]) (mLst []) (startD 5 [.obj j]) μ = .nx [some (.fr (.obj j)), some (.own (.lst (letters.map letD))), some (.own (.lst ([].map eD))), none, none] μ := by
    rw [lit_letters]
    simp [mPar, mC, evs, Opn.ev, mD, OR.at, OR.ats, look, startD, Out.bind, Out.thn, dfr, gListA, gList, gListS, lift, mLst, evA, letters]
  have r1 : evs [.e (mCall mNext [(mV 0), (mD (.int 15))] [])] [some (.fr (.obj j)), some (.own (.lst (letters.map letD))), some (.own (.lst ([].map eD))), none, none] μ = .ok [.d (.int n)] [some (.fr (.obj j)), some (.own (.lst (letters.map letD))), some (.own (.lst ([].map eD))), none, none] μ1 := by
    simp [evs, Opn.ev, mCall, evA, mV, mD, Out.bind, dfr, e1, hn]
  have r2 := range_is (n := n) r1 (by rfl) (by omega)
  have n2 := for_of r2 e2
  have hb : b__law_drawn_list = mSeq (mPar 1 2 (mC gListA [(.e (mD (.str (lit "abcdefghijklmn"))))]) (mLst [])) (mSeq (mFor (mRange1 (.e (mCall mNext [(mV 0), (mD (.int 15))] []))) (tgV 3) dBody) (mRet (mCall m__law_ordered [(mV 2)] []))) := rfl
  rw [hb, seq_nx n1, seq_nx n2]
  simp [mRet, mCall, evA, mV, Out.bind, Out.thn, dfr, down, e3]
/-! ### the events between two lists -/
inductive Ev where
  | left (c : Nat) | ent (c i : Nat) (s : Sc) | mov (c b i : Nat) | sco (c : Nat) (s t : Sc)
def Ev.d : Ev → D
  | .left c => .tup [.str (lit "left"), letD c]
  | .ent c i s => .tup [.str (lit "entered"), letD c, .int i, scD s]
  | .mov c b i => .tup [.str (lit "moved"), letD c, .int b, .int i]
  | .sco c s t => .tup [.str (lit "scored"), letD c, scD s, scD t]
abbrev keys (L : List En) : List Nat := L.map (·.1)
def scAt (L : List En) (b : Nat) : Sc := ((L[b]?).map (·.2)).getD (0, 0)
def leftF (nk : List Nat) (c : Nat) : List Ev := if c ∈ nk then [] else [.left c]
def entF (ok : List Nat) (p : En × Nat) : List Ev := if p.1.1 ∈ ok then [] else [.ent p.1.1 p.2 p.1.2]
def movF (old : List En) (p : En × Nat) : List Ev := if p.1.1 ∈ keys old then (if (keys old).idxOf p.1.1 = p.2 then [] else [.mov p.1.1 ((keys old).idxOf p.1.1) p.2]) ++ (if scAt old ((keys old).idxOf p.1.1) = p.1.2 then [] else [.sco p.1.1 (scAt old ((keys old).idxOf p.1.1)) p.1.2]) else []
def evs2 (old new : List En) : List Ev := (keys old).flatMap (leftF (keys new)) ++ new.zipIdx.flatMap (entF (keys old)) ++ new.zipIdx.flatMap (movF old)
theorem py_sc (p : Sc) : D.py (scD p) = some (.tuple [.int p.1, .int p.2]) := by simp [scD, D.py, D.pys]
theorem shaped_sc (p : Sc) : SeqAt.shaped (.tuple [.int p.1, .int p.2]) = true := by simp [SeqAt.shaped, PyData.canLay0, PyData.canLayAll0, PyData.depth, PyData.depthAll]
theorem eq_sc (neg : Bool) (p q : Sc) : gEq neg (scD p) (scD q) = some (tb (decide (p = q) != neg)) := by
  have e : PyData.eqv (.tuple [.int p.1, .int p.2]) (.tuple [.int q.1, .int q.2]) = decide (p = q) := by
    simp only [PyData.eqv, PyData.eqvAll, Bool.and_true]
    obtain ⟨a, b⟩ := p
    obtain ⟨c, d⟩ := q
    by_cases h1 : a = c <;> by_cases h2 : b = d <;> simp [h1, h2]
  have s : eqS (scD p) (scD q) = none := rfl
  simp [gEq, s, eqP, py_sc, shaped_sc, e]
abbrev tg23 : TgF := tgT 2 (tgC (tgV 2) (tgC (tgV 3) tgN))
theorem keys_lc {a0 a1 a4 a5 a6 a7 a8 : Option FL.Slot} {μ : Mem} : ∀ (L : List En) (acc : List Nat), acc.length + L.length ≤ 100 →
    lcD tg23 mYes (mV 2) [2, 3] (L.map eD) (acc.map letD) [a0, a1, none, none, a4, a5, a6, a7, a8] μ = .ok (.own (.lst ((acc ++ keys L).map letD))) [a0, a1, none, none, a4, a5, a6, a7, a8] μ
  | [], acc, _ => by simp [lcD]
  | e :: L, acc, h => by
    rw [List.length_cons] at h
    have ih := keys_lc (a0 := a0) (a1 := a1) (a4 := a4) (a5 := a5) (a6 := a6) (a7 := a7) (a8 := a8) (μ := μ) L (acc ++ [e.1]) (by rw [List.length_append, List.length_singleton]; omega)
    have ha : acc.length < 16777216 := by omega
    have step : lcD tg23 mYes (mV 2) [2, 3] ((e :: L).map eD) (acc.map letD) [a0, a1, none, none, a4, a5, a6, a7, a8] μ = lcD tg23 mYes (mV 2) [2, 3] (L.map eD) ((acc ++ [e.1]).map letD) [a0, a1, none, none, a4, a5, a6, a7, a8] μ := by
      rw [List.map_cons, lcD_cons]
      simp [tgT, tgC, tgV, tgN, eD, mYes, Out.cut, Out.bind, mV, dfr, ha, wipeD]
    rw [step, ih]
    simp
theorem left_lc {a0 a1 a3 a4 a6 a7 a8 : Option FL.Slot} {nk : List Nat} {μ : Mem} : ∀ (ks : List Nat) (acc : List Ev), acc.length + ks.length ≤ 100 →
    lcD (tgV 2) (mTb (m2 (gIn true) (.v 2) (.v 5))) (mTup [(mD (.str (lit "left"))), (mV 2)]) [2] (ks.map letD) (acc.map Ev.d) [a0, a1, none, a3, a4, some (.fr (.lst (nk.map letD))), a6, a7, a8] μ =
      .ok (.own (.lst ((acc ++ ks.flatMap (leftF nk)).map Ev.d))) [a0, a1, none, a3, a4, some (.fr (.lst (nk.map letD))), a6, a7, a8] μ
  | [], acc, _ => by simp [lcD]
  | c :: ks, acc, h => by
    rw [List.length_cons] at h
    have ha : acc.length < 16777216 := by omega
    have hi := in_let true c nk
    by_cases hc : c ∈ nk
    · have ih := left_lc (a0 := a0) (a1 := a1) (a3 := a3) (a4 := a4) (a6 := a6) (a7 := a7) (a8 := a8) (nk := nk) (μ := μ) ks acc (by omega)
      rw [List.map_cons, lcD_cons]
      rw [decide_eq_true hc] at hi
      simp only [List.flatMap_cons, leftF, if_pos hc, List.nil_append]
      rw [← ih]
      simp [tgV, Out.cut, Out.bind, mTb, m2, Opn.ev, OR.at, look, dfr, hi, tb, lift, wipeD]
    · have ih := left_lc (a0 := a0) (a1 := a1) (a3 := a3) (a4 := a4) (a6 := a6) (a7 := a7) (a8 := a8) (nk := nk) (μ := μ) ks (acc ++ [.left c]) (by rw [List.length_append, List.length_singleton]; omega)
      rw [List.map_cons, lcD_cons]
      rw [decide_eq_false hc] at hi
      have e : (c :: ks).flatMap (leftF nk) = [.left c] ++ ks.flatMap (leftF nk) := by rw [List.flatMap_cons]; simp only [leftF, if_neg hc]
      rw [e, ← List.append_assoc, ← ih]
      simp [tgV, Out.cut, Out.bind, mTb, m2, Opn.ev, OR.at, look, dfr, hi, tb, lift, wipeD, mTup, evA, mD, mV, ha, Ev.d]
def pD (p : En × Nat) : D := .tup [.int p.2, eD p.1]
theorem en_rows (L : List En) : enD (L.map eD) = L.zipIdx.map pD := by
  unfold enD pD
  rw [List.zipIdx_map, List.map_map]
  rfl
abbrev tg723 : TgF := tgT 2 (tgC (tgV 7) (tgC tg23 tgN))
def entS : MS := (mIfS (mTb (m2 (gIn true) (.v 2) (.v 4))) (mEx (mMut "list" gAppend (.v 6) [(mTup [(mD (.str (lit "entered"))), (mV 2), (mV 7), (mV 3)])])) mPass)
theorem ent_loop {a0 a1 a5 a8 : Option FL.Slot} {ok : List Nat} {μ : Mem} : ∀ (P : List (En × Nat)) (acc : List Ev) (a2 a3 a7 : Option FL.Slot), acc.length + P.length ≤ 1000 →
    ∃ b2 b3 b7, forD (turnD tg723 entS) (P.map pD) [a0, a1, a2, a3, some (.fr (.lst (ok.map letD))), a5, some (.own (.lst (acc.map Ev.d))), a7, a8] μ = .nx [a0, a1, b2, b3, some (.fr (.lst (ok.map letD))), a5, some (.own (.lst ((acc ++ P.flatMap (entF ok)).map Ev.d))), b7, a8] μ
  | [], acc, a2, a3, a7, _ => ⟨a2, a3, a7, by simp [forD]⟩
  | p :: P, acc, a2, a3, a7, h => by
    rw [List.length_cons] at h
    have ha : acc.length < 16777216 := by omega
    have hi := in_let true p.1.1 ok
    have step : turnD tg723 entS (pD p) [a0, a1, a2, a3, some (.fr (.lst (ok.map letD))), a5, some (.own (.lst (acc.map Ev.d))), a7, a8] μ = .nx [a0, a1, some (.fr (letD p.1.1)), some (.fr (scD p.1.2)), some (.fr (.lst (ok.map letD))), a5, some (.own (.lst ((acc ++ entF ok p).map Ev.d))), some (.fr (.int p.2)), a8] μ := by
      show entS [a0, a1, some (.fr (letD p.1.1)), some (.fr (scD p.1.2)), some (.fr (.lst (ok.map letD))), a5, some (.own (.lst (acc.map Ev.d))), some (.fr (.int p.2)), a8] μ = _
      unfold entS entF
      by_cases hc : p.1.1 ∈ ok
      · rw [decide_eq_true hc] at hi
        simp [mIfS, mPass, mTb, m2, Opn.ev, OR.at, look, Out.bind, Out.thn, dfr, hi, tb, lift, hc]
      · rw [decide_eq_false hc] at hi
        simp [mIfS, mTb, m2, Opn.ev, OR.at, look, Out.bind, Out.thn, dfr, hi, tb, lift, hc, mEx, mMut, recv, ownTy, evA, mTup, mD, mV, gAppend, ha, Ev.d]
    have hle : (entF ok p).length ≤ 1 := by unfold entF; split <;> simp
    obtain ⟨b2, b3, b7, e⟩ := ent_loop (a0 := a0) (a1 := a1) (a5 := a5) (a8 := a8) (ok := ok) (μ := μ) P (acc ++ entF ok p) (some (.fr (letD p.1.1))) (some (.fr (scD p.1.2))) (some (.fr (.int p.2))) (by rw [List.length_append]; omega)
    refine ⟨b2, b3, b7, ?_⟩
    rw [List.map_cons, forD_cons, step, List.flatMap_cons, ← List.append_assoc]
    exact e
def movS : MS := (mIfS (mTb (m2 (gIn false) (.v 2) (.v 4))) (mSeq (mSet 8 (mM "list" gIndex (.v 4) [(.v 2)]))
    (mSeq (mIfS (mTb (m2 (gEq true) (.v 8) (.v 7))) (mEx (mMut "list" gAppend (.v 6) [(mTup [(mD (.str (lit "moved"))), (mV 2), (mV 8), (mV 7)])])) mPass)
    (mIfS (mTb (m2 (gEq true) (.e (m2 gIxL (.e (m2 gIxL (.v 0) (.v 8))) (.e (mD (.int 1))))) (.v 3))) (mEx (mMut "list" gAppend (.v 6) [(mTup [(mD (.str (lit "scored"))), (mV 2), (m2 gIxL (.e (m2 gIxL (.v 0) (.v 8))) (.e (mD (.int 1)))), (mV 3)])])) mPass))) mPass)
theorem mov_loop {a1 a5 : Option FL.Slot} {old : List En} {μ : Mem} (ho : Ok old) : ∀ (P : List (En × Nat)) (acc : List Ev) (a2 a3 a7 a8 : Option FL.Slot), acc.length + 2 * P.length ≤ 1000 →
    ∃ b2 b3 b7 b8, forD (turnD tg723 movS) (P.map pD) [some (.fr (.lst (old.map eD))), a1, a2, a3, some (.fr (.lst ((keys old).map letD))), a5, some (.own (.lst (acc.map Ev.d))), a7, a8] μ = .nx [some (.fr (.lst (old.map eD))), a1, b2, b3, some (.fr (.lst ((keys old).map letD))), a5, some (.own (.lst ((acc ++ P.flatMap (movF old)).map Ev.d))), b7, b8] μ
  | [], acc, a2, a3, a7, a8, _ => ⟨a2, a3, a7, a8, by simp [forD]⟩
  | p :: P, acc, a2, a3, a7, a8, h => by
    rw [List.length_cons] at h
    have hi := in_let false p.1.1 (keys old)
    have hle : (movF old p).length ≤ 2 := by unfold movF; (repeat' split) <;> simp
    have step : ∃ b8, turnD tg723 movS (pD p) [some (.fr (.lst (old.map eD))), a1, a2, a3, some (.fr (.lst ((keys old).map letD))), a5, some (.own (.lst (acc.map Ev.d))), a7, a8] μ = .nx [some (.fr (.lst (old.map eD))), a1, some (.fr (letD p.1.1)), some (.fr (scD p.1.2)), some (.fr (.lst ((keys old).map letD))), a5, some (.own (.lst ((acc ++ movF old p).map Ev.d))), some (.fr (.int p.2)), b8] μ := by
      show ∃ b8, movS [some (.fr (.lst (old.map eD))), a1, some (.fr (letD p.1.1)), some (.fr (scD p.1.2)), some (.fr (.lst ((keys old).map letD))), a5, some (.own (.lst (acc.map Ev.d))), some (.fr (.int p.2)), a8] μ = _
      by_cases hc : p.1.1 ∈ keys old
      · have hx := ix_let hc (fun x hx => by
          obtain ⟨e, he, rfl⟩ := List.mem_map.mp hx
          have := (ho e he).2.1
          omega)
        have hb : (keys old).idxOf p.1.1 < old.length := by
          have := List.idxOf_lt_length_of_mem hc
          rwa [List.length_map] at this
        unfold movS movF
        simp only [if_pos hc]
        generalize (keys old).idxOf p.1.1 = b at hx hb ⊢
        have at1 : L2.atI (old.map eD) (b : Int) = some (eD old[b]) := by
          unfold L2.atI ixN
          simp [hb]
        have hs : scAt old b = old[b].2 := by simp [scAt, hb]
        rw [hs]
        refine ⟨some (.fr (.int b)), ?_⟩
        rw [decide_eq_true hc] at hi
        have t0 : mTb (m2 (gIn false) (.v 2) (.v 4)) [some (.fr (.lst (old.map eD))), a1, some (.fr (letD p.1.1)), some (.fr (scD p.1.2)), some (.fr (.lst ((keys old).map letD))), a5, some (.own (.lst (acc.map Ev.d))), some (.fr (.int p.2)), a8] μ = .ok true [some (.fr (.lst (old.map eD))), a1, some (.fr (letD p.1.1)), some (.fr (scD p.1.2)), some (.fr (.lst ((keys old).map letD))), a5, some (.own (.lst (acc.map Ev.d))), some (.fr (.int p.2)), a8] μ := by
          simp only [mTb, m2, Opn.ev, OR.at, look, Out.bind, dfr, List.getElem?_cons_succ, List.getElem?_cons_zero, hi, tb, lift]
          rfl
        rw [if_t t0]
        have s1 : mSet 8 (mM "list" gIndex (.v 4) [(.v 2)]) [some (.fr (.lst (old.map eD))), a1, some (.fr (letD p.1.1)), some (.fr (scD p.1.2)), some (.fr (.lst ((keys old).map letD))), a5, some (.own (.lst (acc.map Ev.d))), some (.fr (.int p.2)), a8] μ = .nx [some (.fr (.lst (old.map eD))), a1, some (.fr (letD p.1.1)), some (.fr (scD p.1.2)), some (.fr (.lst ((keys old).map letD))), a5, some (.own (.lst (acc.map Ev.d))), some (.fr (.int p.2)), some (.fr (.int b))] μ := by
          simp [mSet, mM, isTy, evs, Opn.ev, OR.at, OR.ats, look, Out.bind, Out.thn, dfr, hx, lift, -List.map_map]
        rw [seq_nx s1]
        have ha : acc.length < 16777216 := by omega
        have s2 : mIfS (mTb (m2 (gEq true) (.v 8) (.v 7))) (mEx (mMut "list" gAppend (.v 6) [(mTup [(mD (.str (lit "moved"))), (mV 2), (mV 8), (mV 7)])])) mPass [some (.fr (.lst (old.map eD))), a1, some (.fr (letD p.1.1)), some (.fr (scD p.1.2)), some (.fr (.lst ((keys old).map letD))), a5, some (.own (.lst (acc.map Ev.d))), some (.fr (.int p.2)), some (.fr (.int b))] μ =
            .nx [some (.fr (.lst (old.map eD))), a1, some (.fr (letD p.1.1)), some (.fr (scD p.1.2)), some (.fr (.lst ((keys old).map letD))), a5, some (.own (.lst ((acc ++ (if b = p.2 then [] else [Ev.mov p.1.1 b p.2])).map Ev.d))), some (.fr (.int p.2)), some (.fr (.int b))] μ := by
          by_cases q : b = p.2
          · have q' : (b : Int) = (p.2 : Int) := by omega
            simp [mIfS, mPass, mTb, m2, Opn.ev, OR.at, look, Out.bind, Out.thn, dfr, gEq, eqS, lift, q]
          · have q' : ¬ (b : Int) = (p.2 : Int) := by omega
            simp [mIfS, mTb, m2, Opn.ev, OR.at, look, Out.bind, Out.thn, dfr, gEq, eqS, lift, q, q', mEx, mMut, recv, ownTy, evA, mTup, mD, mV, gAppend, ha, Ev.d]
        rw [seq_nx s2]
        rw [← List.append_assoc]
        generalize hacc : acc ++ (if b = p.2 then [] else [Ev.mov p.1.1 b p.2]) = acc2
        have ha2 : acc2.length < 16777216 := by
          rw [← hacc, List.length_append]
          split <;> simp <;> omega
        have lkE : ∀ (e : En) μ, look μ (eD e) = some (eD e) := fun _ _ => rfl
        have lkL : ∀ (l : List D) μ, look μ (.lst l) = some (.lst l) := fun _ _ => rfl
        have lkI : ∀ i μ, look μ (.int i) = some (.int i) := fun _ _ => rfl
        have e1 : ∀ e : En, gIxL (eD e) (.int 1) = some (.fr (scD e.2)) := fun _ => rfl
        have g0 : gIxL (.lst (old.map eD)) (.int b) = some (.fr (eD old[b])) := by simp [gIxL, at1]
        have ge := eq_sc true old[b].2 p.1.2
        by_cases q : old[b].2 = p.1.2
        · rw [decide_eq_true q] at ge
          rw [if_pos q]
          simp [mIfS, mPass, mTb, m2, mD, Opn.ev, OR.at, lkE, lkL, lkI, lk_s, Out.bind, Out.thn, dfr, g0, e1, ge, tb, lift]
        · rw [decide_eq_false q] at ge
          rw [if_neg q]
          simp [mIfS, mTb, m2, mD, Opn.ev, OR.at, lkE, lkL, lkI, lk_s, Out.bind, Out.thn, dfr, g0, e1, ge, tb, lift, mEx, mMut, recv, ownTy, evA, mTup, mV, gAppend, ha2, Ev.d]
      · refine ⟨a8, ?_⟩
        unfold movS movF
        rw [decide_eq_false hc] at hi
        rw [if_neg hc, List.append_nil]
        have t0 : mTb (m2 (gIn false) (.v 2) (.v 4)) [some (.fr (.lst (old.map eD))), a1, some (.fr (letD p.1.1)), some (.fr (scD p.1.2)), some (.fr (.lst ((keys old).map letD))), a5, some (.own (.lst (acc.map Ev.d))), some (.fr (.int p.2)), a8] μ = .ok false [some (.fr (.lst (old.map eD))), a1, some (.fr (letD p.1.1)), some (.fr (scD p.1.2)), some (.fr (.lst ((keys old).map letD))), a5, some (.own (.lst (acc.map Ev.d))), some (.fr (.int p.2)), a8] μ := by
          simp only [mTb, m2, Opn.ev, OR.at, look, Out.bind, dfr, List.getElem?_cons_succ, List.getElem?_cons_zero, hi, tb, lift]
          rfl
        exact if_fp t0
    obtain ⟨c8, step⟩ := step
    obtain ⟨b2, b3, b7, b8, e⟩ := mov_loop (a1 := a1) (a5 := a5) (μ := μ) ho P (acc ++ movF old p) (some (.fr (letD p.1.1))) (some (.fr (scD p.1.2))) (some (.fr (.int p.2))) c8 (by rw [List.length_append]; omega)
    refine ⟨b2, b3, b7, b8, ?_⟩
    rw [List.map_cons, forD_cons, step, List.flatMap_cons, ← List.append_assoc]
    exact e
theorem events_spec {old new : List En} {μ : Mem} (ho : Gd old) (hn : Gd new) : m__law_events [.lst (old.map eD), .lst (new.map eD)] μ = .ok (.fr (.lst ((evs2 old new).map Ev.d))) μ := by
  obtain ⟨o1, o2, o3⟩ := ho
  obtain ⟨n1, n2, n3⟩ := hn
  have z1 : mLc (mIt (mV 0)) tg23 mYes (mV 2) [2, 3] [some (.fr (.lst (old.map eD))), some (.fr (.lst (new.map eD))), none, none, none, none, none, none, none] μ = .ok (.own (.lst ((keys old).map letD))) [some (.fr (.lst (old.map eD))), some (.fr (.lst (new.map eD))), none, none, none, none, none, none, none] μ := by
    unfold mLc
    rw [show mIt (mV 0) [some (.fr (.lst (old.map eD))), some (.fr (.lst (new.map eD))), none, none, none, none, none, none, none] μ = .ok (old.map eD) [some (.fr (.lst (old.map eD))), some (.fr (.lst (new.map eD))), none, none, none, none, none, none, none] μ from by simp [mIt, mV, Out.bind, dfr, itA], Out.bind_ok]
    exact keys_lc old [] (by simp; omega)
  have z2 : mLc (mIt (mV 1)) tg23 mYes (mV 2) [2, 3] [some (.fr (.lst (old.map eD))), some (.fr (.lst (new.map eD))), none, none, none, none, none, none, none] μ = .ok (.own (.lst ((keys new).map letD))) [some (.fr (.lst (old.map eD))), some (.fr (.lst (new.map eD))), none, none, none, none, none, none, none] μ := by
    unfold mLc
    rw [show mIt (mV 1) [some (.fr (.lst (old.map eD))), some (.fr (.lst (new.map eD))), none, none, none, none, none, none, none] μ = .ok (new.map eD) [some (.fr (.lst (old.map eD))), some (.fr (.lst (new.map eD))), none, none, none, none, none, none, none] μ from by simp [mIt, mV, Out.bind, dfr, itA], Out.bind_ok]
    exact keys_lc new [] (by simp; omega)
  have s1 : mAsg (tgT 2 (tgC (tgV 4) (tgC (tgV 5) tgN))) (mTup [(mLc (mIt (mV 0)) tg23 mYes (mV 2) [2, 3]), (mLc (mIt (mV 1)) tg23 mYes (mV 2) [2, 3])]) (startD 9 [.lst (old.map eD), .lst (new.map eD)]) μ =
      .nx [some (.fr (.lst (old.map eD))), some (.fr (.lst (new.map eD))), none, none, some (.fr (.lst ((keys old).map letD))), some (.fr (.lst ((keys new).map letD))), none, none, none] μ := by
    show mAsg _ _ [some (.fr (.lst (old.map eD))), some (.fr (.lst (new.map eD))), none, none, none, none, none, none, none] μ = _
    generalize hA : mLc (mIt (mV 0)) tg23 mYes (mV 2) [2, 3] = A at z1 ⊢
    generalize hB : mLc (mIt (mV 1)) tg23 mYes (mV 2) [2, 3] = B at z2 ⊢
    simp [mAsg, mTup, evA, z1, z2, Out.bind, Out.thn, dfr, down, tgT, tgC, tgV, tgN, -List.map_map]
  have z3 : mLc (mIt (mV 4)) (tgV 2) (mTb (m2 (gIn true) (.v 2) (.v 5))) (mTup [(mD (.str (lit "left"))), (mV 2)]) [2] [some (.fr (.lst (old.map eD))), some (.fr (.lst (new.map eD))), none, none, some (.fr (.lst ((keys old).map letD))), some (.fr (.lst ((keys new).map letD))), none, none, none] μ =
      .ok (.own (.lst (((keys old).flatMap (leftF (keys new))).map Ev.d))) [some (.fr (.lst (old.map eD))), some (.fr (.lst (new.map eD))), none, none, some (.fr (.lst ((keys old).map letD))), some (.fr (.lst ((keys new).map letD))), none, none, none] μ := by
    unfold mLc
    rw [show mIt (mV 4) [some (.fr (.lst (old.map eD))), some (.fr (.lst (new.map eD))), none, none, some (.fr (.lst ((keys old).map letD))), some (.fr (.lst ((keys new).map letD))), none, none, none] μ = .ok ((keys old).map letD) [some (.fr (.lst (old.map eD))), some (.fr (.lst (new.map eD))), none, none, some (.fr (.lst ((keys old).map letD))), some (.fr (.lst ((keys new).map letD))), none, none, none] μ from by simp [mIt, mV, Out.bind, dfr, itA, -List.map_map], Out.bind_ok]
    exact left_lc (keys old) [] (by simp; omega)
  have s2 := set_of (i := 6) z3
  obtain ⟨b2, b3, b7, e2⟩ := ent_loop (a0 := some (.fr (.lst (old.map eD)))) (a1 := some (.fr (.lst (new.map eD)))) (a5 := some (.fr (.lst ((keys new).map letD)))) (a8 := none) (ok := keys old) (μ := μ) new.zipIdx ((keys old).flatMap (leftF (keys new))) none none none (by
    have h1 : ((keys old).flatMap (leftF (keys new))).length ≤ (keys old).length := by
      have : ∀ ks : List Nat, (ks.flatMap (leftF (keys new))).length ≤ ks.length := fun ks => by
        induction ks with
        | nil => simp
        | cons c ks ih =>
          rw [List.flatMap_cons, List.length_append, List.length_cons]
          have : (leftF (keys new) c).length ≤ 1 := by unfold leftF; split <;> simp
          omega
      exact this _
    have h2 : (keys old).length = old.length := List.length_map ..
    rw [List.length_zipIdx]
    omega)
  have hle : ((keys old).flatMap (leftF (keys new)) ++ new.zipIdx.flatMap (entF (keys old))).length ≤ 28 := by
    have h1 : ∀ ks : List Nat, (ks.flatMap (leftF (keys new))).length ≤ ks.length := fun ks => by
      induction ks with
      | nil => simp
      | cons c ks ih =>
        rw [List.flatMap_cons, List.length_append, List.length_cons]
        have : (leftF (keys new) c).length ≤ 1 := by unfold leftF; split <;> simp
        omega
    have h2 : ∀ ps : List (En × Nat), (ps.flatMap (entF (keys old))).length ≤ ps.length := fun ps => by
      induction ps with
      | nil => simp
      | cons c ps ih =>
        rw [List.flatMap_cons, List.length_append, List.length_cons]
        have : (entF (keys old) c).length ≤ 1 := by unfold entF; split <;> simp
        omega
    have h3 := h1 (keys old)
    have h4 := h2 new.zipIdx
    rw [List.length_zipIdx] at h4
    have h5 : (keys old).length = old.length := List.length_map ..
    rw [List.length_append]
    omega
  obtain ⟨d2, d3, d7, d8, e3⟩ := mov_loop (a1 := some (.fr (.lst (new.map eD)))) (a5 := some (.fr (.lst ((keys new).map letD)))) (μ := μ) o1 new.zipIdx ((keys old).flatMap (leftF (keys new)) ++ new.zipIdx.flatMap (entF (keys old))) b2 b3 b7 none (by
    rw [List.length_zipIdx]
    omega)
  have it1 : ∀ a0 a2 a3 a4 a5 a6 a7 a8, mEnum (mV 1) [a0, some (.fr (.lst (new.map eD))), a2, a3, a4, a5, a6, a7, a8] μ = .ok (new.zipIdx.map pD) [a0, some (.fr (.lst (new.map eD))), a2, a3, a4, a5, a6, a7, a8] μ := fun a0 a2 a3 a4 a5 a6 a7 a8 => by
    simp [mEnum, mV, Out.bind, dfr, enA, en_rows]
  have hb : b__law_events = mSeq (mAsg (tgT 2 (tgC (tgV 4) (tgC (tgV 5) tgN))) (mTup [(mLc (mIt (mV 0)) tg23 mYes (mV 2) [2, 3]), (mLc (mIt (mV 1)) tg23 mYes (mV 2) [2, 3])])) (mSeq (mSet 6 (mLc (mIt (mV 4)) (tgV 2) (mTb (m2 (gIn true) (.v 2) (.v 5))) (mTup [(mD (.str (lit "left"))), (mV 2)]) [2])) (mSeq (mFor (mEnum (mV 1)) tg723 entS) (mSeq (mFor (mEnum (mV 1)) tg723 movS) (mRet (mV 6))))) := rfl
  refine fn_rt ?_
  rw [hb, seq_nx s1, seq_nx s2]
  have n3 := for_of (it1 (some (.fr (.lst (old.map eD)))) none none (some (.fr (.lst ((keys old).map letD)))) (some (.fr (.lst ((keys new).map letD)))) (some (.own (.lst (((keys old).flatMap (leftF (keys new))).map Ev.d)))) none none) e2
  have n4 := for_of (it1 (some (.fr (.lst (old.map eD)))) b2 b3 (some (.fr (.lst ((keys old).map letD)))) (some (.fr (.lst ((keys new).map letD)))) (some (.own (.lst (((keys old).flatMap (leftF (keys new)) ++ new.zipIdx.flatMap (entF (keys old))).map Ev.d)))) b7 none) e3
  refine (seq_nx n3).trans ((seq_nx n4).trans ?_)
  unfold evs2
  simp [mRet, mV, Out.thn, down]
/-! ### tables -/
abbrev Tv := Nat × Sc
abbrev Tb := List (Nat × Tv)
abbrev Fn := Nat → Option Tv
def tv (v : Tv) : D := .tup [.int v.1, scD v.2]
def tk (t : Nat × Tv) : DK × D := (.s [t.1], tv t.2)
def getT (T : Tb) (c : Nat) : Option Tv := (T.find? fun t => decide (t.1 = c)).map (·.2)
def putT (T : Tb) (c : Nat) (v : Tv) : Tb := if (T.any fun t => decide (t.1 = c)) = true then T.map (fun t => if t.1 = c then (t.1, v) else t) else T ++ [(c, v)]
def dropT (T : Tb) (c : Nat) : Tb := T.filter fun t => decide (t.1 ≠ c)
def up (φ : Fn) (c : Nat) (v : Option Tv) : Fn := fun x => if x = c then v else φ x
def Rel (T : Tb) (φ : Fn) : Prop := (T.map (·.1)).Nodup ∧ ∀ c, getT T c = φ c
theorem zip_back {α β : Type} : ∀ l : List (α × β), (l.map (·.1)).zip (l.map (·.2)) = l
  | [] => rfl
  | (a, b) :: l => by
    rw [List.map_cons, List.map_cons, List.zip_cons_cons, zip_back l]
theorem dk1 (a c : Nat) : decide ((DK.s [a]) = (DK.s [c])) = decide (a = c) := by
  by_cases h : a = c
  · rw [h, decide_eq_true rfl, decide_eq_true rfl]
  · rw [decide_eq_false h, decide_eq_false fun z => h (by injection z with z; injection z)]
theorem get_tk (c : Nat) : ∀ T : Tb, getA (T.map tk) (.s [c]) = (getT T c).map tv
  | [] => rfl
  | t :: T => by
    have ih := get_tk c T
    unfold getA getT at ih ⊢
    rw [List.map_cons, List.find?_cons, List.find?_cons]
    show (match decide (DK.s [t.1] = DK.s [c]) with | true => some (tk t) | false => _).map _ = _
    rw [dk1]
    by_cases h : t.1 = c
    · rw [decide_eq_true h]; rfl
    · rw [decide_eq_false h]; exact ih
theorem any_tk (c : Nat) (T : Tb) : ((T.map tk).any fun p => decide (p.1 = .s [c])) = T.any fun t => decide (t.1 = c) := by
  rw [List.any_map]
  congr 1
  funext t
  exact dk1 t.1 c
theorem put_tk (c : Nat) (v : Tv) (T : Tb) : putA (T.map tk) (.s [c]) (tv v) = (putT T c v).map tk := by
  unfold putA putT
  rw [any_tk]
  by_cases h : (T.any fun t => decide (t.1 = c)) = true
  · rw [if_pos h, if_pos h, List.map_map, List.map_map]
    refine List.map_congr_left fun t _ => ?_
    show (if DK.s [t.1] = DK.s [c] then (DK.s [t.1], tv v) else tk t) = tk (if t.1 = c then (t.1, v) else t)
    by_cases q : t.1 = c
    · rw [if_pos (by rw [q]), if_pos q]; rfl
    · rw [if_neg (fun z => q (by injection z with z; injection z)), if_neg q]
  · rw [if_neg h, if_neg h, List.map_append]
    rfl
theorem drop_tk (c : Nat) (T : Tb) : dropA (T.map tk) (.s [c]) = (dropT T c).map tk := by
  unfold dropA dropT
  rw [List.filter_map]
  congr 1
  refine List.filter_congr fun t _ => ?_
  show decide (DK.s [t.1] ≠ DK.s [c]) = decide (t.1 ≠ c)
  by_cases q : t.1 = c
  · simp [q]
  · have : ¬ DK.s [t.1] = DK.s [c] := fun z => q (by injection z with z; injection z)
    simp [q, this]
theorem getT_mem {T : Tb} (hn : (T.map (·.1)).Nodup) {c : Nat} {v : Tv} : getT T c = some v ↔ (c, v) ∈ T := by
  induction T with
  | nil => simp [getT]
  | cons t T ih =>
    rw [List.map_cons, List.nodup_cons] at hn
    unfold getT at ih ⊢
    rw [List.find?_cons]
    by_cases h : t.1 = c
    · rw [decide_eq_true h]
      simp only [Option.map_some, Option.some.injEq, List.mem_cons]
      constructor
      · intro e
        left
        rw [← h, ← e]
      · rintro (e | e)
        · rw [← e]
        · exact absurd (List.mem_map.mpr ⟨_, e, h.symm⟩) hn.1
    · rw [decide_eq_false h]
      simp only [List.mem_cons]
      rw [ih hn.2]
      constructor
      · exact .inr
      · rintro (e | e)
        · exact absurd (by rw [← e]) h
        · exact e
theorem nodup_of {T : Tb} (hn : (T.map (·.1)).Nodup) : T.Nodup := (List.pairwise_map.mp hn).imp fun h e => h (by rw [e])
theorem rel_perm {T S : Tb} {φ : Fn} (h : Rel T φ) (g : Rel S φ) : T.Perm S := by
  refine (List.perm_ext_iff_of_nodup (nodup_of h.1) (nodup_of g.1)).mpr fun ⟨c, v⟩ => ?_
  rw [← getT_mem h.1, ← getT_mem g.1, h.2, g.2]
theorem Rel.drop {T : Tb} {φ : Fn} (h : Rel T φ) (c : Nat) : Rel (dropT T c) (up φ c none) := by
  have sub : ((dropT T c).map (·.1)).Sublist (T.map (·.1)) := List.filter_sublist.map _
  have hn := sub.nodup h.1
  refine ⟨hn, fun x => ?_⟩
  have key : ∀ v, getT (dropT T c) x = some v ↔ up φ c none x = some v := fun v => by
    rw [getT_mem hn]
    unfold dropT up
    rw [List.mem_filter, ← getT_mem h.1, h.2]
    by_cases q : x = c <;> simp [q]
  cases e : getT (dropT T c) x with
  | some v => exact ((key v).mp e).symm
  | none =>
    cases e2 : up φ c none x with
    | none => rfl
    | some v =>
      have := (key v).mpr e2
      rw [e] at this
      cases this
theorem Rel.put {T : Tb} {φ : Fn} (h : Rel T φ) (c : Nat) (v : Tv) : Rel (putT T c v) (up φ c (some v)) := by
  have hany : (T.any fun t => decide (t.1 = c)) = true ↔ c ∈ T.map (·.1) := by
    rw [List.any_eq_true, List.mem_map]
    constructor
    · rintro ⟨t, h1, h2⟩; exact ⟨t, h1, of_decide_eq_true h2⟩
    · rintro ⟨t, h1, h2⟩; exact ⟨t, h1, decide_eq_true h2⟩
  by_cases q : (T.any fun t => decide (t.1 = c)) = true
  · have ek : (putT T c v).map (·.1) = T.map (·.1) := by
      unfold putT
      rw [if_pos q, List.map_map]
      refine List.map_congr_left fun t _ => ?_
      show (if t.1 = c then (t.1, v) else t).1 = t.1
      split <;> rfl
    have hn : ((putT T c v).map (·.1)).Nodup := by rw [ek]; exact h.1
    refine ⟨hn, fun x => ?_⟩
    have key : ∀ w, getT (putT T c v) x = some w ↔ up φ c (some v) x = some w := fun w => by
      rw [getT_mem hn]
      unfold putT up
      rw [if_pos q, List.mem_map]
      by_cases z : x = c
      · rw [if_pos z]
        constructor
        · rintro ⟨t, h1, h2⟩
          by_cases y : t.1 = c
          · rw [if_pos y] at h2
            have := congrArg (·.2) h2
            exact congrArg some this
          · rw [if_neg y] at h2
            exact absurd (by rw [h2, z]) y
        · intro e
          obtain ⟨t, h1, h2⟩ := List.mem_map.mp (hany.mp q)
          exact ⟨t, h1, by rw [if_pos h2, h2, z, Option.some.inj e]⟩
      · rw [if_neg z, ← h.2, getT_mem h.1]
        constructor
        · rintro ⟨t, h1, h2⟩
          by_cases y : t.1 = c
          · rw [if_pos y] at h2
            exact absurd (by rw [← y]; exact (congrArg (·.1) h2).symm) z
          · rw [if_neg y] at h2
            rw [← h2]; exact h1
        · intro h1
          exact ⟨_, h1, by rw [if_neg (show ¬ (x, w).1 = c from z)]⟩
    cases e : getT (putT T c v) x with
    | some w => exact ((key w).mp e).symm
    | none =>
      cases e2 : up φ c (some v) x with
      | none => rfl
      | some w =>
        have := (key w).mpr e2
        rw [e] at this
        cases this
  · have nc : c ∉ T.map (·.1) := fun z => q (hany.mpr z)
    have ep : putT T c v = T ++ [(c, v)] := if_neg q
    have hn : ((putT T c v).map (·.1)).Nodup := by
      rw [ep, List.map_append]
      refine List.nodup_append.mpr ⟨h.1, by simp, fun a ha b hb => ?_⟩
      simp at hb
      intro z
      exact nc (by rw [← hb, ← z]; exact ha)
    refine ⟨hn, fun x => ?_⟩
    have key : ∀ w, getT (putT T c v) x = some w ↔ up φ c (some v) x = some w := fun w => by
      rw [getT_mem hn, ep, List.mem_append, ← getT_mem h.1, h.2]
      unfold up
      by_cases z : x = c
      · have : φ c = none := by
          rw [← h.2]
          unfold getT
          rw [List.find?_eq_none.mpr fun t ht => by
            intro y
            exact nc (List.mem_map.mpr ⟨t, ht, of_decide_eq_true y⟩)]
          rfl
        simp [z, this, eq_comm]
      · simp [z]
    cases e : getT (putT T c v) x with
    | some w => exact ((key w).mp e).symm
    | none =>
      cases e2 : up φ c (some v) x with
      | none => rfl
      | some w =>
        have := (key w).mpr e2
        rw [e] at this
        cases this
/-! ### what the events do -/
def stepE (φ : Fn) : Ev → Option Fn
  | .left c => (φ c).map fun _ => up φ c none
  | .ent c i s => some (up φ c (some (i, s)))
  | .mov c _ i => (φ c).map fun v => up φ c (some (i, v.2))
  | .sco c _ t => (φ c).map fun v => up φ c (some (v.1, t))
def runE : Fn → List Ev → Option Fn
  | φ, [] => some φ
  | φ, e :: es => (stepE φ e).bind fun ψ => runE ψ es
theorem runE_app (φ : Fn) : ∀ a b : List Ev, runE φ (a ++ b) = (runE φ a).bind fun ψ => runE ψ b := by
  intro a
  induction a generalizing φ with
  | nil => intro b; rfl
  | cons e a ih =>
    intro b
    show (stepE φ e).bind _ = ((stepE φ e).bind _).bind _
    cases stepE φ e with
    | none => rfl
    | some ψ => exact ih ψ b
theorem up_same {φ : Fn} {c : Nat} {v : Option Tv} (h : φ c = v) : up φ c v = φ := by
  funext x
  unfold up
  by_cases z : x = c
  · rw [if_pos z, z, h]
  · rw [if_neg z]
theorem up_up (φ : Fn) (c : Nat) (v w : Option Tv) : up (up φ c v) c w = up φ c w := by
  funext x
  unfold up
  by_cases z : x = c
  · rw [if_pos z, if_pos z]
  · rw [if_neg z, if_neg z, if_neg z]
theorem up_at (φ : Fn) (c : Nat) (v : Option Tv) : up φ c v c = v := if_pos rfl
theorem phase {X : Type} (κ : X → Nat) (ev : X → List Ev) (pre post : X → Option Tv) : ∀ xs : List X, (xs.map κ).Nodup → (∀ x ∈ xs, ∀ φ : Fn, φ (κ x) = pre x → runE φ (ev x) = some (up φ (κ x) (post x))) → ∀ φ : Fn, (∀ x ∈ xs, φ (κ x) = pre x) →
    ∃ ψ, runE φ (xs.flatMap ev) = some ψ ∧ (∀ x ∈ xs, ψ (κ x) = post x) ∧ ∀ c, c ∉ xs.map κ → ψ c = φ c
  | [], _, _, φ, _ => ⟨φ, rfl, (fun x h => nomatch h), fun _ _ => rfl⟩
  | x :: xs, hn, hs, φ, hp => by
    rw [List.map_cons, List.nodup_cons] at hn
    have ne : ∀ y ∈ xs, κ y ≠ κ x := fun y hy z => hn.1 (List.mem_map.mpr ⟨y, hy, z⟩)
    obtain ⟨ψ, e, h1, h2⟩ := phase κ ev pre post xs hn.2 (fun y hy => hs y (List.mem_cons_of_mem _ hy)) (up φ (κ x) (post x)) (fun y hy => by
      show (if κ y = κ x then _ else _) = _
      rw [if_neg (ne y hy)]
      exact hp y (List.mem_cons_of_mem _ hy))
    refine ⟨ψ, ?_, fun y hy => ?_, fun c hc => ?_⟩
    · rw [List.flatMap_cons, runE_app, hs x (List.mem_cons_self ..) φ (hp x (List.mem_cons_self ..))]
      exact e
    · rcases List.mem_cons.mp hy with rfl | hy
      · rw [h2 _ hn.1]
        exact up_at ..
      · exact h1 y hy
    · rw [List.map_cons, List.mem_cons] at hc
      rw [h2 c fun z => hc (.inr z)]
      exact if_neg fun z => hc (.inl z)
def look (L : List En) (c : Nat) : Option Tv := if c ∈ keys L then some ((keys L).idxOf c, scAt L ((keys L).idxOf c)) else none
theorem zip_at {L : List En} (hn : (keys L).Nodup) {p : En × Nat} (hp : p ∈ L.zipIdx) : p.1.1 ∈ keys L ∧ (keys L).idxOf p.1.1 = p.2 ∧ scAt L p.2 = p.1.2 := by
  have h := List.mem_zipIdx_iff_getElem?.mp hp
  obtain ⟨hl, h2⟩ := List.getElem?_eq_some_iff.mp h
  have hk : p.2 < (keys L).length := by rw [List.length_map]; exact hl
  have e : (keys L)[p.2] = p.1.1 := by rw [List.getElem_map, h2]
  refine ⟨by rw [← e]; exact List.getElem_mem hk, ?_, by simp [scAt, h]⟩
  rw [← e]
  exact hn.idxOf_getElem _ hk
theorem look_zip {L : List En} (hn : (keys L).Nodup) {p : En × Nat} (hp : p ∈ L.zipIdx) : look L p.1.1 = some (p.2, p.1.2) := by
  obtain ⟨h1, h2, h3⟩ := zip_at hn hp
  unfold look
  rw [if_pos h1, h2, h3]
theorem zip_keys (L : List En) : L.zipIdx.map (fun p => p.1.1) = keys L := by
  have key : ∀ (L : List En) (n : Nat), (L.zipIdx n).map (fun p => p.1.1) = keys L := fun L => by
    induction L with
    | nil => intro n; rfl
    | cons e L ih =>
      intro n
      rw [List.zipIdx_cons, List.map_cons, ih]
      rfl
  exact key L 0
theorem run_all {old new : List En} (ho : (keys old).Nodup) (hn : (keys new).Nodup) : runE (look old) (evs2 old new) = some (look new) := by
  obtain ⟨φ1, e1, a1, b1⟩ := phase id (leftF (keys new)) (look old) (fun c => if c ∈ keys new then look old c else none) (keys old) (by simpa using ho) (fun c hc φ hφ => by
    have hφ : φ c = look old c := hφ
    show runE φ (leftF (keys new) c) = some (up φ c (if c ∈ keys new then look old c else none))
    unfold leftF
    by_cases q : c ∈ keys new
    · rw [if_pos q, if_pos q, up_same hφ]; rfl
    · rw [if_neg q, if_neg q]
      have : look old c = some ((keys old).idxOf c, scAt old ((keys old).idxOf c)) := if_pos hc
      rw [this] at hφ
      show (Option.map _ (φ c)).bind _ = _
      rw [hφ]
      rfl) (look old) (fun c _ => rfl)
  have f1 : ∀ c, φ1 c = if c ∈ keys new then look old c else none := fun c => by
    by_cases q : c ∈ keys old
    · exact a1 c q
    · rw [b1 c (by simpa using q)]
      have : look old c = none := if_neg q
      rw [this]
      simp
  obtain ⟨φ2, e2, a2, b2⟩ := phase (fun p : En × Nat => p.1.1) (entF (keys old)) (fun p => look old p.1.1) (fun p => if p.1.1 ∈ keys old then look old p.1.1 else some (p.2, p.1.2)) new.zipIdx (by rw [zip_keys]; exact hn) (fun p hp φ hφ => by
    have hφ : φ p.1.1 = look old p.1.1 := hφ
    unfold entF
    by_cases q : p.1.1 ∈ keys old
    · rw [if_pos q, if_pos q, up_same hφ]; rfl
    · rw [if_neg q, if_neg q]; rfl) φ1 (fun p hp => by
    rw [f1, if_pos (zip_at hn hp).1])
  obtain ⟨φ3, e3, a3, b3⟩ := phase (fun p : En × Nat => p.1.1) (movF old) (fun p => if p.1.1 ∈ keys old then look old p.1.1 else some (p.2, p.1.2)) (fun p => some (p.2, p.1.2)) new.zipIdx (by rw [zip_keys]; exact hn) (fun p hp φ hφ => by
    have hφ : φ p.1.1 = if p.1.1 ∈ keys old then look old p.1.1 else some (p.2, p.1.2) := hφ
    unfold movF
    by_cases q : p.1.1 ∈ keys old
    · rw [if_pos q] at hφ ⊢
      have hl : look old p.1.1 = some ((keys old).idxOf p.1.1, scAt old ((keys old).idxOf p.1.1)) := if_pos q
      rw [hl] at hφ
      generalize (keys old).idxOf p.1.1 = b at hφ ⊢
      generalize scAt old b = s at hφ ⊢
      rw [runE_app]
      have m1 : runE φ (if b = p.2 then [] else [Ev.mov p.1.1 b p.2]) = some (up φ p.1.1 (some (p.2, s))) := by
        by_cases z : b = p.2
        · rw [if_pos z, up_same (by rw [hφ, z])]; rfl
        · rw [if_neg z]
          show (Option.map _ (φ p.1.1)).bind _ = _
          rw [hφ]
          rfl
      rw [m1]
      show runE (up φ p.1.1 (some (p.2, s))) (if s = p.1.2 then [] else [Ev.sco p.1.1 s p.1.2]) = _
      by_cases z : s = p.1.2
      · rw [if_pos z, z]; rfl
      · rw [if_neg z]
        show (Option.map _ (up φ p.1.1 (some (p.2, s)) p.1.1)).bind _ = _
        rw [up_at]
        show some (up (up φ p.1.1 (some (p.2, s))) p.1.1 (some (p.2, p.1.2))) = _
        rw [up_up]
    · rw [if_neg q] at hφ ⊢
      rw [up_same hφ]
      rfl) φ2 (fun p hp => a2 p hp)
  unfold evs2
  rw [runE_app, runE_app, e1]
  show ((runE φ1 _).bind _) = _
  rw [e2]
  show runE φ2 _ = _
  rw [e3]
  congr 1
  funext c
  by_cases q : c ∈ keys new
  · rw [← zip_keys] at q
    obtain ⟨p, hp, rfl⟩ := List.mem_map.mp q
    rw [a3 p hp, look_zip hn hp]
  · have q' : c ∉ new.zipIdx.map (fun p => p.1.1) := by rw [zip_keys]; exact q
    rw [b3 c q', b2 c q', f1, if_neg q]
    exact (if_neg q).symm
/-! ### after_events -/
def tabOf (L : List En) : Tb := L.zipIdx.map fun p => (p.1.1, (p.2, p.1.2))
theorem tab_keys (L : List En) : (tabOf L).map (·.1) = keys L := by
  unfold tabOf
  rw [List.map_map, ← zip_keys]
  rfl
theorem rel_tab {L : List En} (hn : (keys L).Nodup) : Rel (tabOf L) (look L) := by
  have h : ((tabOf L).map (·.1)).Nodup := by rw [tab_keys]; exact hn
  refine ⟨h, fun c => ?_⟩
  by_cases q : c ∈ keys L
  · rw [← zip_keys] at q
    obtain ⟨p, hp, rfl⟩ := List.mem_map.mp q
    rw [look_zip hn hp]
    exact (getT_mem h).mpr (List.mem_map.mpr ⟨p, hp, rfl⟩)
  · rw [show look L c = none from if_neg q]
    cases e : getT (tabOf L) c with
    | none => rfl
    | some v =>
      have := (getT_mem h).mp e
      exact absurd (by rw [← tab_keys]; exact List.mem_map.mpr ⟨_, this, rfl⟩) q
abbrev ownT (T : Tb) : FL.Slot := .own (dctO (T.map tk))
def inS : MS := (mIfS (mTb (m2 (gEq false) (.v 4) (.e (mD (.str (lit "left")))))) (mEx (mPopD (.v 2) (mV 5)))
    (mIfS (mTb (m2 (gEq false) (.v 4) (.e (mD (.str (lit "entered")))))) (mSetI gSetD (.v 2) (.v 5) (mTup [(m2 gIxL (.v 3) (.e (mD (.int 2)))), (m2 gIxL (.v 3) (.e (mD (.int 3))))]))
    (mIfS (mTb (m2 (gEq false) (.v 4) (.e (mD (.str (lit "moved")))))) (mSetI gSetD (.v 2) (.v 5) (mTup [(m2 gIxL (.v 3) (.e (mD (.int 3)))), (m2 gIxL (.e (m2 gGetD (.v 2) (.v 5))) (.e (mD (.int 1))))]))
    (mSetI gSetD (.v 2) (.v 5) (mTup [(m2 gIxL (.e (m2 gGetD (.v 2) (.v 5))) (.e (mD (.int 0)))), (m2 gIxL (.v 3) (.e (mD (.int 3))))])))))
def evS : MS := (mSeq (mPar 4 5 (m2 gIxL (.v 3) (.e (mD (.int 0)))) (m2 gIxL (.v 3) (.e (mD (.int 1))))) inS)
def Ev.key : Ev → Nat
  | .left c => c
  | .ent c _ _ => c
  | .mov c _ _ => c
  | .sco c _ _ => c
def Ev.word : Ev → Tx
  | .left _ => lit "left"
  | .ent _ _ _ => lit "entered"
  | .mov _ _ _ => lit "moved"
  | .sco _ _ _ => lit "scored"
theorem set_tab {T : Tb} {c : Nat} {v : Tv} (hl : T.length ≤ 1000) : gSetD (dctO (T.map tk)) (letD c) (tv v) = some (dctO ((putT T c v).map tk)) := by
  have : (T.map tk).length < 16777216 := by rw [List.length_map]; omega
  simp only [gSetD, dctO, zip_back, dkey, this, if_true, put_tk]
theorem pop_tab {T : Tb} {c : Nat} {v : Tv} (h : getT T c = some v) : gPopD (dctO (T.map tk)) (letD c) = some (tv v, dctO ((dropT T c).map tk)) := by
  simp only [gPopD, dctO, zip_back, dkey, get_tk, h, drop_tk, Option.map_some]
theorem get_tab {T : Tb} {c : Nat} {v : Tv} (h : getT T c = some v) : gGetD (dctO (T.map tk)).d (letD c) = some (.fr (tv v)) := by
  show gGetD (.dct ((T.map tk).map (·.1)) ((T.map tk).map (·.2))) (letD c) = _
  simp only [gGetD, zip_back, dkey, get_tk, h, Option.map_some]
theorem putT_len (T : Tb) (c : Nat) (v : Tv) : (putT T c v).length ≤ T.length + 1 := by
  unfold putT
  split
  · rw [List.length_map]; omega
  · rw [List.length_append]; simp
theorem dropT_len (T : Tb) (c : Nat) : (dropT T c).length ≤ T.length := List.length_filter_le ..
theorem in_step {a0 a1 a6 a7 a8 : Option FL.Slot} {μ : Mem} {ev : Ev} {T : Tb} {φ ψ : Fn} (hr : Rel T φ) (he : stepE φ ev = some ψ) (hl : T.length ≤ 1000) :
    ∃ T', inS [a0, a1, some (ownT T), some (.fr ev.d), some (.fr (.str ev.word)), some (.fr (letD ev.key)), a6, a7, a8] μ = .nx [a0, a1, some (ownT T'), some (.fr ev.d), some (.fr (.str ev.word)), some (.fr (letD ev.key)), a6, a7, a8] μ ∧ Rel T' ψ ∧ T'.length ≤ T.length + 1 := by
  have wt : ∀ x y : Tx, gEq false (.str x) (.str y) = some (.fr (.bl (decide (x = y)))) := fun x y => by simp [gEq, eqS]
  have lkS : ∀ (x : Tx) μ, FL.look μ (.str x) = some (.str x) := fun _ _ => rfl
  have lkE : ∀ (x : Ev) μ, FL.look μ x.d = some x.d := fun x _ => by cases x <;> rfl
  have lkI : ∀ (i : Int) μ, FL.look μ (.int i) = some (.int i) := fun _ _ => rfl
  have lkV : ∀ (v : Tv) μ, FL.look μ (tv v) = some (tv v) := fun _ _ => rfl
  have lkO : ∀ (T : Tb) μ, FL.look μ (dctO (T.map tk)).d = some (dctO (T.map tk)).d := fun _ _ => rfl
  have d1 : decide (lit "left" = lit "left") = true := by decide +kernel
  have d2 : decide (lit "entered" = lit "left") = false := by decide +kernel
  have d3 : decide (lit "entered" = lit "entered") = true := by decide +kernel
  have d4 : decide (lit "moved" = lit "left") = false := by decide +kernel
  have d5 : decide (lit "moved" = lit "entered") = false := by decide +kernel
  have d6 : decide (lit "moved" = lit "moved") = true := by decide +kernel
  have d7 : decide (lit "scored" = lit "left") = false := by decide +kernel
  have d8 : decide (lit "scored" = lit "entered") = false := by decide +kernel
  have d9 : decide (lit "scored" = lit "moved") = false := by decide +kernel
  have tst : ∀ (w x : String) (b : Bool) (ev : D) (c : Nat), decide (lit w = lit x) = b → mTb (m2 (gEq false) (.v 4) (.e (mD (.str (lit x))))) [a0, a1, some (ownT T), some (.fr ev), some (.fr (.str (lit w))), some (.fr (letD c)), a6, a7, a8] μ = .ok b [a0, a1, some (ownT T), some (.fr ev), some (.fr (.str (lit w))), some (.fr (letD c)), a6, a7, a8] μ := fun w x b ev c h => by
    simp only [mTb, m2, Opn.ev, mD, OR.at, lkS, Out.bind, dfr, wt, h, lift, List.getElem?_cons_succ, List.getElem?_cons_zero]
  cases ev with
  | left c =>
    obtain ⟨v, hv, rfl⟩ := Option.map_eq_some_iff.mp he
    have g : getT T c = some v := by rw [hr.2, hv]
    refine ⟨dropT T c, ?_, hr.drop c, by have := dropT_len T c; omega⟩
    unfold inS
    show mIfS _ _ _ [a0, a1, some (ownT T), some (.fr (Ev.left c).d), some (.fr (.str (lit "left"))), some (.fr (letD c)), a6, a7, a8] μ = _
    rw [if_t (tst "left" "left" true _ c d1)]
    have pp := pop_tab g
    simp only [mEx, mPopD, Opn.ev, recv, mV, Out.bind, Out.thn, dfr, List.getElem?_cons_succ, List.getElem?_cons_zero, List.set_cons_succ, List.set_cons_zero, ownT, pp]
    rfl
  | ent c i s =>
    cases he
    refine ⟨putT T c (i, s), ?_, hr.put c (i, s), putT_len ..⟩
    unfold inS
    show mIfS _ _ _ [a0, a1, some (ownT T), some (.fr (Ev.ent c i s).d), some (.fr (.str (lit "entered"))), some (.fr (letD c)), a6, a7, a8] μ = _
    rw [if_f (tst "entered" "left" false _ c d2), if_t (tst "entered" "entered" true _ c d3)]
    have pp := set_tab (T := T) (c := c) (v := (i, s)) hl
    have x2 : gIxL (Ev.ent c i s).d (.int 2) = some (.fr (.int i)) := rfl
    have x3 : gIxL (Ev.ent c i s).d (.int 3) = some (.fr (scD s)) := rfl
    have hm : mTup [(m2 gIxL (.v 3) (.e (mD (.int 2)))), (m2 gIxL (.v 3) (.e (mD (.int 3))))] [a0, a1, some (ownT T), some (.fr (Ev.ent c i s).d), some (.fr (.str (lit "entered"))), some (.fr (letD c)), a6, a7, a8] μ = .ok (.fr (tv (i, s))) [a0, a1, some (ownT T), some (.fr (Ev.ent c i s).d), some (.fr (.str (lit "entered"))), some (.fr (letD c)), a6, a7, a8] μ := by
      simp [mTup, evA, m2, mD, Opn.ev, OR.at, lkE, lkI, Out.bind, dfr, x2, x3, lift, tv]
    simp only [mSetI, hm, Opn.ev, recv, OR.at, Out.thn, dfr, List.getElem?_cons_succ, List.getElem?_cons_zero, ownT]
    show (match gSetD (dctO (T.map tk)) (letD c) (tv (i, s)) with | some c' => OutS.nx _ _ | none => .bad) = _
    rw [pp]
    rfl
  | mov c b i =>
    obtain ⟨v, hv, rfl⟩ := Option.map_eq_some_iff.mp he
    have g : getT T c = some v := by rw [hr.2, hv]
    refine ⟨putT T c (i, v.2), ?_, hr.put c (i, v.2), putT_len ..⟩
    unfold inS
    show mIfS _ _ _ [a0, a1, some (ownT T), some (.fr (Ev.mov c b i).d), some (.fr (.str (lit "moved"))), some (.fr (letD c)), a6, a7, a8] μ = _
    rw [if_f (tst "moved" "left" false _ c d4), if_f (tst "moved" "entered" false _ c d5), if_t (tst "moved" "moved" true _ c d6)]
    have pp := set_tab (T := T) (c := c) (v := (i, v.2)) hl
    have gg := get_tab g
    have x3 : gIxL (Ev.mov c b i).d (.int 3) = some (.fr (.int i)) := rfl
    have y1 : gIxL (tv v) (.int 1) = some (.fr (scD v.2)) := rfl
    have hg : m2 gGetD (.v 2) (.v 5) [a0, a1, some (ownT T), some (.fr (Ev.mov c b i).d), some (.fr (.str (lit "moved"))), some (.fr (letD c)), a6, a7, a8] μ = .ok (.fr (tv v)) [a0, a1, some (ownT T), some (.fr (Ev.mov c b i).d), some (.fr (.str (lit "moved"))), some (.fr (letD c)), a6, a7, a8] μ := by
      simp only [m2, Opn.ev, OR.at, Out.bind, List.getElem?_cons_succ, List.getElem?_cons_zero]
      show lift (gGetD (dctO (T.map tk)).d (letD c)) _ _ = _
      rw [gg]
      rfl
    have hm : mTup [(m2 gIxL (.v 3) (.e (mD (.int 3)))), (m2 gIxL (.e (m2 gGetD (.v 2) (.v 5))) (.e (mD (.int 1))))] [a0, a1, some (ownT T), some (.fr (Ev.mov c b i).d), some (.fr (.str (lit "moved"))), some (.fr (letD c)), a6, a7, a8] μ = .ok (.fr (tv (i, v.2))) [a0, a1, some (ownT T), some (.fr (Ev.mov c b i).d), some (.fr (.str (lit "moved"))), some (.fr (letD c)), a6, a7, a8] μ := by
      generalize hG : m2 gGetD (.v 2) (.v 5) = G at hg ⊢
      rw [show tv (i, v.2) = .tup [.int i, scD v.2] from rfl]
      simp [mTup, evA, m2, mD, Opn.ev, OR.at, lkE, lkI, lkV, Out.bind, dfr, x3, hg, y1, lift]
    simp only [mSetI, hm, Opn.ev, recv, OR.at, Out.thn, dfr, List.getElem?_cons_succ, List.getElem?_cons_zero, ownT]
    show (match gSetD (dctO (T.map tk)) (letD c) (tv (i, v.2)) with | some c' => OutS.nx _ _ | none => .bad) = _
    rw [pp]
    rfl
  | sco c s t =>
    obtain ⟨v, hv, rfl⟩ := Option.map_eq_some_iff.mp he
    have g : getT T c = some v := by rw [hr.2, hv]
    refine ⟨putT T c (v.1, t), ?_, hr.put c (v.1, t), putT_len ..⟩
    unfold inS
    show mIfS _ _ _ [a0, a1, some (ownT T), some (.fr (Ev.sco c s t).d), some (.fr (.str (lit "scored"))), some (.fr (letD c)), a6, a7, a8] μ = _
    rw [if_f (tst "scored" "left" false _ c d7), if_f (tst "scored" "entered" false _ c d8), if_f (tst "scored" "moved" false _ c d9)]
    have pp := set_tab (T := T) (c := c) (v := (v.1, t)) hl
    have gg := get_tab g
    have x3 : gIxL (Ev.sco c s t).d (.int 3) = some (.fr (scD t)) := rfl
    have y0 : gIxL (tv v) (.int 0) = some (.fr (.int v.1)) := rfl
    have hg : m2 gGetD (.v 2) (.v 5) [a0, a1, some (ownT T), some (.fr (Ev.sco c s t).d), some (.fr (.str (lit "scored"))), some (.fr (letD c)), a6, a7, a8] μ = .ok (.fr (tv v)) [a0, a1, some (ownT T), some (.fr (Ev.sco c s t).d), some (.fr (.str (lit "scored"))), some (.fr (letD c)), a6, a7, a8] μ := by
      simp only [m2, Opn.ev, OR.at, Out.bind, List.getElem?_cons_succ, List.getElem?_cons_zero]
      show lift (gGetD (dctO (T.map tk)).d (letD c)) _ _ = _
      rw [gg]
      rfl
    have hm : mTup [(m2 gIxL (.e (m2 gGetD (.v 2) (.v 5))) (.e (mD (.int 0)))), (m2 gIxL (.v 3) (.e (mD (.int 3))))] [a0, a1, some (ownT T), some (.fr (Ev.sco c s t).d), some (.fr (.str (lit "scored"))), some (.fr (letD c)), a6, a7, a8] μ = .ok (.fr (tv (v.1, t))) [a0, a1, some (ownT T), some (.fr (Ev.sco c s t).d), some (.fr (.str (lit "scored"))), some (.fr (letD c)), a6, a7, a8] μ := by
      generalize hG : m2 gGetD (.v 2) (.v 5) = G at hg ⊢
      rw [show tv (v.1, t) = .tup [.int v.1, scD t] from rfl]
      simp [mTup, evA, m2, mD, Opn.ev, OR.at, lkE, lkI, lkV, Out.bind, dfr, x3, hg, y0, lift]
    simp only [mSetI, hm, Opn.ev, recv, OR.at, Out.thn, dfr, List.getElem?_cons_succ, List.getElem?_cons_zero, ownT]
    show (match gSetD (dctO (T.map tk)) (letD c) (tv (v.1, t)) with | some c' => OutS.nx _ _ | none => .bad) = _
    rw [pp]
    rfl
theorem after_loop {a0 a1 a6 a7 a8 : Option FL.Slot} {μ : Mem} : ∀ (es : List Ev) (T : Tb) (φ ψ : Fn) (a3 a4 a5 : Option FL.Slot), Rel T φ → runE φ es = some ψ → T.length + es.length ≤ 1000 →
    ∃ T' b3 b4 b5, forD (turnD (tgV 3) evS) (es.map Ev.d) [a0, a1, some (ownT T), a3, a4, a5, a6, a7, a8] μ = .nx [a0, a1, some (ownT T'), b3, b4, b5, a6, a7, a8] μ ∧ Rel T' ψ ∧ T'.length ≤ 1000
  | [], T, φ, ψ, a3, a4, a5, hr, he, hl => by
    cases he
    exact ⟨T, a3, a4, a5, rfl, hr, by simpa using hl⟩
  | e :: es, T, φ, ψ, a3, a4, a5, hr, he, hl => by
    rw [List.length_cons] at hl
    obtain ⟨χ, h1, h2⟩ := Option.bind_eq_some_iff.mp he
    obtain ⟨T1, e1, r1, l1⟩ := in_step (a0 := a0) (a1 := a1) (a6 := a6) (a7 := a7) (a8 := a8) (μ := μ) hr h1 (by omega)
    obtain ⟨T2, b3, b4, b5, e2, r2, l2⟩ := after_loop (a0 := a0) (a1 := a1) (a6 := a6) (a7 := a7) (a8 := a8) (μ := μ) es T1 χ ψ (some (.fr e.d)) (some (.fr (.str e.word))) (some (.fr (letD e.key))) r1 h2 (by omega)
    refine ⟨T2, b3, b4, b5, ?_, r2, l2⟩
    have lkE : ∀ μ, FL.look μ e.d = some e.d := fun _ => by cases e <;> rfl
    have lkI : ∀ (i : Int) μ, FL.look μ (.int i) = some (.int i) := fun _ _ => rfl
    have x0 : gIxL e.d (.int 0) = some (.fr (.str e.word)) := by cases e <;> rfl
    have x1 : gIxL e.d (.int 1) = some (.fr (letD e.key)) := by cases e <;> rfl
    have s1 : mPar 4 5 (m2 gIxL (.v 3) (.e (mD (.int 0)))) (m2 gIxL (.v 3) (.e (mD (.int 1)))) [a0, a1, some (ownT T), some (.fr e.d), a4, a5, a6, a7, a8] μ = .nx [a0, a1, some (ownT T), some (.fr e.d), some (.fr (.str e.word)), some (.fr (letD e.key)), a6, a7, a8] μ := by
      simp [mPar, m2, mD, Opn.ev, OR.at, lkE, lkI, Out.bind, Out.thn, dfr, x0, x1, lift]
    have step : turnD (tgV 3) evS e.d [a0, a1, some (ownT T), a3, a4, a5, a6, a7, a8] μ = .nx [a0, a1, some (ownT T1), some (.fr e.d), some (.fr (.str e.word)), some (.fr (letD e.key)), a6, a7, a8] μ := by
      show evS [a0, a1, some (ownT T), some (.fr e.d), a4, a5, a6, a7, a8] μ = _
      unfold evS
      rw [seq_nx s1]
      exact e1
    rw [List.map_cons, forD_cons, step]
    exact e2
abbrev tg123 : TgF := tgT 2 (tgC (tgV 1) (tgC tg23 tgN))
def toT (p : En × Nat) : Nat × Tv := (p.1.1, (p.2, p.1.2))
theorem dc_loop {a0 : Option FL.Slot} {μ : Mem} : ∀ (P : List (En × Nat)) (T : Tb), (T.map (·.1) ++ P.map (fun p => p.1.1)).Nodup → T.length + P.length ≤ 1000 →
    dcD tg123 mYes (mV 2) (mTup [(mV 1), (mV 3)]) [1, 2, 3] (P.map pD) (T.map tk) [a0, none, none, none] μ = .ok (ownT (T ++ P.map toT)) [a0, none, none, none] μ
  | [], T, _, _ => by simp [dcD, ownT]
  | p :: P, T, hn, hl => by
    rw [List.length_cons] at hl
    rw [List.map_cons] at hn
    have nc : p.1.1 ∉ T.map (·.1) := fun z => (List.nodup_append.mp hn).2.2 _ z _ (List.mem_cons_self ..) rfl
    have ep : putT T p.1.1 (p.2, p.1.2) = T ++ [toT p] := by
      unfold putT
      rw [if_neg (fun z => by
        obtain ⟨t, h1, h2⟩ := List.any_eq_true.mp z
        exact nc (List.mem_map.mpr ⟨t, h1, of_decide_eq_true h2⟩))]
      rfl
    have ih := dc_loop (a0 := a0) (μ := μ) P (T ++ [toT p]) (by
      rw [List.map_append, List.append_assoc]
      exact hn) (by rw [List.length_append, List.length_singleton]; omega)
    have pk := put_tk p.1.1 (p.2, p.1.2) T
    rw [ep] at pk
    have hT : (T.map tk).length < 16777216 := by rw [List.length_map]; omega
    have hT2 : T.length < 16777216 := by omega
    have step : dcD tg123 mYes (mV 2) (mTup [(mV 1), (mV 3)]) [1, 2, 3] ((p :: P).map pD) (T.map tk) [a0, none, none, none] μ = dcD tg123 mYes (mV 2) (mTup [(mV 1), (mV 3)]) [1, 2, 3] (P.map pD) (putA (T.map tk) (.s [p.1.1]) (tv (p.2, p.1.2))) [a0, none, none, none] μ := by
      rw [List.map_cons]
      generalize P.map pD = R
      simp [dcD, tgT, tgC, tgV, tgN, pD, eD, mYes, Out.cut, Out.bind, mV, mTup, evA, dfr, dkey, hT2, wipeD, tv]
    rw [step, pk, ih, List.map_cons, List.append_assoc]
    rfl
theorem ranks_spec {L : List En} {μ : Mem} (hL : Gd L) : m_ranks_of [.tup (L.map eD)] μ = .ok (ownT (tabOf L)) μ := by
  obtain ⟨h1, h2, h3⟩ := hL
  have e := dc_loop (a0 := some (.fr (.tup (L.map eD)))) (μ := μ) L.zipIdx [] (by
    show (L.zipIdx.map fun p => p.1.1).Nodup
    rw [zip_keys]; exact h2) (by rw [List.length_zipIdx]; simp; omega)
  refine fn_rt (ret_of (δ1 := [some (.fr (.tup (L.map eD))), none, none, none]) ?_)
  have it : mEnum (mV 0) (startD 4 [.tup (L.map eD)]) μ = .ok (L.zipIdx.map pD) [some (.fr (.tup (L.map eD))), none, none, none] μ := by
    simp [mEnum, mV, startD, Out.bind, dfr, enA, en_rows]
  show (mEnum (mV 0) (startD 4 [.tup (L.map eD)]) μ).bind _ = _
  rw [it, Out.bind_ok]
  exact e
def rw3 (t : Nat × Tv) : D := .tup [.int t.2.1, letD t.1, scD t.2.2]
def itT (t : Nat × Tv) : D := .tup [letD t.1, tv t.2]
abbrev tg578 : TgF := tgT 2 (tgC (tgV 5) (tgC (tgT 2 (tgC (tgV 7) (tgC (tgV 8) tgN))) tgN))
abbrev tg758 : TgF := tgT 3 (tgC (tgV 7) (tgC (tgV 5) (tgC (tgV 8) tgN)))
theorem items_lc {a0 a1 a2 a3 a4 a6 : Option FL.Slot} {μ : Mem} : ∀ (T acc : Tb), acc.length + T.length ≤ 2000 →
    lcD tg578 mYes (mTup [(mV 7), (mV 5), (mV 8)]) [5, 7, 8] (T.map itT) (acc.map rw3) [a0, a1, a2, a3, a4, none, a6, none, none] μ = .ok (.own (.lst ((acc ++ T).map rw3))) [a0, a1, a2, a3, a4, none, a6, none, none] μ
  | [], acc, _ => by simp [lcD]
  | t :: T, acc, h => by
    rw [List.length_cons] at h
    have ih := items_lc (a0 := a0) (a1 := a1) (a2 := a2) (a3 := a3) (a4 := a4) (a6 := a6) (μ := μ) T (acc ++ [t]) (by rw [List.length_append, List.length_singleton]; omega)
    have ha : acc.length < 16777216 := by omega
    have step : lcD tg578 mYes (mTup [(mV 7), (mV 5), (mV 8)]) [5, 7, 8] ((t :: T).map itT) (acc.map rw3) [a0, a1, a2, a3, a4, none, a6, none, none] μ = lcD tg578 mYes (mTup [(mV 7), (mV 5), (mV 8)]) [5, 7, 8] (T.map itT) ((acc ++ [t]).map rw3) [a0, a1, a2, a3, a4, none, a6, none, none] μ := by
      rw [List.map_cons, lcD_cons]
      simp [tgT, tgC, tgV, tgN, itT, tv, mYes, Out.cut, Out.bind, mV, mTup, evA, dfr, ha, wipeD, rw3]
    rw [step, ih]
    simp
theorem back_lc {a0 a1 a2 a3 a4 a6 : Option FL.Slot} {μ : Mem} : ∀ (T : Tb) (acc : List En), acc.length + T.length ≤ 2000 →
    lcD tg758 mYes (mTup [(mV 5), (mV 8)]) [7, 5, 8] (T.map rw3) (acc.map eD) [a0, a1, a2, a3, a4, none, a6, none, none] μ = .ok (.own (.lst ((acc ++ T.map fun t => (t.1, t.2.2)).map eD))) [a0, a1, a2, a3, a4, none, a6, none, none] μ
  | [], acc, _ => by simp [lcD]
  | t :: T, acc, h => by
    rw [List.length_cons] at h
    have ih := back_lc (a0 := a0) (a1 := a1) (a2 := a2) (a3 := a3) (a4 := a4) (a6 := a6) (μ := μ) T (acc ++ [(t.1, t.2.2)]) (by rw [List.length_append, List.length_singleton]; omega)
    have ha : acc.length < 16777216 := by omega
    have step : lcD tg758 mYes (mTup [(mV 5), (mV 8)]) [7, 5, 8] ((t :: T).map rw3) (acc.map eD) [a0, a1, a2, a3, a4, none, a6, none, none] μ = lcD tg758 mYes (mTup [(mV 5), (mV 8)]) [7, 5, 8] (T.map rw3) ((acc ++ [(t.1, t.2.2)]).map eD) [a0, a1, a2, a3, a4, none, a6, none, none] μ := by
      rw [List.map_cons, lcD_cons]
      simp [tgT, tgC, tgV, tgN, rw3, mYes, Out.cut, Out.bind, mV, mTup, evA, dfr, ha, wipeD, eD]
    rw [step, ih]
    simp
theorem tab_ranks (L : List En) : (tabOf L).map (·.2.1) = List.range' 0 L.length := by
  unfold tabOf
  rw [List.map_map, ← List.zipIdx_map_snd 0 L]
  rfl
theorem tab_back (L : List En) : ((tabOf L).map fun t => (t.1, t.2.2)) = L := by
  unfold tabOf
  rw [List.map_map]
  show L.zipIdx.map (fun p => (p.1.1, p.1.2)) = L
  have : (fun p : En × Nat => (p.1.1, p.1.2)) = Prod.fst := rfl
  rw [this, List.zipIdx_map_fst]
theorem after_spec {old new : List En} {μ : Mem} (ho : Gd old) (hn : Gd new) (hl : (evs2 old new).length ≤ 900) : m_after_events [.tup (old.map eD), .lst ((evs2 old new).map Ev.d)] μ = .ok (.fr (.tup (new.map eD))) μ := by
  have hT0 : (tabOf old).length = old.length := by unfold tabOf; rw [List.length_map, List.length_zipIdx]
  have ho3 := ho.2.2
  obtain ⟨T, b3, b4, b5, e1, r1, l1⟩ := after_loop (a0 := some (.fr (.tup (old.map eD)))) (a1 := some (.fr (.lst ((evs2 old new).map Ev.d)))) (a6 := none) (a7 := none) (a8 := none) (μ := μ) (evs2 old new) (tabOf old) (look old) (look new) none none none (rel_tab ho.2.1) (run_all ho.2.1 hn.2.1) (by omega)
  have pm : T.Perm (tabOf new) := rel_perm r1 (rel_tab hn.2.1)
  have s1 : mSet 2 (mCall m_ranks_of [(mV 0)] []) (startD 9 [.tup (old.map eD), .lst ((evs2 old new).map Ev.d)]) μ = .nx [some (.fr (.tup (old.map eD))), some (.fr (.lst ((evs2 old new).map Ev.d))), some (ownT (tabOf old)), none, none, none, none, none, none] μ := by
    have := ranks_spec (μ := μ) ho
    simp [mSet, mCall, evA, mV, startD, Out.bind, Out.thn, dfr, this]
  have n1 := for_of (mi := mIt (mV 1)) (δ := [some (.fr (.tup (old.map eD))), some (.fr (.lst ((evs2 old new).map Ev.d))), some (ownT (tabOf old)), none, none, none, none, none, none]) (μ := μ) (ds := (evs2 old new).map Ev.d) (δ1 := [some (.fr (.tup (old.map eD))), some (.fr (.lst ((evs2 old new).map Ev.d))), some (ownT (tabOf old)), none, none, none, none, none, none]) (μ1 := μ) (by simp [mIt, mV, Out.bind, dfr, itA]) e1
  have c1 : mLc (mItems 2) tg578 mYes (mTup [(mV 7), (mV 5), (mV 8)]) [5, 7, 8] [some (.fr (.tup (old.map eD))), some (.fr (.lst ((evs2 old new).map Ev.d))), some (ownT T), b3, b4, b5, none, none, none] μ =
      .ok (.own (.lst (T.map rw3))) [some (.fr (.tup (old.map eD))), some (.fr (.lst ((evs2 old new).map Ev.d))), some (.fr (dctO (T.map tk)).d), b3, b4, none, none, none, none] μ := by
    unfold mLc
    have : mItems 2 [some (.fr (.tup (old.map eD))), some (.fr (.lst ((evs2 old new).map Ev.d))), some (ownT T), b3, b4, b5, none, none, none] μ = .ok (T.map itT) [some (.fr (.tup (old.map eD))), some (.fr (.lst ((evs2 old new).map Ev.d))), some (.fr (dctO (T.map tk)).d), b3, b4, b5, none, none, none] μ := by
      show Out.ok (itemsD (((T.map tk).map (·.1)).zip ((T.map tk).map (·.2)))) _ _ = _
      rw [zip_back]
      unfold itemsD
      rw [List.map_map]
      rfl
    rw [this, Out.bind_ok]
    exact items_lc T [] (by simp; omega)
  have rk : (T.map rw3).map keyD = T.map (fun t => (t.2.1 : Int)) := by rw [List.map_map]; rfl
  have nd : ((T.map rw3).map keyD).Nodup := by
    rw [rk]
    have h1 : (T.map fun t => (t.2.1 : Int)).Perm ((tabOf new).map fun t => (t.2.1 : Int)) := pm.map _
    refine h1.nodup_iff.mpr ?_
    have h2 : (tabOf new).map (fun t => (t.2.1 : Int)) = (List.range' 0 new.length).map Int.ofNat := by rw [← tab_ranks, List.map_map]; rfl
    rw [h2]
    have nr : (List.range' 0 new.length).Nodup := List.nodup_range'
    exact List.pairwise_map.mpr (nr.imp fun h e => h (by injection e))
  have srt : (tabOf new).map rw3 = (T.map rw3).mergeSort leD := by
    refine sort_uniq nd (pm.symm.map rw3) ?_
    have h2 : ((tabOf new).map (·.2.1)).Pairwise (fun a b => a < b) := by rw [tab_ranks]; exact List.pairwise_lt_range'
    refine List.pairwise_map.mpr ((List.pairwise_map.mp h2).imp fun {x y} h => ?_)
    show (x.2.1 : Int) ≤ (y.2.1 : Int)
    have h : x.2.1 < y.2.1 := h
    omega
  have all : (T.map rw3).all rowB = true := by
    rw [List.all_map]
    exact List.all_eq_true.mpr fun t _ => rfl
  have gs : gSorted [.lst (T.map rw3)] = some (.own (.lst ((tabOf new).map rw3))) := by
    show (if ((T.map rw3).all rowB && decide ((T.map rw3).map keyD).Nodup) = true then some (FL.Slot.own (.lst ((T.map rw3).mergeSort leD))) else none) = _
    rw [if_pos (by rw [all, decide_eq_true nd]; rfl), srt]
  have s2 : mSet 6 (mC gSorted [(.e (mLc (mItems 2) tg578 mYes (mTup [(mV 7), (mV 5), (mV 8)]) [5, 7, 8]))]) [some (.fr (.tup (old.map eD))), some (.fr (.lst ((evs2 old new).map Ev.d))), some (ownT T), b3, b4, b5, none, none, none] μ =
      .nx [some (.fr (.tup (old.map eD))), some (.fr (.lst ((evs2 old new).map Ev.d))), some (.fr (dctO (T.map tk)).d), b3, b4, none, some (.own (.lst ((tabOf new).map rw3))), none, none] μ := by
    generalize hG : mLc (mItems 2) tg578 mYes (mTup [(mV 7), (mV 5), (mV 8)]) [5, 7, 8] = G at c1 ⊢
    simp [mSet, mC, evs, Opn.ev, c1, Out.bind, Out.thn, OR.ats, OR.at, look, FL.look, dfr, down, gs, lift, -List.map_map]
  have hT1 : (tabOf new).length = new.length := by unfold tabOf; rw [List.length_map, List.length_zipIdx]
  have hn3 := hn.2.2
  have c2 : mLc (mIt (mV 6)) tg758 mYes (mTup [(mV 5), (mV 8)]) [7, 5, 8] [some (.fr (.tup (old.map eD))), some (.fr (.lst ((evs2 old new).map Ev.d))), some (.fr (dctO (T.map tk)).d), b3, b4, none, some (.own (.lst ((tabOf new).map rw3))), none, none] μ =
      .ok (.own (.lst (new.map eD))) [some (.fr (.tup (old.map eD))), some (.fr (.lst ((evs2 old new).map Ev.d))), some (.fr (dctO (T.map tk)).d), b3, b4, none, some (.fr (.lst ((tabOf new).map rw3))), none, none] μ := by
    unfold mLc
    rw [show mIt (mV 6) [some (.fr (.tup (old.map eD))), some (.fr (.lst ((evs2 old new).map Ev.d))), some (.fr (dctO (T.map tk)).d), b3, b4, none, some (.own (.lst ((tabOf new).map rw3))), none, none] μ = .ok ((tabOf new).map rw3) [some (.fr (.tup (old.map eD))), some (.fr (.lst ((evs2 old new).map Ev.d))), some (.fr (dctO (T.map tk)).d), b3, b4, none, some (.fr (.lst ((tabOf new).map rw3))), none, none] μ from by simp [mIt, mV, Out.bind, dfr, down, itA, -List.map_map], Out.bind_ok]
    have := back_lc (a0 := some (.fr (.tup (old.map eD)))) (a1 := some (.fr (.lst ((evs2 old new).map Ev.d)))) (a2 := some (.fr (dctO (T.map tk)).d)) (a3 := b3) (a4 := b4) (a6 := some (.fr (.lst ((tabOf new).map rw3)))) (μ := μ) (tabOf new) [] (by simp; omega)
    rw [tab_back] at this
    exact this
  have hb : b_after_events = mSeq (mSet 2 (mCall m_ranks_of [(mV 0)] [])) (mSeq (mFor (mIt (mV 1)) (tgV 3) evS) (mSeq (mSet 6 (mC gSorted [(.e (mLc (mItems 2) tg578 mYes (mTup [(mV 7), (mV 5), (mV 8)]) [5, 7, 8]))])) (mRet (mC gTuple [(.e (mLc (mIt (mV 6)) tg758 mYes (mTup [(mV 5), (mV 8)]) [7, 5, 8]))])))) := rfl
  refine fn_rt ?_
  rw [hb, seq_nx s1, seq_nx n1, seq_nx s2]
  generalize hG : mLc (mIt (mV 6)) tg758 mYes (mTup [(mV 5), (mV 8)]) [7, 5, 8] = G at c2 ⊢
  simp [mRet, mC, evs, Opn.ev, c2, Out.bind, Out.thn, OR.ats, OR.at, FL.look, dfr, down, gTuple, lift, -List.map_map]
/-! ### what is shown -/
theorem sh_sc {p : Sc} (h : sv p) : Sh 1 11 (scD p) := by
  obtain ⟨h1, h2, h3, h4⟩ := h
  have := Sh.tup (d := 0) (n := 2) (xs := [.int p.1, .int p.2]) fun x hx => by
    simp only [List.mem_cons, List.not_mem_nil, or_false] at hx
    rcases hx with rfl | rfl
    · exact Sh.int h1 (by omega)
    · exact Sh.int h3 (by omega)
  exact this.mono (by decide) (by simp)
theorem sh_e {e : En} (h : 97 ≤ e.1 ∧ e.1 < 111 ∧ sv e.2) : Sh 2 29 (eD e) := by
  have := Sh.tup (d := 1) (n := 11) (xs := [letD e.1, scD e.2]) fun x hx => by
    simp only [List.mem_cons, List.not_mem_nil, or_false] at hx
    rcases hx with rfl | rfl
    · exact (Sh.letter h.1 (by omega)).mono (by decide) (by decide)
    · exact sh_sc h.2.2
  exact this.mono (by decide) (by simp)
theorem sh_row {L : List En} (h : Gd L) : Sh 3 1000 (.tup (L.map eD)) := by
  have := Sh.tup (d := 2) (n := 29) (xs := L.map eD) fun x hx => by
    obtain ⟨e, he, rfl⟩ := List.mem_map.mp hx
    exact sh_e (h.1 e he)
  have hl := h.2.2
  exact this.mono (by decide) (by rw [List.length_map]; omega)
def EvOk : Ev → Prop
  | .left c => 97 ≤ c ∧ c < 111
  | .ent c i s => (97 ≤ c ∧ c < 111) ∧ i < 100 ∧ sv s
  | .mov c b i => (97 ≤ c ∧ c < 111) ∧ b < 100 ∧ i < 100
  | .sco c s t => (97 ≤ c ∧ c < 111) ∧ sv s ∧ sv t
theorem sh_word {x : Tx} (h : (PyData.canLay0 (.str (toS x)) && decide ((PyData.shown (.str (toS x))).length ≤ 12)) = true) : Sh 1 12 (.str x) := by
  obtain ⟨h1, h2⟩ := Bool.and_eq_true_iff.mp h
  exact ⟨.str (toS x), rfl, by simp [PyData.showable], by simp [PyData.hasDict], h1, by simp [PyData.depth], of_decide_eq_true h2⟩
theorem w1 : Sh 1 12 (.str (lit "left")) := sh_word (by decide +kernel)
theorem w2 : Sh 1 12 (.str (lit "entered")) := sh_word (by decide +kernel)
theorem w3 : Sh 1 12 (.str (lit "moved")) := sh_word (by decide +kernel)
theorem w4 : Sh 1 12 (.str (lit "scored")) := sh_word (by decide +kernel)
theorem sh_ev {ev : Ev} (h : EvOk ev) : Sh 2 59 ev.d := by
  have let_ : ∀ {c : Nat}, 97 ≤ c ∧ c < 111 → Sh 1 12 (letD c) := fun h => (Sh.letter h.1 (by omega)).mono (by decide) (by decide)
  have int_ : ∀ {i : Nat}, i < 100 → Sh 1 12 (.int (i : Nat)) := fun h => (Sh.int (by omega) (by omega)).mono (by decide) (by decide)
  have sc_ : ∀ {p : Sc}, sv p → Sh 1 12 (scD p) := fun h => (sh_sc h).mono (by decide) (by decide)
  have key : ∀ xs : List D, (∀ x ∈ xs, Sh 1 12 x) → xs.length ≤ 4 → Sh 2 59 (.tup xs) := fun xs hx hl => (Sh.tup hx).mono (by decide) (by omega)
  cases ev with
  | left c =>
    refine key [.str (lit "left"), letD c] (fun x hx => ?_) (by simp)
    simp only [List.mem_cons, List.not_mem_nil, or_false] at hx
    rcases hx with rfl | rfl
    · exact w1
    · exact let_ h
  | ent c i s =>
    refine key [.str (lit "entered"), letD c, .int i, scD s] (fun x hx => ?_) (by simp)
    simp only [List.mem_cons, List.not_mem_nil, or_false] at hx
    rcases hx with rfl | rfl | rfl | rfl
    · exact w2
    · exact let_ h.1
    · exact int_ h.2.1
    · exact sc_ h.2.2
  | mov c b i =>
    refine key [.str (lit "moved"), letD c, .int b, .int i] (fun x hx => ?_) (by simp)
    simp only [List.mem_cons, List.not_mem_nil, or_false] at hx
    rcases hx with rfl | rfl | rfl | rfl
    · exact w3
    · exact let_ h.1
    · exact int_ h.2.1
    · exact int_ h.2.2
  | sco c s t =>
    refine key [.str (lit "scored"), letD c, scD s, scD t] (fun x hx => ?_) (by simp)
    simp only [List.mem_cons, List.not_mem_nil, or_false] at hx
    rcases hx with rfl | rfl | rfl | rfl
    · exact w4
    · exact let_ h.1
    · exact sc_ h.2.1
    · exact sc_ h.2.2
theorem flat_len {X : Type} {ev : X → List Ev} {n : Nat} (h : ∀ x, (ev x).length ≤ n) : ∀ xs : List X, (xs.flatMap ev).length ≤ n * xs.length
  | [] => by simp
  | x :: xs => by
    have := flat_len h xs
    have := h x
    rw [List.flatMap_cons, List.length_append, List.length_cons, Nat.mul_add]
    omega
theorem evs_len {old new : List En} (ho : Gd old) (hn : Gd new) : (evs2 old new).length ≤ 60 := by
  have h1 := flat_len (ev := leftF (keys new)) (n := 1) (fun x => by unfold leftF; split <;> simp) (keys old)
  have h2 := flat_len (ev := entF (keys old)) (n := 1) (fun x => by unfold entF; split <;> simp) new.zipIdx
  have h3 := flat_len (ev := movF old) (n := 2) (fun x => by unfold movF; (repeat' split) <;> simp) new.zipIdx
  have o3 := ho.2.2
  have n3 := hn.2.2
  rw [List.length_zipIdx] at h2 h3
  rw [List.length_map] at h1
  unfold evs2
  rw [List.length_append, List.length_append]
  omega
theorem evs_ok {old new : List En} (ho : Gd old) (hn : Gd new) : ∀ ev ∈ evs2 old new, EvOk ev := by
  have o3 := ho.2.2
  have n3 := hn.2.2
  have kl : ∀ {L : List En}, Gd L → ∀ c ∈ keys L, 97 ≤ c ∧ c < 111 := fun {L} hL c hc => by
    obtain ⟨e, he, rfl⟩ := List.mem_map.mp hc
    have := hL.1 e he
    exact ⟨this.1, this.2.1⟩
  have zp : ∀ p ∈ new.zipIdx, (97 ≤ p.1.1 ∧ p.1.1 < 111) ∧ p.2 < 100 ∧ sv p.1.2 := fun p hp => by
    have h := List.mem_zipIdx_iff_getElem?.mp hp
    obtain ⟨hl, h2⟩ := List.getElem?_eq_some_iff.mp h
    have := hn.1 p.1 (by rw [← h2]; exact List.getElem_mem hl)
    exact ⟨⟨this.1, this.2.1⟩, by omega, this.2.2⟩
  intro ev hev
  unfold evs2 at hev
  rcases List.mem_append.mp hev with hev | hev
  · rcases List.mem_append.mp hev with hev | hev
    · obtain ⟨c, hc, h⟩ := List.mem_flatMap.mp hev
      unfold leftF at h
      split at h
      · cases h
      · rw [List.mem_singleton.mp h]
        exact kl ho c hc
    · obtain ⟨p, hp, h⟩ := List.mem_flatMap.mp hev
      unfold entF at h
      split at h
      · cases h
      · rw [List.mem_singleton.mp h]
        exact zp p hp
  · obtain ⟨p, hp, h⟩ := List.mem_flatMap.mp hev
    obtain ⟨z1, z2, z3⟩ := zp p hp
    unfold movF at h
    split at h
    · rename_i hc
      have hb : (keys old).idxOf p.1.1 < old.length := by
        have := List.idxOf_lt_length_of_mem hc
        rwa [List.length_map] at this
      generalize (keys old).idxOf p.1.1 = b at hb h
      have hs : sv (scAt old b) := by
        rw [show scAt old b = old[b].2 by simp [scAt, hb]]
        exact (ho.1 _ (List.getElem_mem hb)).2.2
      rcases List.mem_append.mp h with h | h
      · split at h
        · cases h
        · rw [List.mem_singleton.mp h]
          exact ⟨z1, by omega, z2⟩
      · split at h
        · cases h
        · rw [List.mem_singleton.mp h]
          exact ⟨z1, hs, z3⟩
    · cases h
theorem sh_evs {old new : List En} (ho : Gd old) (hn : Gd new) : Sh 3 5000 (.lst ((evs2 old new).map Ev.d)) := by
  have := Sh.lst (d := 2) (n := 59) (xs := (evs2 old new).map Ev.d) fun x hx => by
    obtain ⟨e, he, rfl⟩ := List.mem_map.mp hx
    exact sh_ev (evs_ok ho hn e he)
  have hl := evs_len ho hn
  exact this.mono (by decide) (by rw [List.length_map]; omega)
/-! ### the law -/
noncomputable def inner : MS := (mSeq (mSet 4 (mCall m__law_drawn_list [(mV 1)] []))
    (mSeq (mPar 5 6 (mCall m__law_events [(mV 2), (mV 4)] []) (mC gTuple [(.v 2)]))
    (mSeq (mSet 7 (mC gRepr [(.v 5)]))
    (mSeq (mIfS (mOr (mTb (m2 (gEq true) (.e (mC gRepr [(.e (mCall m_after_events [(mV 6), (mV 5)] []))])) (.e (mC gRepr [(.e (mC gTuple [(.v 4)]))])))) (mOr (mTb (m2 (gEq true) (.e (mC gRepr [(.v 5)])) (.v 7))) (mTb (m2 (gEq true) (.v 6) (.e (mC gTuple [(.v 2)])))))) (mRet (mD (.bl false))) mPass)
    (mSet 2 (mV 4))))))
theorem inner_spec {a0 a4 a5 a6 a7 a8 a9 a3 : Option FL.Slot} {j : Nat} {d : D} {old : List En} {μ : Mem} {B : Int} (ho : Gd old) (hs : Src μ j B) (hB : B + 200 ≤ 2 ^ 40) :
    ∃ (new : List En) (b4 b5 b6 b7 : Option FL.Slot) (μ' : Mem), turnD (tgV 3) inner d [a0, some (.fr (.obj j)), some (.fr (.lst (old.map eD))), a3, a4, a5, a6, a7, a8, a9] μ = .nx [a0, some (.fr (.obj j)), some (.fr (.lst (new.map eD))), some (.fr d), b4, b5, b6, b7, a8, a9] μ' ∧ Gd new ∧ Src μ' j (B + 100) ∧ Fr j μ μ' := by
  obtain ⟨new, μ1, e1, hn, s1, f1⟩ := drawn_spec hs (by omega)
  have e2 := events_spec (μ := μ1) ho hn
  have hl := evs_len ho hn
  have e3 := after_spec (μ := μ1) ho hn (by omega)
  obtain ⟨t1, r1⟩ := (sh_evs ho hn).rep (by decide) (by decide)
  obtain ⟨t2, r2⟩ := (sh_row hn).rep (by decide) (by decide)
  have r3 := (sh_row ho).same true (by decide) rfl
  generalize (evs2 old new).map Ev.d = es at e2 e3 r1
  have st : ∀ x y : Tx, gEq true (.str x) (.str y) = some (.fr (.bl (!decide (x = y)))) := fun x y => by simp [gEq, eqS]
  have lkS : ∀ (x : Tx) μ, FL.look μ (.str x) = some (.str x) := fun _ _ => rfl
  have lkT : ∀ (x : List D) μ, FL.look μ (.tup x) = some (.tup x) := fun _ _ => rfl
  have lkL : ∀ (x : List D) μ, FL.look μ (.lst x) = some (.lst x) := fun _ _ => rfl
  refine ⟨new, some (.fr (.lst (new.map eD))), some (.fr (.lst es)), some (.fr (.tup (old.map eD))), some (.fr (.str t1)), μ1, ?_, hn, s1.mono (by omega), f1⟩
  show inner [a0, some (.fr (.obj j)), some (.fr (.lst (old.map eD))), some (.fr d), a4, a5, a6, a7, a8, a9] μ = _
  generalize old.map eD = od at e2 e3 r3 ⊢
  generalize new.map eD = nd at e1 e2 e3 r2 ⊢
  have c1 : mSet 4 (mCall m__law_drawn_list [(mV 1)] []) [a0, some (.fr (.obj j)), some (.fr (.lst od)), some (.fr d), a4, a5, a6, a7, a8, a9] μ = .nx [a0, some (.fr (.obj j)), some (.fr (.lst od)), some (.fr d), some (.fr (.lst nd)), a5, a6, a7, a8, a9] μ1 := by
    simp [mSet, mCall, evA, mV, Out.bind, Out.thn, dfr, e1]
  have c2 : mPar 5 6 (mCall m__law_events [(mV 2), (mV 4)] []) (mC gTuple [(.v 2)]) [a0, some (.fr (.obj j)), some (.fr (.lst od)), some (.fr d), some (.fr (.lst nd)), a5, a6, a7, a8, a9] μ1 = .nx [a0, some (.fr (.obj j)), some (.fr (.lst od)), some (.fr d), some (.fr (.lst nd)), some (.fr (.lst es)), some (.fr (.tup od)), a7, a8, a9] μ1 := by
    simp [mPar, mCall, evA, mV, mC, evs, Opn.ev, OR.at, OR.ats, lkL, Out.bind, Out.thn, dfr, e2, gTuple, lift]
  have c3 : mSet 7 (mC gRepr [(.v 5)]) [a0, some (.fr (.obj j)), some (.fr (.lst od)), some (.fr d), some (.fr (.lst nd)), some (.fr (.lst es)), some (.fr (.tup od)), a7, a8, a9] μ1 = .nx [a0, some (.fr (.obj j)), some (.fr (.lst od)), some (.fr d), some (.fr (.lst nd)), some (.fr (.lst es)), some (.fr (.tup od)), some (.fr (.str t1)), a8, a9] μ1 := by
    simp [mSet, mC, evs, Opn.ev, OR.at, OR.ats, lkL, Out.bind, Out.thn, dfr, r1, lift]
  have q1 : mTb (m2 (gEq true) (.e (mC gRepr [(.e (mCall m_after_events [(mV 6), (mV 5)] []))])) (.e (mC gRepr [(.e (mC gTuple [(.v 4)]))]))) [a0, some (.fr (.obj j)), some (.fr (.lst od)), some (.fr d), some (.fr (.lst nd)), some (.fr (.lst es)), some (.fr (.tup od)), some (.fr (.str t1)), a8, a9] μ1 = .ok false [a0, some (.fr (.obj j)), some (.fr (.lst od)), some (.fr d), some (.fr (.lst nd)), some (.fr (.lst es)), some (.fr (.tup od)), some (.fr (.str t1)), a8, a9] μ1 := by
    simp [mTb, m2, mC, mCall, evA, mV, evs, Opn.ev, OR.at, OR.ats, lkL, lkT, lkS, Out.bind, dfr, e3, r2, gTuple, st, lift]
  have q2 : mTb (m2 (gEq true) (.e (mC gRepr [(.v 5)])) (.v 7)) [a0, some (.fr (.obj j)), some (.fr (.lst od)), some (.fr d), some (.fr (.lst nd)), some (.fr (.lst es)), some (.fr (.tup od)), some (.fr (.str t1)), a8, a9] μ1 = .ok false [a0, some (.fr (.obj j)), some (.fr (.lst od)), some (.fr d), some (.fr (.lst nd)), some (.fr (.lst es)), some (.fr (.tup od)), some (.fr (.str t1)), a8, a9] μ1 := by
    simp [mTb, m2, mC, evs, Opn.ev, OR.at, OR.ats, lkL, lkS, Out.bind, dfr, r1, st, lift]
  have q3 : mTb (m2 (gEq true) (.v 6) (.e (mC gTuple [(.v 2)]))) [a0, some (.fr (.obj j)), some (.fr (.lst od)), some (.fr d), some (.fr (.lst nd)), some (.fr (.lst es)), some (.fr (.tup od)), some (.fr (.str t1)), a8, a9] μ1 = .ok false [a0, some (.fr (.obj j)), some (.fr (.lst od)), some (.fr d), some (.fr (.lst nd)), some (.fr (.lst es)), some (.fr (.tup od)), some (.fr (.str t1)), a8, a9] μ1 := by
    simp [mTb, m2, mC, evs, Opn.ev, OR.at, OR.ats, lkL, lkT, Out.bind, dfr, gTuple, r3, tb, lift]
  unfold inner
  rw [seq_nx c1, seq_nx c2, seq_nx c3, seq_nx (if_fp (or_ff q1 (or_ff q2 q3)))]
  simp [mSet, mV, Out.thn, dfr]
theorem srcs_lc {ns : List Int} (hl : ns.length ≤ 63) {a1 a2 a3 a4 a5 a6 a7 a8 : Option FL.Slot} : ∀ (ks : List Int) (js : List Nat) (μ : Mem), (∀ k ∈ ks, 0 ≤ k ∧ k ≤ 10) → js.length + ks.length ≤ 100 → (∀ j ∈ js, Src μ j 50) → js.Nodup → (∀ j ∈ js, j < μ.length) →
    ∃ (js' : List Nat) (μ' : Mem), lcD (tgV 9) mYes (mCall m__law_source [(mV 0), (mV 9)] []) [9] (ks.map .int) (js.map .obj) [some (.fr (.ro (ns.map .int))), a1, a2, a3, a4, a5, a6, a7, a8, none] μ = .ok (.own (.lst (js'.map .obj))) [some (.fr (.ro (ns.map .int))), a1, a2, a3, a4, a5, a6, a7, a8, none] μ' ∧ (∀ j ∈ js', Src μ' j 50) ∧ js'.Nodup
  | [], js, μ, _, _, h, hn, _ => ⟨js, μ, by simp [lcD], h, hn⟩
  | k :: ks, js, μ, hk, hlen, h, hn, hlt => by
    rw [List.length_cons] at hlen
    obtain ⟨k0, k1⟩ := hk k (List.mem_cons_self ..)
    obtain ⟨c, g, g0, e0⟩ := source_spec (μ := μ) hl k0 (by omega)
    have s0 : Src (μ ++ [.lst [.int c, .int (3 * k), .int g]]) μ.length 50 := ⟨c, 3 * k, g, by simp, by omega, by omega, g0⟩
    have keep : ∀ j ∈ js, Src (μ ++ [.lst [.int c, .int (3 * k), .int g]]) j 50 := fun j hj => by
      obtain ⟨c', i', g', h1, h2⟩ := h j hj
      exact ⟨c', i', g', by rw [List.getElem?_append_left (hlt j hj)]; exact h1, h2⟩
    obtain ⟨js', μ', e1, h1, h2⟩ := srcs_lc hl (a1 := a1) (a2 := a2) (a3 := a3) (a4 := a4) (a5 := a5) (a6 := a6) (a7 := a7) (a8 := a8) ks (js ++ [μ.length]) (μ ++ [.lst [.int c, .int (3 * k), .int g]]) (fun x hx => hk x (List.mem_cons_of_mem _ hx)) (by rw [List.length_append, List.length_singleton]; omega)
      (fun j hj => (List.mem_append.mp hj).elim (keep j) fun z => by rw [List.mem_singleton.mp z]; exact s0)
      (List.nodup_append.mpr ⟨hn, by simp, fun a ha b hb => by
        rw [List.mem_singleton.mp hb]
        exact Nat.ne_of_lt (hlt a ha)⟩)
      (fun j hj => by
        rw [List.length_append, List.length_singleton]
        rcases List.mem_append.mp hj with z | z
        · have := hlt j z; omega
        · rw [List.mem_singleton.mp z]; omega)
    refine ⟨js', μ', ?_, h1, h2⟩
    have ha : js.length < 16777216 := by omega
    have step : lcD (tgV 9) mYes (mCall m__law_source [(mV 0), (mV 9)] []) [9] ((k :: ks).map .int) (js.map .obj) [some (.fr (.ro (ns.map .int))), a1, a2, a3, a4, a5, a6, a7, a8, none] μ = lcD (tgV 9) mYes (mCall m__law_source [(mV 0), (mV 9)] []) [9] (ks.map .int) ((js ++ [μ.length]).map .obj) [some (.fr (.ro (ns.map .int))), a1, a2, a3, a4, a5, a6, a7, a8, none] (μ ++ [.lst [.int c, .int (3 * k), .int g]]) := by
      rw [List.map_cons, lcD_cons]
      simp [tgV, mYes, Out.cut, Out.bind, mCall, evA, mV, dfr, es, e0, ha, wipeD]
    rw [step, e1]
noncomputable def outer : MS := (mSeq (mSet 2 (mCall m__law_drawn_list [(mV 1)] [])) (mFor (mRange1 (.e (mD (.int 6)))) (tgV 3) inner))
theorem outer_loop {a0 a8 a9 : Option FL.Slot} : ∀ (js : List Nat) (μ : Mem) (a1 a2 a3 a4 a5 a6 a7 : Option FL.Slot), (∀ j ∈ js, Src μ j 50) → js.Nodup →
    ∃ (b1 b2 b3 b4 b5 b6 b7 : Option FL.Slot) (μ' : Mem), forD (turnD (tgV 1) outer) (js.map .obj) [a0, a1, a2, a3, a4, a5, a6, a7, a8, a9] μ = .nx [a0, b1, b2, b3, b4, b5, b6, b7, a8, a9] μ'
  | [], μ, a1, a2, a3, a4, a5, a6, a7, _, _ => ⟨a1, a2, a3, a4, a5, a6, a7, μ, rfl⟩
  | j :: js, μ, a1, a2, a3, a4, a5, a6, a7, hs, hn => by
    rw [List.nodup_cons] at hn
    obtain ⟨L, μ1, e1, hL, s1, f1⟩ := drawn_spec (hs j (List.mem_cons_self ..)) (by decide)
    have c1 : mSet 2 (mCall m__law_drawn_list [(mV 1)] []) [a0, some (.fr (.obj j)), a2, a3, a4, a5, a6, a7, a8, a9] μ = .nx [a0, some (.fr (.obj j)), some (.fr (.lst (L.map eD))), a3, a4, a5, a6, a7, a8, a9] μ1 := by
      simp [mSet, mCall, evA, mV, Out.bind, Out.thn, dfr, e1]
    obtain ⟨δ2, μ2, e2, M, b3, b4, b5, b6, b7, hδ, hM, s2, f2⟩ := forD_ix (g := turnD (tgV 3) inner) (fun i δ μ' => ∃ (M : List En) (b3 b4 b5 b6 b7 : Option FL.Slot), δ = [a0, some (.fr (.obj j)), some (.fr (.lst (M.map eD))), b3, b4, b5, b6, b7, a8, a9] ∧ Gd M ∧ Src μ' j (90 + i * 100) ∧ Fr j μ1 μ') 6 (rangeD 0 6) 0 (by simp [rangeD]) (fun d hd i δ μ' hi ⟨M, b3, b4, b5, b6, b7, hδ, hM, s, f⟩ => by
      subst hδ
      obtain ⟨N, c4, c5, c6, c7, μ3, e3, hN, s3, f3⟩ := inner_spec (a0 := a0) (a3 := b3) (a4 := b4) (a5 := b5) (a6 := b6) (a7 := b7) (a8 := a8) (a9 := a9) (d := d) hM s (by omega)
      exact ⟨_, μ3, e3, N, some (.fr d), c4, c5, c6, c7, rfl, hN, s3.mono (by omega), f.trans f3⟩) _ _ ⟨L, a3, a4, a5, a6, a7, rfl, hL, s1.mono (by omega), .refl⟩
    have n2 := for_of (mi := mRange1 (.e (mD (.int 6)))) (f := tgV 3) (m := inner) (ds := rangeD 0 6) (δ := [a0, some (.fr (.obj j)), some (.fr (.lst (L.map eD))), a3, a4, a5, a6, a7, a8, a9]) (μ := μ1) (δ1 := [a0, some (.fr (.obj j)), some (.fr (.lst (L.map eD))), a3, a4, a5, a6, a7, a8, a9]) (μ1 := μ1) (range_is (n := 6) (rs := [.d (.int 6)]) (by simp [evs, Opn.ev, mD, Out.bind, dfr]) (by rfl) (by decide)) e2
    have fr := f1.trans f2
    subst hδ
    obtain ⟨d1, d2, d3, d4, d5, d6, d7, μ4, e4⟩ := outer_loop (a0 := a0) (a8 := a8) (a9 := a9) js μ2 (some (.fr (.obj j))) (some (.fr (.lst (M.map eD)))) b3 b4 b5 b6 b7 (fun k hk => by
      obtain ⟨c, i, g, h1, h2⟩ := hs k (List.mem_cons_of_mem _ hk)
      exact ⟨c, i, g, by rw [fr.2 k fun z => hn.1 (by rw [← z]; exact hk)]; exact h1, h2⟩) hn.2
    refine ⟨d1, d2, d3, d4, d5, d6, d7, μ4, ?_⟩
    have step : turnD (tgV 1) outer (.obj j) [a0, a1, a2, a3, a4, a5, a6, a7, a8, a9] μ = .nx [a0, some (.fr (.obj j)), some (.fr (.lst (M.map eD))), b3, b4, b5, b6, b7, a8, a9] μ2 := by
      show outer [a0, some (.fr (.obj j)), a2, a3, a4, a5, a6, a7, a8, a9] μ = _
      unfold outer
      rw [seq_nx c1]
      exact n2
    rw [List.map_cons, forD_cons, step]
    exact e4
def old0 : List En := [(97, (3, 1)), (98, (1, 1))]
def new0 : List En := [(99, (2, 1)), (100, (1, 1)), (98, (1, 2))]
theorem gd_old0 : Gd old0 := ⟨fun e he => by
  simp only [old0, List.mem_cons, List.not_mem_nil, or_false] at he
  rcases he with rfl | rfl <;> exact ⟨by decide, by decide, by decide, by decide, by decide, by decide⟩, by decide, by decide⟩
theorem gd_new0 : Gd new0 := ⟨fun e he => by
  simp only [new0, List.mem_cons, List.not_mem_nil, or_false] at he
  rcases he with rfl | rfl | rfl <;> exact ⟨by decide, by decide, by decide, by decide, by decide, by decide⟩, by decide, by decide⟩
theorem evs0 : evs2 old0 new0 = [.left 97, .ent 99 0 (2, 1), .ent 100 1 (1, 1), .mov 98 1 2, .sco 98 (1, 1) (1, 2)] := by rfl
theorem la : lit "a" = [97] := by decide +kernel
theorem lb : lit "b" = [98] := by decide +kernel
theorem lc' : lit "c" = [99] := by decide +kernel
theorem ld : lit "d" = [100] := by decide +kernel
noncomputable def rest : MS := (mSeq (mSet 5 (mLst [(mTup [(mD (.str (lit "left"))), (mD (.str (lit "a")))]), (mTup [(mD (.str (lit "entered"))), (mD (.str (lit "c"))), (mD (.int 0)), (mTup [(mD (.int 2)), (mD (.int 1))])]), (mTup [(mD (.str (lit "entered"))), (mD (.str (lit "d"))), (mD (.int 1)), (mTup [(mD (.int 1)), (mD (.int 1))])]), (mTup [(mD (.str (lit "moved"))), (mD (.str (lit "b"))), (mD (.int 1)), (mD (.int 2))])]))
    (mSeq (mEx (mMut "list" gAppend (.v 5) [(mTup [(mD (.str (lit "scored"))), (mD (.str (lit "b"))), (mTup [(mD (.int 1)), (mD (.int 1))]), (mTup [(mD (.int 1)), (mD (.int 2))])])]))
    (mSeq (mSet 8 (mCall m_after_events [(mTup [(mTup [(mD (.str (lit "a"))), (mTup [(mD (.int 3)), (mD (.int 1))])]), (mTup [(mD (.str (lit "b"))), (mTup [(mD (.int 1)), (mD (.int 1))])])]), (mV 5)] []))
    (mRet (mAndV (m2 (gEq false) (.v 8) (.e (mTup [(mTup [(mD (.str (lit "c"))), (mTup [(mD (.int 2)), (mD (.int 1))])]), (mTup [(mD (.str (lit "d"))), (mTup [(mD (.int 1)), (mD (.int 1))])]), (mTup [(mD (.str (lit "b"))), (mTup [(mD (.int 1)), (mD (.int 2))])])]))) (m2 (gEq false) (.e (mCall m_after_events [(mTup []), (mLst [])] [])) (.e (mTup []))))))))
theorem rest_spec {a0 a1 a2 a3 a4 a5 a6 a7 a8 a9 : Option FL.Slot} {μ : Mem} : rest [a0, a1, a2, a3, a4, a5, a6, a7, a8, a9] μ = .rt (.fr (.bl true)) μ := by
  have e1 := after_spec (μ := μ) gd_old0 gd_new0 (by rw [evs0]; decide)
  rw [evs0] at e1
  have gn : Gd ([] : List En) := ⟨fun e he => (nomatch he), List.nodup_nil, by decide⟩
  have e2 := after_spec (μ := μ) gn gn (by decide)
  have r1 := (sh_row gd_new0).same false (by decide) rfl
  have r2 := (sh_row gn).same false (by decide) rfl
  have e2' : m_after_events [.tup [], .lst []] μ = .ok (.fr (.tup [])) μ := e2
  have r2' : gEq false (.tup []) (.tup []) = some (.fr (.bl true)) := r2
  have c1 : mSet 5 (mLst [(mTup [(mD (.str (lit "left"))), (mD (.str (lit "a")))]), (mTup [(mD (.str (lit "entered"))), (mD (.str (lit "c"))), (mD (.int 0)), (mTup [(mD (.int 2)), (mD (.int 1))])]), (mTup [(mD (.str (lit "entered"))), (mD (.str (lit "d"))), (mD (.int 1)), (mTup [(mD (.int 1)), (mD (.int 1))])]), (mTup [(mD (.str (lit "moved"))), (mD (.str (lit "b"))), (mD (.int 1)), (mD (.int 2))])]) [a0, a1, a2, a3, a4, a5, a6, a7, a8, a9] μ =
      .nx [a0, a1, a2, a3, a4, some (.own (.lst [(Ev.left 97).d, (Ev.ent 99 0 (2, 1)).d, (Ev.ent 100 1 (1, 1)).d, (Ev.mov 98 1 2).d])), a6, a7, a8, a9] μ := by
    rw [la, lb, lc', ld]
    simp [mSet, mLst, mTup, mD, evA, Out.bind, Out.thn, dfr, Ev.d, scD]
  have c2 : mEx (mMut "list" gAppend (.v 5) [(mTup [(mD (.str (lit "scored"))), (mD (.str (lit "b"))), (mTup [(mD (.int 1)), (mD (.int 1))]), (mTup [(mD (.int 1)), (mD (.int 2))])])]) [a0, a1, a2, a3, a4, some (.own (.lst [(Ev.left 97).d, (Ev.ent 99 0 (2, 1)).d, (Ev.ent 100 1 (1, 1)).d, (Ev.mov 98 1 2).d])), a6, a7, a8, a9] μ =
      .nx [a0, a1, a2, a3, a4, some (.own (.lst [(Ev.left 97).d, (Ev.ent 99 0 (2, 1)).d, (Ev.ent 100 1 (1, 1)).d, (Ev.mov 98 1 2).d, (Ev.sco 98 (1, 1) (1, 2)).d])), a6, a7, a8, a9] μ := by
    rw [lb]
    simp [mEx, mMut, Opn.ev, recv, ownTy, mTup, mD, evA, Out.bind, Out.thn, dfr, gAppend, Ev.d, scD]
  have e1' : m_after_events [.tup [.tup [.str [97], .tup [.int 3, .int 1]], .tup [.str [98], .tup [.int 1, .int 1]]], .lst [(Ev.left 97).d, (Ev.ent 99 0 (2, 1)).d, (Ev.ent 100 1 (1, 1)).d, (Ev.mov 98 1 2).d, (Ev.sco 98 (1, 1) (1, 2)).d]] μ = .ok (.fr (.tup (new0.map eD))) μ := e1
  generalize [(Ev.left 97).d, (Ev.ent 99 0 (2, 1)).d, (Ev.ent 100 1 (1, 1)).d, (Ev.mov 98 1 2).d, (Ev.sco 98 (1, 1) (1, 2)).d] = es at c2 e1'
  have c3 : mSet 8 (mCall m_after_events [(mTup [(mTup [(mD (.str (lit "a"))), (mTup [(mD (.int 3)), (mD (.int 1))])]), (mTup [(mD (.str (lit "b"))), (mTup [(mD (.int 1)), (mD (.int 1))])])]), (mV 5)] []) [a0, a1, a2, a3, a4, some (.own (.lst es)), a6, a7, a8, a9] μ =
      .nx [a0, a1, a2, a3, a4, some (.fr (.lst es)), a6, a7, some (.fr (.tup (new0.map eD))), a9] μ := by
    rw [la, lb]
    simp [mSet, mCall, mTup, mD, mV, evA, Out.bind, Out.thn, dfr, down, e1']
  have en0 : D.tup (new0.map eD) = .tup [.tup [.str [99], .tup [.int 2, .int 1]], .tup [.str [100], .tup [.int 1, .int 1]], .tup [.str [98], .tup [.int 1, .int 2]]] := rfl
  have r1' : gEq false (.tup (new0.map eD)) (.tup [.tup [.str [99], .tup [.int 2, .int 1]], .tup [.str [100], .tup [.int 1, .int 1]], .tup [.str [98], .tup [.int 1, .int 2]]]) = some (.fr (.bl true)) := r1
  generalize new0.map eD = nd at c3 r1'
  have lkT : ∀ (x : List D) μ, FL.look μ (.tup x) = some (.tup x) := fun _ _ => rfl
  unfold rest
  rw [seq_nx c1, seq_nx c2, seq_nx c3, lb, lc', ld]
  refine ret_of (δ1 := [a0, a1, a2, a3, a4, some (.fr (.lst es)), a6, a7, some (.fr (.tup nd)), a9]) ?_
  simp [mAndV, m2, mCall, mTup, mLst, mD, evA, Opn.ev, OR.at, lkT, Out.bind, dfr, down, r1', e2', r2', lift]
theorem law_ok (ns : List Int) (hl : ns.length ≤ 63) : ∃ μ, m_law [.ro (ns.map .int)] [] = .ok (.fr (.bl true)) μ := by
  have hn : (ns.length : Int) < 64 := by omega
  obtain ⟨K, hK, K1, K4⟩ : ∃ K : Nat, mRange1 (.e (mC gMax2 [(.e (mD (.int 1))), (.e (mC gMin2 [(.e (mD (.int 3))), (.e (mC gLen [(.v 0)]))]))])) (startD 10 [D.ro (ns.map .int)]) [] = .ok (rangeD 0 K) (startD 10 [D.ro (ns.map .int)]) [] ∧ 1 ≤ K ∧ K ≤ 3 := by
    have hb : 1 ≤ (if 1 < (if (ns.length : Int) < 3 then (ns.length : Int) else 3) then (if (ns.length : Int) < 3 then (ns.length : Int) else 3) else 1) ∧ (if 1 < (if (ns.length : Int) < 3 then (ns.length : Int) else 3) then (if (ns.length : Int) < 3 then (ns.length : Int) else 3) else 1) ≤ 3 := by
      by_cases h4 : (ns.length : Int) < 3
      · rw [if_pos h4]; split <;> omega
      · rw [if_neg h4]; decide
    obtain ⟨K, hK⟩ : ∃ K : Nat, (K : Int) = (if 1 < (if (ns.length : Int) < 3 then (ns.length : Int) else 3) then (if (ns.length : Int) < 3 then (ns.length : Int) else 3) else 1) := ⟨_, Int.toNat_of_nonneg (by omega)⟩
    rw [← hK] at hb
    refine ⟨K, range_is (rs := [.d (.int K)]) ?_ (by rfl) (by omega), by omega, by omega⟩
    rw [hK]
    simp [evs, Opn.ev, mC, mD, OR.at, OR.ats, FL.look, Out.bind, dfr, startD, gMax2, gMin2, gLen, gLen1, lift]
  have hr : rangeD 0 K = ((List.range K).map fun i : Nat => (i : Int)).map D.int := by
    unfold rangeD
    rw [List.map_map]
    refine List.map_congr_left fun i _ => ?_
    show D.int (0 + (i : Int)) = D.int (i : Int)
    rw [Int.zero_add]
  obtain ⟨js, μ1, e1, h1, h2⟩ := srcs_lc hl (a1 := none) (a2 := none) (a3 := none) (a4 := none) (a5 := none) (a6 := none) (a7 := none) (a8 := none) ((List.range K).map fun i : Nat => (i : Int)) [] [] (fun k hk => by
    obtain ⟨i, hi, rfl⟩ := List.mem_map.mp hk
    rw [List.mem_range] at hi
    exact ⟨by omega, by omega⟩) (by simp; omega) (fun j hj => nomatch hj) List.nodup_nil (fun j hj => nomatch hj)
  have it : mIt (mLc (mRange1 (.e (mC gMax2 [(.e (mD (.int 1))), (.e (mC gMin2 [(.e (mD (.int 3))), (.e (mC gLen [(.v 0)]))]))]))) (tgV 9) mYes (mCall m__law_source [(mV 0), (mV 9)] []) [9]) (startD 10 [D.ro (ns.map .int)]) [] = .ok (js.map .obj) [some (.fr (.ro (ns.map .int))), none, none, none, none, none, none, none, none, none] μ1 := by
    have : mLc (mRange1 (.e (mC gMax2 [(.e (mD (.int 1))), (.e (mC gMin2 [(.e (mD (.int 3))), (.e (mC gLen [(.v 0)]))]))]))) (tgV 9) mYes (mCall m__law_source [(mV 0), (mV 9)] []) [9] (startD 10 [D.ro (ns.map .int)]) [] = .ok (.own (.lst (js.map .obj))) [some (.fr (.ro (ns.map .int))), none, none, none, none, none, none, none, none, none] μ1 := by
      unfold mLc
      rw [hK, Out.bind_ok, hr]
      exact e1
    unfold mIt
    rw [this, Out.bind_ok]
    rfl
  obtain ⟨b1, b2, b3, b4, b5, b6, b7, μ2, e2⟩ := outer_loop (a0 := some (.fr (.ro (ns.map .int)))) (a8 := none) (a9 := none) js μ1 none none none none none none none h1 h2
  have n1 := for_of it e2
  have hb : b_law = mSeq (mFor (mIt (mLc (mRange1 (.e (mC gMax2 [(.e (mD (.int 1))), (.e (mC gMin2 [(.e (mD (.int 3))), (.e (mC gLen [(.v 0)]))]))]))) (tgV 9) mYes (mCall m__law_source [(mV 0), (mV 9)] []) [9])) (tgV 1) outer) rest := rfl
  refine ⟨μ2, fn_rt ?_⟩
  rw [hb, seq_nx n1]
  exact rest_spec
end L93

namespace L93
open PySem PySem.Spec PyProof.Rows L2 FL
theorem all_in {P : Program} {w : World} {K : PySem.W.Frag} {h : Heap} {mg : Str → Option Value} {fa : Addr} (X : K.In h) (G : h.Ns mainGlobals mg) (hfa : mg "law" = some (.ref fa))
    {f__law_source f__law_next f__law_pick f__law_ordered f__law_drawn_list f__law_events f_ranks_of f_after_events f_law : Addr}
    {od__law_source an__law_source od__law_next an__law_next od__law_pick an__law_pick od__law_ordered an__law_ordered od__law_drawn_list an__law_drawn_list od__law_events an__law_events od_ranks_of an_ranks_of od_after_events an_after_events od_law an_law : Option Addr}
    {sl__law_source sl__law_next sl__law_pick sl__law_ordered sl__law_drawn_list sl__law_events sl_ranks_of sl_after_events sl_law : Array (Option Value)}
    {oc__law_source kV__law_source dc__law_source pm__law_source cd__law_source ct__law_source oc__law_next kV__law_next dc__law_next pm__law_next cd__law_next ct__law_next oc__law_pick kV__law_pick dc__law_pick pm__law_pick cd__law_pick ct__law_pick oc__law_ordered kV__law_ordered dc__law_ordered pm__law_ordered cd__law_ordered ct__law_ordered oc__law_drawn_list kV__law_drawn_list dc__law_drawn_list pm__law_drawn_list cd__law_drawn_list ct__law_drawn_list oc__law_events kV__law_events dc__law_events pm__law_events cd__law_events ct__law_events oc_ranks_of kV_ranks_of dc_ranks_of pm_ranks_of cd_ranks_of ct_ranks_of oc_after_events kV_after_events dc_after_events pm_after_events cd_after_events ct_after_events oc_law kV_law dc_law pm_law cd_law ct_law : Value}
    (zn_enumerate : PySem.W.nsIn K mainGlobals "enumerate" = some none)
    (zn_len : PySem.W.nsIn K mainGlobals "len" = some none)
    (zn_list : PySem.W.nsIn K mainGlobals "list" = some none)
    (zn_max : PySem.W.nsIn K mainGlobals "max" = some none)
    (zn_min : PySem.W.nsIn K mainGlobals "min" = some none)
    (zn_range : PySem.W.nsIn K mainGlobals "range" = some none)
    (zn_repr : PySem.W.nsIn K mainGlobals "repr" = some none)
    (zn_sorted : PySem.W.nsIn K mainGlobals "sorted" = some none)
    (zn_tuple : PySem.W.nsIn K mainGlobals "tuple" = some none)
    (af__law_source : PySem.W.nsIn K mainGlobals "_law_source" = some (some (.ref f__law_source)))
    (lf__law_source : K.lookup f__law_source = some { cls := oc__law_source, dict := od__law_source, data := .func (PySem.W.fnOf "_law_source" "_law_source" (defArgs (tp 4)) (defBody (tp 4)) (defScope (tp 4)) .none kV__law_source dc__law_source pm__law_source an__law_source cd__law_source ct__law_source), slots := sl__law_source })
    (cf__law_source : PySem.W.codeIn K cd__law_source "_law_source" = true)
    (kf__law_source : PySem.W.keepIn K (.ref f__law_source) = true)
    (af__law_next : PySem.W.nsIn K mainGlobals "_law_next" = some (some (.ref f__law_next)))
    (lf__law_next : K.lookup f__law_next = some { cls := oc__law_next, dict := od__law_next, data := .func (PySem.W.fnOf "_law_next" "_law_next" (defArgs (tp 5)) (defBody (tp 5)) (defScope (tp 5)) .none kV__law_next dc__law_next pm__law_next an__law_next cd__law_next ct__law_next), slots := sl__law_next })
    (cf__law_next : PySem.W.codeIn K cd__law_next "_law_next" = true)
    (kf__law_next : PySem.W.keepIn K (.ref f__law_next) = true)
    (af__law_pick : PySem.W.nsIn K mainGlobals "_law_pick" = some (some (.ref f__law_pick)))
    (lf__law_pick : K.lookup f__law_pick = some { cls := oc__law_pick, dict := od__law_pick, data := .func (PySem.W.fnOf "_law_pick" "_law_pick" (defArgs (tp 6)) (defBody (tp 6)) (defScope (tp 6)) .none kV__law_pick dc__law_pick pm__law_pick an__law_pick cd__law_pick ct__law_pick), slots := sl__law_pick })
    (cf__law_pick : PySem.W.codeIn K cd__law_pick "_law_pick" = true)
    (kf__law_pick : PySem.W.keepIn K (.ref f__law_pick) = true)
    (af__law_ordered : PySem.W.nsIn K mainGlobals "_law_ordered" = some (some (.ref f__law_ordered)))
    (lf__law_ordered : K.lookup f__law_ordered = some { cls := oc__law_ordered, dict := od__law_ordered, data := .func (PySem.W.fnOf "_law_ordered" "_law_ordered" (defArgs (tp 7)) (defBody (tp 7)) (defScope (tp 7)) .none kV__law_ordered dc__law_ordered pm__law_ordered an__law_ordered cd__law_ordered ct__law_ordered), slots := sl__law_ordered })
    (cf__law_ordered : PySem.W.codeIn K cd__law_ordered "_law_ordered" = true)
    (kf__law_ordered : PySem.W.keepIn K (.ref f__law_ordered) = true)
    (af__law_drawn_list : PySem.W.nsIn K mainGlobals "_law_drawn_list" = some (some (.ref f__law_drawn_list)))
    (lf__law_drawn_list : K.lookup f__law_drawn_list = some { cls := oc__law_drawn_list, dict := od__law_drawn_list, data := .func (PySem.W.fnOf "_law_drawn_list" "_law_drawn_list" (defArgs (tp 9)) (defBody (tp 9)) (defScope (tp 9)) .none kV__law_drawn_list dc__law_drawn_list pm__law_drawn_list an__law_drawn_list cd__law_drawn_list ct__law_drawn_list), slots := sl__law_drawn_list })
    (cf__law_drawn_list : PySem.W.codeIn K cd__law_drawn_list "_law_drawn_list" = true)
    (kf__law_drawn_list : PySem.W.keepIn K (.ref f__law_drawn_list) = true)
    (af__law_events : PySem.W.nsIn K mainGlobals "_law_events" = some (some (.ref f__law_events)))
    (lf__law_events : K.lookup f__law_events = some { cls := oc__law_events, dict := od__law_events, data := .func (PySem.W.fnOf "_law_events" "_law_events" (defArgs (tp 8)) (defBody (tp 8)) (defScope (tp 8)) .none kV__law_events dc__law_events pm__law_events an__law_events cd__law_events ct__law_events), slots := sl__law_events })
    (cf__law_events : PySem.W.codeIn K cd__law_events "_law_events" = true)
    (kf__law_events : PySem.W.keepIn K (.ref f__law_events) = true)
    (af_ranks_of : PySem.W.nsIn K mainGlobals "ranks_of" = some (some (.ref f_ranks_of)))
    (lf_ranks_of : K.lookup f_ranks_of = some { cls := oc_ranks_of, dict := od_ranks_of, data := .func (PySem.W.fnOf "ranks_of" "ranks_of" (defArgs (tp 1)) (defBody (tp 1)) (defScope (tp 1)) .none kV_ranks_of dc_ranks_of pm_ranks_of an_ranks_of cd_ranks_of ct_ranks_of), slots := sl_ranks_of })
    (cf_ranks_of : PySem.W.codeIn K cd_ranks_of "ranks_of" = true)
    (kf_ranks_of : PySem.W.keepIn K (.ref f_ranks_of) = true)
    (af_after_events : PySem.W.nsIn K mainGlobals "after_events" = some (some (.ref f_after_events)))
    (lf_after_events : K.lookup f_after_events = some { cls := oc_after_events, dict := od_after_events, data := .func (PySem.W.fnOf "after_events" "after_events" (defArgs (tp 2)) (defBody (tp 2)) (defScope (tp 2)) .none kV_after_events dc_after_events pm_after_events an_after_events cd_after_events ct_after_events), slots := sl_after_events })
    (cf_after_events : PySem.W.codeIn K cd_after_events "after_events" = true)
    (kf_after_events : PySem.W.keepIn K (.ref f_after_events) = true)
    (af_law : PySem.W.nsIn K mainGlobals "law" = some (some (.ref f_law)))
    (lf_law : K.lookup f_law = some { cls := oc_law, dict := od_law, data := .func (PySem.W.fnOf "law" "law" (defArgs (tp 10)) (defBody (tp 10)) (defScope (tp 10)) .none kV_law dc_law pm_law an_law cd_law ct_law), slots := sl_law })
    (cf_law : PySem.W.codeIn K cd_law "law" = true)
    (kf_law : PySem.W.keepIn K (.ref f_law) = true) :
    ∃ fd : FuncData, (∀ (s : Shared) (u : Value), BindsTo s fd ⟨[u], []⟩ [("_law_script", u)]) ∧ ∀ base : Heap, K.In base → base.Ns mainGlobals mg → FnG P w K mg base (L2.CX P w) 200 fa fd ["_law_script"] (spM K mg m_law 1) := by
  have e := hfa.symm.trans (PySem.W.mg_of X G af_law)
  cases e
  refine ⟨PySem.W.fnOf "law" "law" (defArgs (tp 10)) (defBody (tp 10)) (defScope (tp 10)) .none kV_law dc_law pm_law an_law cd_law ct_law, fun s u => .of_eq (by kernel_rfl), fun base _ _ => ?_⟩
  have T : Txt P w K mg base := ⟨PySem.W.mg_none_of X G zn_enumerate,
    PySem.W.mg_none_of X G zn_len,
    PySem.W.mg_none_of X G zn_list,
    PySem.W.mg_none_of X G zn_max,
    PySem.W.mg_none_of X G zn_min,
    PySem.W.mg_none_of X G zn_range,
    PySem.W.mg_none_of X G zn_repr,
    PySem.W.mg_none_of X G zn_sorted,
    PySem.W.mg_none_of X G zn_tuple,
    ⟨f__law_source, _, ⟨_, _, _, _, _, _, _, _, _, rfl, lf__law_source, cf__law_source⟩, PySem.W.mg_of X G af__law_source, kf__law_source⟩,
    ⟨f__law_next, _, ⟨_, _, _, _, _, _, _, _, _, rfl, lf__law_next, cf__law_next⟩, PySem.W.mg_of X G af__law_next, kf__law_next⟩,
    ⟨f__law_pick, _, ⟨_, _, _, _, _, _, _, _, _, rfl, lf__law_pick, cf__law_pick⟩, PySem.W.mg_of X G af__law_pick, kf__law_pick⟩,
    ⟨f__law_ordered, _, ⟨_, _, _, _, _, _, _, _, _, rfl, lf__law_ordered, cf__law_ordered⟩, PySem.W.mg_of X G af__law_ordered, kf__law_ordered⟩,
    ⟨f__law_drawn_list, _, ⟨_, _, _, _, _, _, _, _, _, rfl, lf__law_drawn_list, cf__law_drawn_list⟩, PySem.W.mg_of X G af__law_drawn_list, kf__law_drawn_list⟩,
    ⟨f__law_events, _, ⟨_, _, _, _, _, _, _, _, _, rfl, lf__law_events, cf__law_events⟩, PySem.W.mg_of X G af__law_events, kf__law_events⟩,
    ⟨f_ranks_of, _, ⟨_, _, _, _, _, _, _, _, _, rfl, lf_ranks_of, cf_ranks_of⟩, PySem.W.mg_of X G af_ranks_of, kf_ranks_of⟩,
    ⟨f_after_events, _, ⟨_, _, _, _, _, _, _, _, _, rfl, lf_after_events, cf_after_events⟩, PySem.W.mg_of X G af_after_events, kf_after_events⟩⟩
  exact (g_law ⟨_, _, _, _, _, _, _, _, _, rfl, lf_law, cf_law⟩ T).mono (by decide)

end L93


open PySem PySem.W PyProof.Rows in
set_option maxRecDepth 100000 in
set_option maxHeartbeats 0 in
theorem PySem.Challenge.cw_findlang_k93_lists_made_again_holds : PySem.Challenge.rw_findlang_k93_lists_made_again.Holds := by
  w_on; o_law; k_head; (case hw => w_witness2)
  k_fill
  refine FL.walkG (l := PySem.Challenge.rw_findlang_k93_lists_made_again) (k := 200) (m := L93.m_law) (x := "_law_script") rfl rfl FL.room_caller (fun w h Y => PySem.W.kIn_of Y) ?F L93.law_ok
  case F =>
    intro w mg fa h KX G hmg
    refine' L93.all_in KX G hmg ?zn_enumerate ?zn_len ?zn_list ?zn_max ?zn_min ?zn_range ?zn_repr ?zn_sorted ?zn_tuple ?af__law_source ?lf__law_source ?cf__law_source ?kf__law_source ?af__law_next ?lf__law_next ?cf__law_next ?kf__law_next ?af__law_pick ?lf__law_pick ?cf__law_pick ?kf__law_pick ?af__law_ordered ?lf__law_ordered ?cf__law_ordered ?kf__law_ordered ?af__law_drawn_list ?lf__law_drawn_list ?cf__law_drawn_list ?kf__law_drawn_list ?af__law_events ?lf__law_events ?cf__law_events ?kf__law_events ?af_ranks_of ?lf_ranks_of ?cf_ranks_of ?kf_ranks_of ?af_after_events ?lf_after_events ?cf_after_events ?kf_after_events ?af_law ?lf_law ?cf_law ?kf_law
    (case zn_enumerate => k_is)
    (case zn_len => k_is)
    (case zn_list => k_is)
    (case zn_max => k_is)
    (case zn_min => k_is)
    (case zn_range => k_is)
    (case zn_repr => k_is)
    (case zn_sorted => k_is)
    (case zn_tuple => k_is)
    (case af__law_source => k_is)
    (case lf__law_source => k_is)
    (case cf__law_source => k_is)
    (case kf__law_source => k_is)
    (case af__law_next => k_is)
    (case lf__law_next => k_is)
    (case cf__law_next => k_is)
    (case kf__law_next => k_is)
    (case af__law_pick => k_is)
    (case lf__law_pick => k_is)
    (case cf__law_pick => k_is)
    (case kf__law_pick => k_is)
    (case af__law_ordered => k_is)
    (case lf__law_ordered => k_is)
    (case cf__law_ordered => k_is)
    (case kf__law_ordered => k_is)
    (case af__law_drawn_list => k_is)
    (case lf__law_drawn_list => k_is)
    (case cf__law_drawn_list => k_is)
    (case kf__law_drawn_list => k_is)
    (case af__law_events => k_is)
    (case lf__law_events => k_is)
    (case cf__law_events => k_is)
    (case kf__law_events => k_is)
    (case af_ranks_of => k_is)
    (case lf_ranks_of => k_is)
    (case cf_ranks_of => k_is)
    (case kf_ranks_of => k_is)
    (case af_after_events => k_is)
    (case lf_after_events => k_is)
    (case cf_after_events => k_is)
    (case kf_after_events => k_is)
    (case af_law => k_is)
    (case lf_law => k_is)
    (case cf_law => k_is)
    (case kf_law => k_is)
