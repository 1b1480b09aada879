import PyProof.Rows.All
import Wide.All
import OpenK.AllK
import Wide.FinOn
import HandS.ForMost
import HandS.ForExc
import HandS.CallSlots
import HandS.ExcInit
import HandS.Wide
import HandS.IsInst
import HandS.Flow
import HandS.TupAny
import HandS.More
import PySem.Challenge.RW_findlang_k08_whole_rows_of_fractions
set_option Elab.async false
set_option linter.all false
set_option maxRecDepth 100000
set_option maxHeartbeats 4000000
/-! Part A: data as trees, what stands for them in the abstract heap, the state of the mirror machine. -/
namespace FL
open PySem L2

/-- a text by its code points -/
abbrev Tx := List Nat
def toS (x : Tx) : Str := ⟨x.toArray⟩
theorem toS_cps (x : Tx) : (toS x).cps.toList = x := rfl
theorem toS_len (x : Tx) : (toS x).length = x.length := by simp [toS, Str.length]
theorem toS_of (z : Str) : toS z.cps.toList = z := by cases z; simp [toS]
theorem toS_app (x y : Tx) : toS x ++ toS y = toS (x ++ y) := by
  show Str.append (toS x) (toS y) = _
  simp [toS, Str.append]
theorem toS_inj {x y : Tx} (h : toS x = toS y) : x = y := by
  have := congrArg (fun z => z.cps.toList) h
  simpa [toS] using this
/-- written text -/
def lit (s : String) : Tx := s.toList.map Char.toNat
theorem ofS_lit (s : String) : Str.ofString s = toS (lit s) := Str.ofString_eq_toList s
theorem cps_lit (s : String) : (Str.ofString s).cps.toList = lit s := by rw [ofS_lit]; rfl

/-- keys of dicts -/
inductive DK where
  | i (n : Int) | s (x : Tx)
  deriving DecidableEq
def DK.key : DK → Key
  | .i n => .inl n
  | .s x => .inr (toS x)
/-- data -/
inductive D where
  | non | bl (b : Bool) | int (i : Int) | str (x : Tx)
  | lst (xs : List D) | tup (xs : List D)
  | ro (xs : List D)
  | dct (ks : List DK) (vs : List D)
  | obj (k : Nat)
  | glo (x : String)
  | ty (n : String)
  | exn (c attr : String) (v : D)

/-- what is owned: it may be changed -/
inductive Own where
  | lst (xs : List D)
  | dct (ks : List DK) (vs : List D)
def Own.d : Own → D
  | .lst xs => .lst xs
  | .dct ks vs => .dct ks vs
inductive Slot where
  | fr (d : D) | own (o : Own)
def Slot.d : Slot → D
  | .fr d => d
  | .own o => o.d

section
variable (K : PySem.W.Frag) (mg : Str → Option Value) (F : Hp) (ρ : List Addr)
mutual
inductive Rep : V → D → Prop where
  | non : Rep .non .non
  | bl {b} : Rep (.bl b) (.bl b)
  | int {i} : Rep (.int i) (.int i)
  | str {x} : Rep (.str (toS x)) (.str x)
  | lst {p vs ds} (h : F p = some (.lst vs)) (r : RepL vs ds) : Rep (.ref p) (.lst ds)
  | ro {p vs ds} (h : SqL K F p vs) (r : RepL vs ds) : Rep (.ref p) (.ro ds)
  | tup {p vs ds} (h : SqT K F p vs) (r : RepL vs ds) : Rep (.ref p) (.tup ds)
  | dct {p ks vs ds} (h : Rd F p (.dK ((ks.map DK.key).zip vs))) (l : ks.length = vs.length) (r : RepL vs ds) : Rep (.ref p) (.dct ks ds)
  | obj {k p} (h : ρ[k]? = some p) : Rep (.ref p) (.obj k)
  | glo {x v u} (h : mg (Str.ofString x) = some u) (r : RelV v u) : Rep v (.glo x)
  | ty {n} : Rep (.ty n) (.ty n)
  | exn {c attr C dx v d p} (h : mg (Str.ofString c) = some (.ref C)) (e : Rd F dx (.xd [(Str.ofString attr, v)])) (r : Rep v d) : Rep (.ref p) (.exn c attr d)
inductive RepL : List V → List D → Prop where
  | nil : RepL [] []
  | cons {v d vs ds} (h : Rep v d) (t : RepL vs ds) : RepL (v :: vs) (d :: ds)
end
end

/-- F' has what F has; what is new in it is free in Z -/
structure Le (Z F F' : Hp) : Prop where
  to : ∀ p o, F p = some o → F' p = some o
  new : ∀ p o, F' p = some o → F p = some o ∨ Z p = none
structure LeR (Z : Hp) (ρ ρ' : List Addr) : Prop where
  to : ∀ (k : Nat) p, ρ[k]? = some p → ρ'[k]? = some p
  new : ∀ p ∈ ρ', p ∈ ρ ∨ Z p = none
theorem Le.refl {Z F : Hp} : Le Z F F := ⟨fun _ _ h => h, fun _ _ h => .inl h⟩
theorem Le.trans {Z F F1 F2 : Hp} (a : Le Z F F1) (b : Le Z F1 F2) : Le Z F F2 :=
  ⟨fun p o h => b.to p o (a.to p o h), fun p o h => (b.new p o h).elim (fun h => a.new p o h) .inr⟩
theorem LeR.refl {Z : Hp} {ρ : List Addr} : LeR Z ρ ρ := ⟨fun _ _ h => h, fun _ h => .inl h⟩
theorem LeR.trans {Z : Hp} {ρ ρ1 ρ2 : List Addr} (a : LeR Z ρ ρ1) (b : LeR Z ρ1 ρ2) : LeR Z ρ ρ2 :=
  ⟨fun k p h => b.to k p (a.to k p h), fun p h => (b.new p h).elim (fun h => a.new p h) .inr⟩

section
variable {K : PySem.W.Frag} {mg : Str → Option Value} {Z F F' : Hp} {ρ ρ' : List Addr}
theorem Rd.up (l : ∀ p o, F p = some o → F' p = some o) {p : Addr} {u : HO} (h : Rd F p u) : Rd F' p u := by
  rcases h with h | ⟨o, h⟩
  · exact .inl (l _ _ h)
  · exact .inr ⟨o, l _ _ h⟩
theorem SqL.up (l : ∀ p o, F p = some o → F' p = some o) {p : Addr} {xs : List V} (h : SqL K F p xs) : SqL K F' p xs :=
  h.elim (fun h => .inl (Rd.up l h)) .inr
theorem SqT.up (l : ∀ p o, F p = some o → F' p = some o) {p : Addr} {xs : List V} (h : SqT K F p xs) : SqT K F' p xs :=
  h.elim (fun h => .inl (Rd.up l h)) .inr
mutual
theorem Rep.up (l : ∀ p o, F p = some o → F' p = some o) (lr : ∀ (k : Nat) p, ρ[k]? = some p → ρ'[k]? = some p) :
    ∀ {v : V} {d : D}, Rep K mg F ρ v d → Rep K mg F' ρ' v d
  | _, _, .non => .non
  | _, _, .bl => .bl
  | _, _, .int => .int
  | _, _, .str => .str
  | _, _, .lst h r => .lst (l _ _ h) (RepL.up l lr r)
  | _, _, .ro h r => .ro (SqL.up l h) (RepL.up l lr r)
  | _, _, .tup h r => .tup (SqT.up l h) (RepL.up l lr r)
  | _, _, .dct h e r => .dct (Rd.up l h) e (RepL.up l lr r)
  | _, _, .obj h => .obj (lr _ _ h)
  | _, _, .glo h r => .glo h r
  | _, _, .ty => .ty
  | _, _, .exn h e r => .exn h (Rd.up l e) (Rep.up l lr r)
theorem RepL.up (l : ∀ p o, F p = some o → F' p = some o) (lr : ∀ (k : Nat) p, ρ[k]? = some p → ρ'[k]? = some p) :
    ∀ {vs : List V} {ds : List D}, RepL K mg F ρ vs ds → RepL K mg F' ρ' vs ds
  | _, _, .nil => .nil
  | _, _, .cons h t => .cons (Rep.up l lr h) (RepL.up l lr t)
end
theorem RepL.len : ∀ {vs : List V} {ds : List D}, RepL K mg F ρ vs ds → vs.length = ds.length
  | _, _, .nil => rfl
  | _, _, .cons _ t => by rw [List.length_cons, List.length_cons, RepL.len t]
theorem RepL.app : ∀ {vs ws : List V} {ds es : List D}, RepL K mg F ρ vs ds → RepL K mg F ρ ws es → RepL K mg F ρ (vs ++ ws) (ds ++ es)
  | _, _, _, _, .nil, h => h
  | _, _, _, _, .cons h t, r => .cons h (RepL.app t r)
theorem RepL.get : ∀ {vs : List V} {ds : List D} {i : Nat} {d : D}, RepL K mg F ρ vs ds → ds[i]? = some d → ∃ v, vs[i]? = some v ∧ Rep K mg F ρ v d
  | _, _, _, _, .nil, e => by simp at e
  | _, _, 0, _, .cons h _, e => by simp at e; subst e; exact ⟨_, rfl, h⟩
  | _, _, i + 1, _, .cons _ t, e => by
    obtain ⟨v, h1, h2⟩ := RepL.get (i := i) t (by simpa using e)
    exact ⟨v, by simpa using h1, h2⟩
theorem RepL.getV : ∀ {vs : List V} {ds : List D} {i : Nat} {v : V}, RepL K mg F ρ vs ds → vs[i]? = some v → ∃ d, ds[i]? = some d ∧ Rep K mg F ρ v d
  | _, _, _, _, .nil, e => by simp at e
  | _, _, 0, _, .cons h _, e => by simp at e; subst e; exact ⟨_, rfl, h⟩
  | _, _, i + 1, _, .cons _ t, e => by
    obtain ⟨v, h1, h2⟩ := RepL.getV (i := i) t (by simpa using e)
    exact ⟨v, by simpa using h1, h2⟩
theorem RepL.take : ∀ {vs : List V} {ds : List D} (n : Nat), RepL K mg F ρ vs ds → RepL K mg F ρ (vs.take n) (ds.take n)
  | _, _, 0, _ => .nil
  | _, _, _ + 1, .nil => .nil
  | _, _, n + 1, .cons h t => .cons h (RepL.take n t)
theorem RepL.drop : ∀ {vs : List V} {ds : List D} (n : Nat), RepL K mg F ρ vs ds → RepL K mg F ρ (vs.drop n) (ds.drop n)
  | _, _, 0, r => r
  | _, _, _ + 1, .nil => .nil
  | _, _, n + 1, .cons h t => RepL.drop n t
theorem RepL.set {v : V} {d : D} (r : Rep K mg F ρ v d) : ∀ {vs : List V} {ds : List D} (i : Nat), RepL K mg F ρ vs ds → RepL K mg F ρ (vs.set i v) (ds.set i d)
  | _, _, _, .nil => .nil
  | _, _, 0, .cons _ t => .cons r t
  | _, _, i + 1, .cons h t => .cons h (RepL.set r i t)
theorem RepL.erase : ∀ {vs : List V} {ds : List D} (i : Nat), RepL K mg F ρ vs ds → RepL K mg F ρ (vs.eraseIdx i) (ds.eraseIdx i)
  | _, _, _, .nil => .nil
  | _, _, 0, .cons _ t => t
  | _, _, i + 1, .cons h t => .cons h (RepL.erase i t)
theorem RepL.rev {vs : List V} {ds : List D} (h : RepL K mg F ρ vs ds) : RepL K mg F ρ vs.reverse ds.reverse := by
  induction vs generalizing ds with
  | nil => cases h; exact .nil
  | cons v vs ih =>
    cases h with
    | cons h t =>
      rw [List.reverse_cons, List.reverse_cons]
      exact (ih t).app (.cons h .nil)
theorem RepL.ints : ∀ {vs : List V} {ns : List Int}, RepL K mg F ρ vs (ns.map D.int) → vs = ns.map V.int := by
  intro vs ns
  induction ns generalizing vs with
  | nil => intro h; cases h; rfl
  | cons n ns ih =>
    intro h
    rw [List.map_cons] at h
    cases h with
    | cons h t =>
      cases h
      rw [List.map_cons, ih t]
theorem RepL.ofInts : ∀ (ns : List Int), RepL K mg F ρ (ns.map V.int) (ns.map D.int)
  | [] => .nil
  | _ :: ns => .cons .int (RepL.ofInts ns)
theorem RepL.strs : ∀ {vs : List V} {xs : List Tx}, RepL K mg F ρ vs (xs.map D.str) → vs = (xs.map toS).map V.str := by
  intro vs xs
  induction xs generalizing vs with
  | nil => intro h; cases h; rfl
  | cons n ns ih =>
    intro h
    rw [List.map_cons] at h
    cases h with
    | cons h t =>
      cases h
      rw [List.map_cons, List.map_cons, ih t]
theorem RepL.ofStrs : ∀ (xs : List Tx), RepL K mg F ρ ((xs.map toS).map V.str) (xs.map D.str)
  | [] => .nil
  | _ :: ns => .cons .str (RepL.ofStrs ns)
theorem RepL.bls : ∀ {vs : List V} {xs : List Bool}, RepL K mg F ρ vs (xs.map D.bl) → vs = xs.map V.bl := by
  intro vs xs
  induction xs generalizing vs with
  | nil => intro h; cases h; rfl
  | cons n ns ih =>
    intro h
    rw [List.map_cons] at h
    cases h with
    | cons h t =>
      cases h
      rw [List.map_cons, ih t]
end

abbrev Loc := List (Option Slot)
abbrev Mem := List Own
section
variable (K : PySem.W.Frag) (mg : Str → Option Value)
/-- an owned thing stands at p -/
def OwnR (F : Hp) (ρ : List Addr) (H : Hp) (p : Addr) : Own → Prop
  | .lst ds => ∃ vs, H p = some (.lst vs) ∧ RepL K mg F ρ vs ds
  | .dct ks ds => ∃ vs, H p = some (.dK ((ks.map DK.key).zip vs)) ∧ ks.length = vs.length ∧ RepL K mg F ρ vs ds
structure Free (Z F : Hp) (ρ : List Addr) (p : Addr) : Prop where
  f : F p = none
  z : Z p = none
  r : p ∉ ρ
/-- what a slot's value is -/
def SlotR (Z F : Hp) (ρ : List Addr) (H : Hp) (v : V) : Slot → Prop
  | .fr d => Rep K mg F ρ v d
  | .own o => ∃ p, v = .ref p ∧ Free Z F ρ p ∧ OwnR K mg F ρ H p o
structure Sim (Z F : Hp) (ρ : List Addr) (μ : Mem) (δ : Loc) (σ : St) (H : Hp) : Prop where
  le : ∀ p o, F p = some o → H p = some o ∨ ∃ ob kvs, o = .dK kvs ∧ H p = some (.frz ob (.dK kvs))
  zk : ∀ p o, Z p = some o → H p = some o
  len : σ.length = δ.length
  slot : ∀ (i : Nat) s, δ[i]? = some (some s) → ∃ v, σ[i]? = some (some v) ∧ SlotR K mg Z F ρ H v s
  apart : ∀ (i j : Nat) p s s', δ[i]? = some (some (.own s)) → δ[j]? = some (some (.own s')) → σ[i]? = some (some (.ref p)) → σ[j]? = some (some (.ref p)) → i = j
  mem : ∀ (k : Nat) c, μ[k]? = some c → ∃ a, ρ[k]? = some a ∧ F a = none ∧ Z a = none ∧ OwnR K mg F ρ H a c
  mlen : ρ.length = μ.length
  nod : ρ.Nodup
/-- a value that came: as a slot's, and what is owned stands in no slot -/
structure VR (Z F : Hp) (ρ : List Addr) (δ : Loc) (σ : St) (H : Hp) (v : V) (s : Slot) : Prop where
  r : SlotR K mg Z F ρ H v s
  no : ∀ o p, s = .own o → v = .ref p → ∀ (i : Nat) o', δ[i]? = some (some (.own o')) → σ[i]? ≠ some (some (.ref p))
end

section
variable {K : PySem.W.Frag} {mg : Str → Option Value} {Z F F' : Hp} {ρ ρ' : List Addr} {μ : Mem} {δ : Loc} {σ : St} {H H' : Hp} {p : Addr} {o : HO} {v : V} {s : Slot}
theorem OwnR.up {c : Own} (l : ∀ p o, F p = some o → F' p = some o) (lr : ∀ (k : Nat) p, ρ[k]? = some p → ρ'[k]? = some p) (hp : H' p = H p) (h : OwnR K mg F ρ H p c) : OwnR K mg F' ρ' H' p c := by
  cases c with
  | lst ds =>
    obtain ⟨vs, e, r⟩ := h
    exact ⟨vs, by rw [hp]; exact e, r.up l lr⟩
  | dct ks ds =>
    obtain ⟨vs, e, n, r⟩ := h
    exact ⟨vs, by rw [hp]; exact e, n, r.up l lr⟩
theorem OwnR.some {c : Own} (h : OwnR K mg F ρ H p c) : ∃ o, H p = Option.some o := by
  cases c with
  | lst ds => obtain ⟨vs, e, r⟩ := h; exact ⟨_, e⟩
  | dct ks ds => obtain ⟨vs, e, n, r⟩ := h; exact ⟨_, e⟩
theorem Sim.rd (S : Sim K mg Z F ρ μ δ σ H) {u : HO} (h : Rd F p u) : Rd H p u := by
  rcases h with h | ⟨ob, h⟩
  · rcases S.le p u h with q | ⟨ob, kvs, e, q⟩
    · exact .inl q
    · subst e; exact .inr ⟨ob, q⟩
  · rcases S.le p _ h with q | ⟨ob, kvs, e, q⟩
    · exact .inr ⟨_, q⟩
    · have e' : HO.frz _ u = HO.dK kvs := e
      cases e'
theorem Sim.notIn (S : Sim K mg Z F ρ μ δ σ H) (h : H p = none) : F p = none ∧ Z p = none ∧ p ∉ ρ ∧ ∀ (i : Nat) s, δ[i]? = some (some (.own s)) → σ[i]? ≠ some (some (.ref p)) := by
  refine ⟨?_, ?_, ?_, ?_⟩
  · cases e : F p with
    | none => rfl
    | some o =>
      rcases S.le p o e with q | ⟨_, _, _, q⟩ <;> rw [h] at q <;> cases q
  · cases e : Z p with
    | none => rfl
    | some o => have := S.zk p o e; rw [h] at this; cases this
  · intro hm
    obtain ⟨k, hk⟩ := List.getElem?_of_mem hm
    have hlt : k < μ.length := by
      rw [← S.mlen]; exact (List.getElem?_eq_some_iff.mp hk).1
    obtain ⟨a, e, _, _, r⟩ := S.mem k μ[k] (List.getElem?_eq_getElem hlt)
    rw [hk] at e; cases e
    obtain ⟨o, q⟩ := r.some
    rw [h] at q; cases q
  · intro i s hi hs
    obtain ⟨v, e, p', ev, fr, r⟩ := S.slot i _ hi
    rw [hs] at e; cases e
    cases ev
    obtain ⟨o, q⟩ := r.some
    rw [h] at q; cases q
theorem Sim.free (S : Sim K mg Z F ρ μ δ σ H) (h : H p = none) : Free Z F ρ p := let ⟨a, b, c, _⟩ := S.notIn h; ⟨a, b, c⟩

/-- H' has what was there and is not p's; p is no owned thing of the state -/
theorem Sim.heap (S : Sim K mg Z F ρ μ δ σ H) (hk : ∀ a, a ≠ p → H' a = H a) (hF : F p = none) (hZ : Z p = none) (hρ : p ∉ ρ)
    (hs : ∀ (i : Nat) s, δ[i]? = some (some (.own s)) → σ[i]? ≠ some (some (.ref p))) : Sim K mg Z F ρ μ δ σ H' := by
  refine ⟨fun a u h => ?_, fun a u h => ?_, S.len, fun i s h => ?_, S.apart, fun k c h => ?_, S.mlen, S.nod⟩
  · have ne : a ≠ p := fun e => by
      subst e
      rw [hF] at h; cases h
    have := S.le a u h
    rw [hk a ne]; exact this
  · have ne : a ≠ p := fun e => by subst e; rw [hZ] at h; cases h
    rw [hk a ne]; exact S.zk a u h
  · obtain ⟨v, e, r⟩ := S.slot i s h
    refine ⟨v, e, ?_⟩
    cases s with
    | fr d => exact r
    | own c =>
      obtain ⟨q, ev, fr, r⟩ := r
      subst ev
      have ne : q ≠ p := fun z => by subst z; exact hs i c h e
      exact ⟨q, rfl, fr, r.up (fun _ _ h => h) (fun _ _ h => h) (hk q ne)⟩
  · obtain ⟨a, e, f1, f2, r⟩ := S.mem k c h
    have ne : a ≠ p := fun z => by subst z; exact hρ (List.mem_of_getElem? e)
    exact ⟨a, e, f1, f2, r.up (fun _ _ h => h) (fun _ _ h => h) (hk a ne)⟩
theorem Sim.laid (S : Sim K mg Z F ρ μ δ σ H) (h : H p = none) : Sim K mg Z F ρ μ δ σ (upd H p o) := by
  obtain ⟨a, b, c, d⟩ := S.notIn h
  exact S.heap (fun q ne => upd_ne ne) a b c d
/-- a thing that no slot owns is locked for good -/
theorem Sim.freeze (S : Sim K mg Z F ρ μ δ σ H) (h : H p = some o) (fr : Free Z F ρ p) (hs : ∀ (i : Nat) s, δ[i]? = some (some (.own s)) → σ[i]? ≠ some (some (.ref p))) :
    Le Z F (upd F p o) ∧ Sim K mg Z (upd F p o) ρ μ δ σ H := by
  have to : ∀ q u, F q = some u → upd F p o q = some u := fun q u e => by
    rw [upd_ne (fun z => by subst z; rw [fr.f] at e; cases e)]; exact e
  refine ⟨⟨to, fun q u e => ?_⟩, ⟨fun q u e => ?_, S.zk, S.len, fun i s e => ?_, S.apart, fun k c e => ?_, S.mlen, S.nod⟩⟩
  · by_cases z : q = p
    · subst z; exact .inr fr.z
    · rw [upd_ne z] at e; exact .inl e
  · by_cases z : q = p
    · subst z
      rw [upd_same] at e; cases e; exact .inl h
    · refine S.le q u ?_
      rw [upd_ne z] at e; exact e
  · obtain ⟨v, e1, r⟩ := S.slot i s e
    refine ⟨v, e1, ?_⟩
    cases s with
    | fr d => exact Rep.up to (fun _ _ h => h) r
    | own c =>
      obtain ⟨q, ev, f1, r⟩ := r
      subst ev
      have ne : q ≠ p := fun z => by subst z; exact hs i c e e1
      exact ⟨q, rfl, ⟨by rw [upd_ne ne]; exact f1.f, f1.z, f1.r⟩, r.up to (fun _ _ h => h) rfl⟩
  · obtain ⟨a, e1, f1, f2, r⟩ := S.mem k c e
    have ne : a ≠ p := fun z => by subst z; exact fr.r (List.mem_of_getElem? e1)
    exact ⟨a, e1, by rw [upd_ne ne]; exact f1, f2, r.up to (fun _ _ h => h) rfl⟩
/-- what an owned thing is, locked -/
theorem OwnR.rep {c : Own} (h : OwnR K mg F ρ H p c) : ∃ o, H p = Option.some o ∧ ∀ F' ρ', (∀ p o, F p = Option.some o → F' p = Option.some o) → (∀ (k : Nat) p, ρ[k]? = Option.some p → ρ'[k]? = Option.some p) → F' p = Option.some o → Rep K mg F' ρ' (.ref p) c.d := by
  cases c with
  | lst ds =>
    obtain ⟨vs, e, r⟩ := h
    exact ⟨_, e, fun F' ρ' l lr q => .lst q (r.up l lr)⟩
  | dct ks ds =>
    obtain ⟨vs, e, n, r⟩ := h
    exact ⟨_, e, fun F' ρ' l lr q => .dct (.inl q) n (r.up l lr)⟩
/-- a value that came is locked -/
theorem Sim.lock (S : Sim K mg Z F ρ μ δ σ H) (h : VR K mg Z F ρ δ σ H v s) : ∃ F', Le Z F F' ∧ Sim K mg Z F' ρ μ δ σ H ∧ Rep K mg F' ρ v s.d := by
  cases s with
  | fr d => exact ⟨F, .refl, S, h.r⟩
  | own c =>
    obtain ⟨p, ev, fr, r⟩ := h.r
    subst ev
    obtain ⟨o, e, rep⟩ := r.rep
    obtain ⟨l, S'⟩ := S.freeze e fr (h.no c p rfl rfl)
    exact ⟨_, l, S', rep _ _ l.to (fun _ _ h => h) upd_same⟩
/-- the slot i is set -/
theorem Sim.store {i : Nat} (S : Sim K mg Z F ρ μ δ σ H) (h : VR K mg Z F ρ δ σ H v s) (hi : i < δ.length) : Sim K mg Z F ρ μ (δ.set i (some s)) (σ.set i (some v)) H := by
  refine ⟨S.le, S.zk, by simp [S.len], fun j t e => ?_, fun j k p t t' e1 e2 e3 e4 => ?_, S.mem, S.mlen, S.nod⟩
  · by_cases z : j = i
    · subst z
      rw [List.getElem?_set_self hi] at e
      cases e
      exact ⟨v, List.getElem?_set_self (by rw [S.len]; exact hi), h.r⟩
    · rw [List.getElem?_set_ne (Ne.symm z)] at e
      obtain ⟨w, e1, r⟩ := S.slot j t e
      exact ⟨w, by rw [List.getElem?_set_ne (Ne.symm z)]; exact e1, r⟩
  · by_cases z1 : j = i
    · by_cases z2 : k = i
      · rw [z1, z2]
      · subst z1
        rw [List.getElem?_set_self hi] at e1
        cases e1
        rw [List.getElem?_set_self (by rw [S.len]; exact hi)] at e3
        cases e3
        rw [List.getElem?_set_ne (Ne.symm z2)] at e2 e4
        exact absurd e4 (h.no _ _ rfl rfl k _ e2)
    · by_cases z2 : k = i
      · subst z2
        rw [List.getElem?_set_self hi] at e2
        cases e2
        rw [List.getElem?_set_self (by rw [S.len]; exact hi)] at e4
        cases e4
        rw [List.getElem?_set_ne (Ne.symm z1)] at e1 e3
        exact absurd e3 (h.no _ _ rfl rfl j _ e1)
      · rw [List.getElem?_set_ne (Ne.symm z1)] at e1 e3
        rw [List.getElem?_set_ne (Ne.symm z2)] at e2 e4
        exact S.apart j k p t t' e1 e2 e3 e4
/-- the slot i is known no longer, or holds nothing -/
theorem Sim.forget {i : Nat} {x : Option V} (S : Sim K mg Z F ρ μ δ σ H) : Sim K mg Z F ρ μ (δ.set i none) (σ.set i x) H := by
  refine ⟨S.le, S.zk, by simp [S.len], fun j t e => ?_, fun j k p t t' e1 e2 e3 e4 => ?_, S.mem, S.mlen, S.nod⟩
  · by_cases z : j = i
    · subst z
      by_cases hj : j < δ.length
      · rw [List.getElem?_set_self hj] at e; cases e
      · rw [List.getElem?_eq_none (by simpa using hj)] at e; cases e
    · rw [List.getElem?_set_ne (Ne.symm z)] at e
      obtain ⟨w, e1, r⟩ := S.slot j t e
      exact ⟨w, by rw [List.getElem?_set_ne (Ne.symm z)]; exact e1, r⟩
  · have n : ∀ {j : Nat} {t}, (δ.set i none)[j]? = some (some t) → j ≠ i := fun {j t} e z => by
      subst z
      by_cases hj : j < δ.length
      · rw [List.getElem?_set_self hj] at e; cases e
      · rw [List.getElem?_eq_none (by simpa using hj)] at e; cases e
    have z1 := n e1
    have z2 := n e2
    rw [List.getElem?_set_ne (Ne.symm z1)] at e1 e3
    rw [List.getElem?_set_ne (Ne.symm z2)] at e2 e4
    exact S.apart j k p t t' e1 e2 e3 e4
/-- the slot i is locked where it stands -/
theorem Sim.lockAt {i : Nat} (S : Sim K mg Z F ρ μ δ σ H) (e : δ[i]? = some (some s)) :
    ∃ F' v, Le Z F F' ∧ σ[i]? = some (some v) ∧ Sim K mg Z F' ρ μ (δ.set i (some (.fr s.d))) σ H ∧ Rep K mg F' ρ v s.d := by
  obtain ⟨v, ev, r⟩ := S.slot i s e
  have hi : i < δ.length := (List.getElem?_eq_some_iff.mp e).1
  have same : σ.set i (some v) = σ := by
    apply List.ext_getElem?
    intro j
    by_cases z : j = i
    · subst z; rw [List.getElem?_set_self (by rw [S.len]; exact hi), ev]
    · rw [List.getElem?_set_ne (Ne.symm z)]
  cases s with
  | fr d =>
    have S1 := S.store (i := i) (v := v) (s := .fr d) ⟨r, fun o p z => by cases z⟩ hi
    rw [same] at S1
    exact ⟨F, v, .refl, ev, S1, r⟩
  | own c =>
    obtain ⟨p, evp, fr, r⟩ := r
    subst evp
    obtain ⟨o, eo, rep⟩ := r.rep
    have S0 := S.forget (i := i) (x := some (.ref p))
    rw [same] at S0
    obtain ⟨l, S1⟩ := S0.freeze eo fr (fun j t ej => by
      have nj : j ≠ i := fun z => by
        subst z; rw [List.getElem?_set_self hi] at ej; cases ej
      rw [List.getElem?_set_ne (Ne.symm nj)] at ej
      intro q
      exact nj (S.apart j i p t c ej e q ev))
    have rp := rep _ ρ l.to (fun _ _ h => h) upd_same
    have S2 := S1.store (i := i) (v := .ref p) (s := .fr c.d) ⟨rp, fun o p z => by cases z⟩ (by simpa using hi)
    rw [same, List.set_set] at S2
    exact ⟨_, _, l, ev, S2, rp⟩
/-- what slot i owns is changed -/
theorem Sim.write {i : Nat} {c c' : Own} (S : Sim K mg Z F ρ μ δ σ H) (e : δ[i]? = some (some (.own c))) (ev : σ[i]? = some (some (.ref p))) (r : OwnR K mg F ρ (upd H p o) p c') :
    Sim K mg Z F ρ μ (δ.set i (some (.own c'))) σ (upd H p o) := by
  obtain ⟨v, ev', q, evq, fr, r0⟩ := S.slot i _ e
  rw [ev] at ev'; cases ev'; cases evq
  have hi : i < δ.length := (List.getElem?_eq_some_iff.mp e).1
  have same : σ.set i (some (.ref p)) = σ := by
    apply List.ext_getElem?
    intro j
    by_cases z : j = i
    · subst z; rw [List.getElem?_set_self (by rw [S.len]; exact hi), ev]
    · rw [List.getElem?_set_ne (Ne.symm z)]
  have S0 := S.forget (i := i) (x := some (.ref p))
  rw [same] at S0
  have no : ∀ (j : Nat) t, (δ.set i none)[j]? = some (some (.own t)) → σ[j]? ≠ some (some (.ref p)) := fun j t ej q => by
    have nj : j ≠ i := fun z => by
      subst z; rw [List.getElem?_set_self hi] at ej; cases ej
    rw [List.getElem?_set_ne (Ne.symm nj)] at ej
    exact nj (S.apart j i p t c ej e q ev)
  have S1 : Sim K mg Z F ρ μ (δ.set i none) σ (upd H p o) := S0.heap (fun a ne => upd_ne ne) fr.f fr.z fr.r no
  have S2 := S1.store (i := i) (v := .ref p) (s := .own c') ⟨⟨p, rfl, fr, r⟩, fun o' p' z1 z2 => by cases z2; exact fun j t ej => no j t ej⟩ (by simpa using hi)
  rw [same, List.set_set] at S2
  exact S2
/-- a shared object is changed -/
theorem Sim.writeM {k : Nat} {c c' : Own} (S : Sim K mg Z F ρ μ δ σ H) (e : μ[k]? = some c) (ev : ρ[k]? = some p) (r : OwnR K mg F ρ (upd H p o) p c') :
    Sim K mg Z F ρ (μ.set k c') δ σ (upd H p o) := by
  obtain ⟨a, ea, f1, f2, r0⟩ := S.mem k c e
  rw [ev] at ea; cases ea
  have hm : p ∈ ρ := List.mem_of_getElem? ev
  have hk : k < μ.length := (List.getElem?_eq_some_iff.mp e).1
  refine ⟨fun a u h => ?_, fun a u h => ?_, S.len, fun i s h => ?_, S.apart, fun j x h => ?_, by simp [S.mlen], S.nod⟩
  · have ne : a ≠ p := fun z => by
      subst z
      rw [f1] at h; cases h
    have := S.le a u h
    rw [upd_ne ne]; exact this
  · have ne : a ≠ p := fun z => by subst z; rw [f2] at h; cases h
    rw [upd_ne ne]; exact S.zk a u h
  · obtain ⟨v, e1, r⟩ := S.slot i s h
    refine ⟨v, e1, ?_⟩
    cases s with
    | fr d => exact r
    | own c =>
      obtain ⟨q, eq, fr, r⟩ := r
      subst eq
      have ne : q ≠ p := fun z => by subst z; exact fr.r hm
      exact ⟨q, rfl, fr, r.up (fun _ _ h => h) (fun _ _ h => h) (upd_ne ne)⟩
  · by_cases z : j = k
    · subst z
      rw [List.getElem?_set_self hk] at h
      cases h
      exact ⟨p, ev, f1, f2, r⟩
    · rw [List.getElem?_set_ne (Ne.symm z)] at h
      obtain ⟨a, ea, g1, g2, r1⟩ := S.mem j x h
      have ne : a ≠ p := fun q => by
        subst q
        have h1 := (List.getElem?_eq_some_iff.mp ea).1
        exact z ((List.getElem?_inj h1 S.nod).mp (ea.trans ev.symm))
      exact ⟨a, ea, g1, g2, r1.up (fun _ _ h => h) (fun _ _ h => h) (upd_ne ne)⟩
/-- a value that came becomes a shared object -/
theorem Sim.share {c : Own} (S : Sim K mg Z F ρ μ δ σ H) (h : VR K mg Z F ρ δ σ H v (.own c)) : ∃ p, v = .ref p ∧ LeR Z ρ (ρ ++ [p]) ∧ Sim K mg Z F (ρ ++ [p]) (μ ++ [c]) δ σ H ∧ Rep K mg F (ρ ++ [p]) v (.obj μ.length) := by
  obtain ⟨p, ev, fr, r⟩ := h.r
  subst ev
  have to : ∀ (k : Nat) a, ρ[k]? = some a → (ρ ++ [p])[k]? = some a := fun k a e => by
    rw [List.getElem?_append_left (List.getElem?_eq_some_iff.mp e).1]; exact e
  refine ⟨p, rfl, ⟨to, fun a ha => ?_⟩, ⟨S.le, S.zk, S.len, fun i s e => ?_, S.apart, fun k x e => ?_, by simp [S.mlen], ?_⟩, ?_⟩
  · rcases List.mem_append.mp ha with ha | ha
    · exact .inl ha
    · have : a = p := by simpa using ha
      subst this; exact .inr fr.z
  · obtain ⟨w, e1, r1⟩ := S.slot i s e
    refine ⟨w, e1, ?_⟩
    cases s with
    | fr d => exact Rep.up (fun _ _ h => h) to r1
    | own c1 =>
      obtain ⟨q, eq, fr1, r1⟩ := r1
      subst eq
      refine ⟨q, rfl, ⟨fr1.f, fr1.z, fun hm => ?_⟩, r1.up (fun _ _ h => h) to rfl⟩
      rcases List.mem_append.mp hm with hm | hm
      · exact fr1.r hm
      · have : q = p := by simpa using hm
        subst this
        exact h.no c q rfl rfl i c1 e e1
  · by_cases hk : k < μ.length
    · rw [List.getElem?_append_left hk] at e
      obtain ⟨a, ea, g1, g2, r1⟩ := S.mem k x e
      exact ⟨a, to k a ea, g1, g2, r1.up (fun _ _ h => h) to rfl⟩
    · rw [List.getElem?_append_right (by omega)] at e
      have hk2 : k = μ.length := by
        have := (List.getElem?_eq_some_iff.mp e).1
        simp at this
        omega
      subst hk2
      simp at e
      subst e
      refine ⟨p, ?_, fr.f, fr.z, r.up (fun _ _ h => h) to rfl⟩
      rw [← S.mlen]; simp
  · rw [List.nodup_append]
    refine ⟨S.nod, by simp, fun a ha b hb e => ?_⟩
    have : b = p := by simpa using hb
    subst this
    subst e
    exact fr.r ha
  · refine .obj ?_
    rw [← S.mlen]; simp
end
end FL

/-! Part B: what a piece of code does to the mirror state, and the judgements; expressions. -/
namespace FL
open PySem L2

/-- an exception of an own class with one attribute -/
structure Exc where
  cls : String
  attr : String
  arg : D
inductive Out (α : Type) where
  | ok (a : α) (δ : Loc) (μ : Mem)
  | exc (x : Exc) (δ : Loc) (μ : Mem)
  | bad
def Out.bind {α β : Type} (r : Out α) (f : α → Loc → Mem → Out β) : Out β :=
  match r with
  | .ok a δ μ => f a δ μ
  | .exc x δ μ => .exc x δ μ
  | .bad => .bad
theorem Out.bind_ok {α β : Type} {a : α} {δ : Loc} {μ : Mem} {f : α → Loc → Mem → Out β} : (Out.ok a δ μ).bind f = f a δ μ := rfl
theorem Out.bind_exc {α β : Type} {x : Exc} {δ : Loc} {μ : Mem} {f : α → Loc → Mem → Out β} : (Out.exc x δ μ : Out α).bind f = .exc x δ μ := rfl
theorem Out.bind_bad {α β : Type} {f : α → Loc → Mem → Out β} : (Out.bad : Out α).bind f = .bad := rfl
abbrev MM (α : Type) := Loc → Mem → Out α
abbrev ME := MM Slot
abbrev MT := MM Bool
def lift (o : Option Slot) : ME := fun δ μ => match o with
  | some s => .ok s δ μ
  | none => .bad

/-- the exception's class and dict -/
def ExcR (K : PySem.W.Frag) (mg : Str → Option Value) (F : Hp) (ρ : List Addr) (c : Value) (d : Option Addr) (x : Exc) : Prop :=
  ∃ C dx v, c = .ref C ∧ d = some dx ∧ mg (Str.ofString x.cls) = some (.ref C) ∧ Rd F dx (.xd [(Str.ofString x.attr, v)]) ∧ Rep K mg F ρ v x.arg

section
variable (X : Cx) (W : WX)
abbrev SimX (Z F : Hp) (ρ : List Addr) (μ : Mem) (δ : Loc) (σ : St) (H : Hp) : Prop := Sim X.K X.mg Z F ρ μ δ σ H
/-- what follows an outcome, the slots' values as they are -/
def FinE {α : Type} (Z F : Hp) (ρ : List Addr) (σ : St) (P : α → Loc → Mem → Hp → List Addr → Hp → Prop) : Out α → Prop
  | .ok a δ μ => ∀ H' F' ρ', Le Z F F' → LeR Z ρ ρ' → Sim X.K X.mg Z F' ρ' μ δ σ H' → P a δ μ F' ρ' H'
  | .exc x δ μ => ∀ c d H' F' ρ', Le Z F F' → LeR Z ρ ρ' → Sim X.K X.mg Z F' ρ' μ δ σ H' → ExcR X.K X.mg F' ρ' c d x → W c d σ H'
  | .bad => False
end
section
variable {X : Cx} {W : WX} {Z F F1 : Hp} {ρ ρ1 : List Addr} {σ : St} {α β : Type}
theorem FinE.mono {P : α → Loc → Mem → Hp → List Addr → Hp → Prop} {r : Out α} (h : FinE X W Z F ρ σ P r) (l : Le Z F F1) (lr : LeR Z ρ ρ1) : FinE X W Z F1 ρ1 σ P r := by
  cases r with
  | ok a δ μ => exact fun H' F' ρ' l' lr' S => h H' F' ρ' (l.trans l') (lr.trans lr') S
  | exc x δ μ => exact fun c d H' F' ρ' l' lr' S e => h c d H' F' ρ' (l.trans l') (lr.trans lr') S e
  | bad => exact h
theorem FinE.bind {P : β → Loc → Mem → Hp → List Addr → Hp → Prop} {r : Out α} {f : α → Loc → Mem → Out β} (h : FinE X W Z F ρ σ P (r.bind f)) :
    FinE X W Z F ρ σ (fun a δ μ F' ρ' H' => Sim X.K X.mg Z F' ρ' μ δ σ H' ∧ Le Z F F' ∧ LeR Z ρ ρ' ∧ FinE X W Z F' ρ' σ P (f a δ μ)) r := by
  cases r with
  | ok a δ μ => exact fun H' F' ρ' l lr S => ⟨S, l, lr, h.mono l lr⟩
  | exc x δ μ => exact h
  | bad => exact h
theorem FinE.imp {P P' : α → Loc → Mem → Hp → List Addr → Hp → Prop} {r : Out α} (h : FinE X W Z F ρ σ P r)
    (hp : ∀ a δ μ H' F' ρ', Le Z F F' → LeR Z ρ ρ' → Sim X.K X.mg Z F' ρ' μ δ σ H' → P a δ μ F' ρ' H' → P' a δ μ F' ρ' H') : FinE X W Z F ρ σ P' r := by
  cases r with
  | ok a δ μ => exact fun H' F' ρ' l lr S => hp a δ μ H' F' ρ' l lr S (h H' F' ρ' l lr S)
  | exc x δ μ => exact h
  | bad => exact h
end

theorem _root_.L2.PE.imp {X : Cx} {e : Expr} {t t' : TE} (h : PE X e t) (hi : ∀ σ H Q, t' σ H Q → t σ H Q) : PE X e t' := ⟨fun pins s σ H Q I q => h.run pins s σ H Q I (hi σ H Q q)⟩
theorem _root_.L2.PT.imp {X : Cx} {e : Expr} {t t' : TT} (h : PT X e t) (hi : ∀ σ H Q, t' σ H Q → t σ H Q) : PT X e t' := ⟨fun pins s σ H Q I q => h.run pins s σ H Q I (hi σ H Q q)⟩
theorem _root_.L2.PW.imp {X : Cx} {e : Expr} {t t' : TT} (h : PW X e t) (hi : ∀ σ H Q, t' σ H Q → t σ H Q) : PW X e t' := ⟨fun wh pins s σ H Q I q => h.run wh pins s σ H Q I (hi σ H Q q)⟩
theorem _root_.L2.PA.imp {X : Cx} {e : List Expr} {t t' : TA} (h : PA X e t) (hi : ∀ σ H Q, t' σ H Q → t σ H Q) : PA X e t' := ⟨fun pos pins s σ H Q I q => h.run pos pins s σ H Q I (hi σ H Q q)⟩

/-! ### the readings -/
section
variable (X : Cx) (W : WX)
/-- an expression that gives a value, perhaps an owned one -/
def rdE (m : ME) : TE := fun σ H Q => ∃ Z F ρ μ δ, Sim X.K X.mg Z F ρ μ δ σ H ∧
  FinE X W Z F ρ σ (fun s δ' _ F' ρ' H' => ∀ v, VR X.K X.mg Z F' ρ' δ' σ H' v s → Q v H') (m δ μ)
def rdT (m : MT) : TT := fun σ H Q => ∃ Z F ρ μ δ, Sim X.K X.mg Z F ρ μ δ σ H ∧ FinE X W Z F ρ σ (fun b _ _ _ _ H' => Q b H') (m δ μ)
end
abbrev JE (X : Cx) (W : WX) (e : Expr) (m : ME) : Prop := PE X e (rdE X W m)
abbrev JT (X : Cx) (W : WX) (e : Expr) (m : MT) : Prop := PT X e (rdT X W m)

/-- an operand: an expression, or a variable that is looked at where it stands -/
inductive Opn where
  | e (m : ME) | v (i : Nat)
inductive OR where
  | d (d : D) | i (i : Nat)
def Opn.ev : Opn → MM OR
  | .e m => fun δ μ => (m δ μ).bind fun s δ1 μ1 => .ok (.d s.d) δ1 μ1
  | .v i => fun δ μ => match δ[i]? with
    | some (some _) => .ok (.i i) δ μ
    | _ => .bad
/-- a shared object is looked into -/
def look (μ : Mem) : D → Option D
  | .obj k => (μ[k]?).map Own.d
  | d => some d
def OR.at (δ : Loc) (μ : Mem) : OR → Option D
  | .d x => look μ x
  | .i j => match δ[j]? with
    | some (some s) => look μ s.d
    | _ => none
section
variable (K : PySem.W.Frag) (mg : Str → Option Value)
def OrR (F : Hp) (ρ : List Addr) (σ : St) (v : V) : OR → Prop
  | .d x => Rep K mg F ρ v x
  | .i j => σ[j]? = some (some v)
/-- v stands for d now -/
inductive Bor (F : Hp) (ρ : List Addr) (H : Hp) : V → D → Prop where
  | fr {v d} (h : Rep K mg F ρ v d) : Bor F ρ H v d
  | own {p o} (h : OwnR K mg F ρ H p o) : Bor F ρ H (.ref p) o.d
inductive BorL (F : Hp) (ρ : List Addr) (H : Hp) : List V → List D → Prop where
  | nil : BorL F ρ H [] []
  | cons {v d vs ds} (h : Bor K mg F ρ H v d) (t : BorL F ρ H vs ds) : BorL F ρ H (v :: vs) (d :: ds)
inductive OrRs (F : Hp) (ρ : List Addr) (σ : St) : List V → List OR → Prop where
  | nil : OrRs F ρ σ [] []
  | cons {v d vs ds} (h : OrR K mg F ρ σ v d) (t : OrRs F ρ σ vs ds) : OrRs F ρ σ (v :: vs) (d :: ds)
end
def OR.ats (δ : Loc) (μ : Mem) : List OR → Option (List D)
  | [] => some []
  | r :: rs => match r.at δ μ, OR.ats δ μ rs with
    | some x, some xs => some (x :: xs)
    | _, _ => none
section
variable {K : PySem.W.Frag} {mg : Str → Option Value} {Z F F' : Hp} {ρ ρ' : List Addr} {μ : Mem} {δ : Loc} {σ : St} {H H' : Hp} {v : V} {d : D}
theorem OrR.up {r : OR} (h : OrR K mg F ρ σ v r) (l : Le Z F F') (lr : LeR Z ρ ρ') : OrR K mg F' ρ' σ v r := by
  cases r with
  | d x => exact Rep.up l.to lr.to h
  | i j => exact h
theorem OrRs.up {vs : List V} {rs : List OR} (h : OrRs K mg F ρ σ vs rs) (l : Le Z F F') (lr : LeR Z ρ ρ') : OrRs K mg F' ρ' σ vs rs := by
  induction h with
  | nil => exact .nil
  | cons h t ih => exact .cons (h.up l lr) ih
theorem look_flat {d d' : D} (e : look μ d = some d') : (∃ k c, d = .obj k ∧ μ[k]? = some c ∧ d' = c.d) ∨ d' = d := by
  cases d <;> first
    | (right; have e' := e; unfold look at e'; exact (Option.some.inj e').symm)
    | (rename_i k
       left
       unfold look at e
       obtain ⟨c, e1, e2⟩ := Option.map_eq_some_iff.mp e
       exact ⟨k, c, rfl, e1, e2.symm⟩)
theorem Rep.seen (S : Sim K mg Z F ρ μ δ σ H) {d' : D} (h : Rep K mg F ρ v d) (e : look μ d = some d') : Bor K mg F ρ H v d' := by
  rcases look_flat e with ⟨k, c, rfl, hc, rfl⟩ | rfl
  · cases h with
    | obj hp =>
      obtain ⟨a, ea, _, _, r⟩ := S.mem k c hc
      rw [hp] at ea; cases ea
      exact .own r
  · exact .fr h
theorem OrR.bor {r : OR} (S : Sim K mg Z F ρ μ δ σ H) (h : OrR K mg F ρ σ v r) (e : r.at δ μ = some d) : Bor K mg F ρ H v d := by
  cases r with
  | d d' => exact Rep.seen S h e
  | i i =>
    have h' : σ[i]? = some (some v) := h
    have e : (match δ[i]? with | some (some s) => look μ s.d | _ => none) = some d := e
    cases q : δ[i]? with
    | none => rw [q] at e; cases e
    | some o =>
      cases o with
      | none => rw [q] at e; cases e
      | some s =>
        rw [q] at e
        have e' : look μ s.d = some d := e
        obtain ⟨w, ew, r⟩ := S.slot i s q
        rw [h'] at ew
        cases ew
        cases s with
        | fr d => exact Rep.seen S r e'
        | own o =>
          obtain ⟨p, ep, _, r⟩ := r
          subst ep
          have e2 : look μ o.d = some o.d := by cases o <;> rfl
          have e3 : some d = some o.d := e'.symm.trans e2
          cases e3
          exact .own r
theorem OrRs.bor (S : Sim K mg Z F ρ μ δ σ H) : ∀ {vs : List V} {rs : List OR} {ds : List D}, OrRs K mg F ρ σ vs rs → OR.ats δ μ rs = some ds → BorL K mg F ρ H vs ds := by
  intro vs rs ds h
  induction h generalizing ds with
  | nil =>
    intro e
    have e' : some ([] : List D) = some ds := e
    cases e'
    exact .nil
  | @cons v r vs rs h t ih =>
    intro e
    unfold OR.ats at e
    cases q1 : r.at δ μ with
    | none => rw [q1] at e; cases e
    | some d =>
      cases q2 : OR.ats δ μ rs with
      | none => rw [q1, q2] at e; cases e
      | some dr =>
        rw [q1, q2] at e
        have e' : some (d :: dr) = some ds := e
        cases e'
        exact .cons (h.bor S q1) (ih q2)
/-- what a list is -/
theorem Bor.lst (S : Sim K mg Z F ρ μ δ σ H) {ds : List D} (h : Bor K mg F ρ H v (.lst ds)) : ∃ p vs, v = .ref p ∧ H p = some (.lst vs) ∧ RepL K mg F ρ vs ds := by
  generalize e : D.lst ds = d at h
  cases h with
  | fr h =>
    subst e
    cases h with
    | lst h r =>
      refine ⟨_, _, rfl, ?_, r⟩
      rcases S.le _ _ h with q | ⟨ob, kvs, e, q⟩
      · exact q
      · cases e
  | @own p o h =>
    cases o with
    | lst xs =>
      cases e
      obtain ⟨vs, e, r⟩ := h
      exact ⟨p, vs, rfl, e, r⟩
    | dct ks xs => cases e
theorem Bor.tup (S : Sim K mg Z F ρ μ δ σ H) {ds : List D} (h : Bor K mg F ρ H v (.tup ds)) : ∃ p vs, v = .ref p ∧ SqT K H p vs ∧ RepL K mg F ρ vs ds := by
  generalize e : D.tup ds = d at h
  cases h with
  | fr h =>
    subst e
    cases h with
    | tup h r => exact ⟨_, _, rfl, h.elim (fun h => .inl (S.rd h)) .inr, r⟩
  | @own p o h => cases o <;> cases e
theorem Bor.ro (S : Sim K mg Z F ρ μ δ σ H) {ds : List D} (h : Bor K mg F ρ H v (.ro ds)) : ∃ p vs, v = .ref p ∧ SqL K H p vs ∧ RepL K mg F ρ vs ds := by
  generalize e : D.ro ds = d at h
  cases h with
  | fr h =>
    subst e
    cases h with
    | ro h r => exact ⟨_, _, rfl, h.elim (fun h => .inl (S.rd h)) .inr, r⟩
  | @own p o h => cases o <;> cases e
theorem Bor.dct (S : Sim K mg Z F ρ μ δ σ H) {ks : List DK} {ds : List D} (h : Bor K mg F ρ H v (.dct ks ds)) : ∃ p vs, v = .ref p ∧ Rd H p (.dK ((ks.map DK.key).zip vs)) ∧ ks.length = vs.length ∧ RepL K mg F ρ vs ds := by
  generalize e : D.dct ks ds = d at h
  cases h with
  | fr h =>
    subst e
    cases h with
    | dct h l r => exact ⟨_, _, rfl, S.rd h, l, r⟩
  | @own p o h =>
    cases o with
    | lst xs => cases e
    | dct ks xs =>
      cases e
      obtain ⟨vs, e, n, r⟩ := h
      exact ⟨p, vs, rfl, .inl e, n, r⟩
theorem Bor.rep (h : Bor K mg F ρ H v d) (n : ∀ o, d ≠ Own.d o) : Rep K mg F ρ v d := by
  cases h with
  | fr h => exact h
  | own h => exact absurd rfl (n _)
theorem Bor.int {i : Int} (h : Bor K mg F ρ H v (.int i)) : v = .int i := by
  cases h.rep (fun o e => by cases o <;> cases e); rfl
theorem Bor.bl {i : Bool} (h : Bor K mg F ρ H v (.bl i)) : v = .bl i := by
  cases h.rep (fun o e => by cases o <;> cases e); rfl
theorem Bor.str {i : Tx} (h : Bor K mg F ρ H v (.str i)) : v = .str (toS i) := by
  cases h.rep (fun o e => by cases o <;> cases e); rfl
theorem Bor.non (h : Bor K mg F ρ H v .non) : v = .non := by
  cases h.rep (fun o e => by cases o <;> cases e); rfl
end

section
variable (X : Cx) (W : WX)
def rdO (m : Opn) : TE := fun σ H Q => ∃ Z F ρ μ δ, Sim X.K X.mg Z F ρ μ δ σ H ∧
  FinE X W Z F ρ σ (fun r _ _ F' ρ' H' => ∀ v, OrR X.K X.mg F' ρ' σ v r → Q v H') (m.ev δ μ)
def evs : List Opn → MM (List OR)
  | [] => fun δ μ => .ok [] δ μ
  | o :: os => fun δ μ => (o.ev δ μ).bind fun r δ1 μ1 => (evs os δ1 μ1).bind fun rs δ2 μ2 => .ok (r :: rs) δ2 μ2
def rdOs (m : List Opn) : TA := fun σ H Q => ∃ Z F ρ μ δ, Sim X.K X.mg Z F ρ μ δ σ H ∧
  FinE X W Z F ρ σ (fun rs _ _ F' ρ' H' => ∀ vs, OrRs X.K X.mg F' ρ' σ vs rs → Q vs H') (evs m δ μ)
/-- arguments that are kept by whom they are given: locked -/
def evA : List ME → MM (List D)
  | [] => fun δ μ => .ok [] δ μ
  | m :: ms => fun δ μ => (m δ μ).bind fun s δ1 μ1 => (evA ms δ1 μ1).bind fun ds δ2 μ2 => .ok (s.d :: ds) δ2 μ2
def rdA (m : List ME) : TA := fun σ H Q => ∃ Z F ρ μ δ, Sim X.K X.mg Z F ρ μ δ σ H ∧
  FinE X W Z F ρ σ (fun ds _ _ F' ρ' H' => ∀ vs, RepL X.K X.mg F' ρ' vs ds → Q vs H') (evA m δ μ)
end
abbrev JO (X : Cx) (W : WX) (e : Expr) (m : Opn) : Prop := PE X e (rdO X W m)
abbrev JOs (X : Cx) (W : WX) (e : List Expr) (m : List Opn) : Prop := PA X e (rdOs X W m)
abbrev JA (X : Cx) (W : WX) (e : List Expr) (m : List ME) : Prop := PA X e (rdA X W m)

section
variable {X : Cx} {W : WX} {e a b : Expr} {es : List Expr} {pos : Pos}
/-- an expression, its value locked -/
theorem JE.locked {m : ME} (h : JE X W e m) : PE X e (fun σ H Q => ∃ Z F ρ μ δ, Sim X.K X.mg Z F ρ μ δ σ H ∧
    FinE X W Z F ρ σ (fun s δ' μ' F' ρ' H' => ∀ v, Rep X.K X.mg F' ρ' v s.d → Q v H') (m δ μ)) := by
  refine h.imp fun σ H Q ⟨Z, F, ρ, μ, δ, S, q⟩ => ⟨Z, F, ρ, μ, δ, S, ?_⟩
  cases r : m δ μ with
  | ok s δ' μ' =>
    rw [r] at q
    refine fun H' F' ρ' l lr S' v vr => ?_
    obtain ⟨F2, l2, S2, rep⟩ := S'.lock vr
    exact q H' F2 ρ' (l.trans l2) lr S2 v rep
  | exc x δ' μ' => rw [r] at q; exact q
  | bad => rw [r] at q; exact q
theorem jo_e {m : ME} (h : JE X W e m) : JO X W e (.e m) := by
  refine PE.imp h.locked fun σ H Q ⟨Z, F, ρ, μ, δ, S, q⟩ => ⟨Z, F, ρ, μ, δ, S, ?_⟩
  have q' : FinE X W Z F ρ σ (fun r _ _ F' ρ' H' => ∀ v, OrR X.K X.mg F' ρ' σ v r → Q v H') ((m δ μ).bind fun s δ1 μ1 => .ok (.d s.d) δ1 μ1) := q
  refine q'.bind.imp fun s δ' μ' H' F' ρ' l lr S' ⟨S2, l2, lr2, p⟩ v r => ?_
  exact p H' F' ρ' .refl .refl S2 v r
theorem jo_v {i : Nat} (h : PE X e (tVar i)) : JO X W e (.v i) := by
  refine h.imp fun σ H Q ⟨Z, F, ρ, μ, δ, S, q⟩ => ?_
  unfold Opn.ev at q
  cases e1 : δ[i]? with
  | none => simp only [e1] at q; exact q.elim
  | some o =>
    cases o with
    | none => simp only [e1] at q; exact q.elim
    | some s =>
      simp only [e1] at q
      obtain ⟨v, ev, _⟩ := S.slot i s e1
      exact ⟨v, ev, q H F ρ .refl .refl S v ev⟩
theorem jos_nil : JOs X W [] [] := pa_nil.imp fun σ H Q ⟨Z, F, ρ, μ, δ, S, q⟩ => q H F ρ .refl .refl S [] .nil
theorem jos_cons {o : Opn} {os : List Opn} (h : JO X W e o) (t : JOs X W es os) (hs : starEach (e :: es) X.env = (false, eval e X.env) :: starEach es X.env := by rfl) : JOs X W (e :: es) (o :: os) := by
  refine (pa_cons h t hs).imp fun σ H Q ⟨Z, F, ρ, μ, δ, S, q⟩ => ?_
  have q' : FinE X W Z F ρ σ (fun rs _ _ F' ρ' H' => ∀ vs, OrRs X.K X.mg F' ρ' σ vs rs → Q vs H') ((o.ev δ μ).bind fun r δ1 μ1 => (evs os δ1 μ1).bind fun rs δ2 μ2 => .ok (r :: rs) δ2 μ2) := q
  refine ⟨Z, F, ρ, μ, δ, S, q'.bind.imp fun r δ1 μ1 H1 F1 ρ1 l lr S1 ⟨_, _, _, p⟩ v hv => ?_⟩
  refine ⟨Z, F1, ρ1, μ1, δ1, S1, p.bind.imp fun rs δ2 μ2 H2 F2 ρ2 l2 lr2 S2 ⟨_, _, _, p2⟩ vs hvs => ?_⟩
  exact p2 H2 F2 ρ2 .refl .refl S2 (v :: vs) (.cons (hv.up l2 lr2) hvs)
theorem ja_nil : JA X W [] [] := pa_nil.imp fun σ H Q ⟨Z, F, ρ, μ, δ, S, q⟩ => q H F ρ .refl .refl S [] .nil
theorem ja_cons {m : ME} {ms : List ME} (h : JE X W e m) (t : JA X W es ms) (hs : starEach (e :: es) X.env = (false, eval e X.env) :: starEach es X.env := by rfl) : JA X W (e :: es) (m :: ms) := by
  refine (pa_cons h.locked t hs).imp fun σ H Q ⟨Z, F, ρ, μ, δ, S, q⟩ => ?_
  have q' : FinE X W Z F ρ σ (fun ds _ _ F' ρ' H' => ∀ vs, RepL X.K X.mg F' ρ' vs ds → Q vs H') ((m δ μ).bind fun s δ1 μ1 => (evA ms δ1 μ1).bind fun ds δ2 μ2 => .ok (s.d :: ds) δ2 μ2) := q
  refine ⟨Z, F, ρ, μ, δ, S, q'.bind.imp fun s δ1 μ1 H1 F1 ρ1 l lr S1 ⟨_, _, _, p⟩ v hv => ?_⟩
  refine ⟨Z, F1, ρ1, μ1, δ1, S1, p.bind.imp fun ds δ2 μ2 H2 F2 ρ2 l2 lr2 S2 ⟨_, _, _, p2⟩ vs hvs => ?_⟩
  exact p2 H2 F2 ρ2 .refl .refl S2 (v :: vs) (.cons (hv.up l2.to lr2.to) hvs)

/-! ### names and constants -/
def mD (d : D) : ME := fun δ μ => .ok (.fr d) δ μ
theorem je_c {v : V} {d : D} (h : PE X e (tC v)) (r : ∀ F ρ, Rep X.K X.mg F ρ v d) : JE X W e (mD d) :=
  h.imp fun σ H Q ⟨Z, F, ρ, μ, δ, S, q⟩ => q H F ρ .refl .refl S v ⟨r F ρ, fun o p z => by cases z⟩
theorem je_int {i j} : JE X W (.Constant (.int i) j pos) (mD (.int i)) := je_c pe_int fun _ _ => .int
theorem je_bl {b j} : JE X W (.Constant (.bool b) j pos) (mD (.bl b)) := je_c pe_bl fun _ _ => .bl
theorem je_non {j} : JE X W (.Constant .none j pos) (mD .non) := je_c pe_non fun _ _ => .non
theorem je_str {x j} : JE X W (.Constant (.str (Str.ofString x)) j pos) (mD (.str (lit x))) := je_c pe_str fun _ _ => by rw [ofS_lit]; exact .str
/-- a variable, its value given away: locked -/
def mV (i : Nat) : ME := fun δ μ => match δ[i]? with
  | some (some s) => .ok (.fr s.d) (δ.set i (some (.fr s.d))) μ
  | _ => .bad
theorem je_v {i : Nat} (h : PE X e (tVar i)) : JE X W e (mV i) := by
  refine h.imp fun σ H Q ⟨Z, F, ρ, μ, δ, S, q⟩ => ?_
  unfold mV at q
  cases e1 : δ[i]? with
  | none => simp only [e1] at q; exact q.elim
  | some o =>
    cases o with
    | none => simp only [e1] at q; exact q.elim
    | some s =>
      simp only [e1] at q
      obtain ⟨F', v, l, ev, S', r⟩ := S.lockAt e1
      exact ⟨v, ev, q H F' ρ l .refl S' v ⟨r, fun o p z => by cases z⟩⟩
/-- a name of the module: a constant told as data -/
theorem je_glo {x : String} {u : Value} {v : V} {p : Pos} (hg : Gl X (Str.ofString x)) (hm : X.mg (Str.ofString x) = some u) (r : RelV v u) (hd : (Str.ofString x == ("__debug__" : Str)) = false := by decide +kernel) : JE X W (.Name (Str.ofString x) p) (mD (.glo x)) :=
  je_c (pe_glob hg hm r hd) fun _ _ => .glo hm r
theorem je_mod {x : Str} {u : Value} {v : V} {d : D} {p : Pos} (hg : Gl X x) (hm : X.mg x = some u) (r : RelV v u) (hr : ∀ F ρ, Rep X.K X.mg F ρ v d) (hd : (x == ("__debug__" : Str)) = false := by decide +kernel) : JE X W (.Name x p) (mD d) :=
  je_c (pe_glob hg hm r hd) hr

/-! ### operators by values -/
/-- the rule r does what g says -/
def R2J (X : Cx) (r : R2) (g : D → D → Option Slot) : Prop := ∀ Z F ρ μ δ σ H x y dx dy s Q, Sim X.K X.mg Z F ρ μ δ σ H → Bor X.K X.mg F ρ H x dx → Bor X.K X.mg F ρ H y dy → g dx dy = some s →
  (∀ v H' F', Le Z F F' → Sim X.K X.mg Z F' ρ μ δ σ H' → VR X.K X.mg Z F' ρ δ σ H' v s → Q v H') → r x y H Q
def m2 (g : D → D → Option Slot) (oa ob : Opn) : ME := fun δ μ => (oa.ev δ μ).bind fun ra δ1 μ1 => (ob.ev δ1 μ1).bind fun rb δ2 μ2 =>
  match ra.at δ2 μ2, rb.at δ2 μ2 with
  | some da, some db => lift (g da db) δ2 μ2
  | _, _ => .bad
theorem m2_read {r : R2} {g : D → D → Option Slot} {oa ob : Opn} (hr : R2J X r g) : ∀ σ H Q, rdE X W (m2 g oa ob) σ H Q → tOp r (rdO X W oa) (rdO X W ob) σ H Q := by
  intro σ H Q ⟨Z, F, ρ, μ, δ, S, q⟩
  refine ⟨Z, F, ρ, μ, δ, S, (FinE.bind q).imp fun ra δ1 μ1 H1 F1 ρ1 l lr S1 ⟨_, _, _, p⟩ x hx => ?_⟩
  refine ⟨Z, F1, ρ1, μ1, δ1, S1, p.bind.imp fun rb δ2 μ2 H2 F2 ρ2 l2 lr2 S2 ⟨_, _, _, p2⟩ y hy => ?_⟩
  cases ea : ra.at δ2 μ2 with
  | none => rw [ea] at p2; exact p2.elim
  | some da =>
    cases eb : rb.at δ2 μ2 with
    | none => rw [ea, eb] at p2; exact p2.elim
    | some db =>
      rw [ea, eb] at p2
      unfold lift at p2
      cases eg : g da db with
      | none => simp only [eg] at p2; exact p2.elim
      | some s =>
        simp only [eg] at p2
        exact hr Z F2 ρ2 μ2 δ2 σ H2 x y da db s Q S2 ((hx.up l2 lr2).bor S2 ea) (hy.bor S2 eb) eg fun v H' F' l' S' vr => p2 H' F' ρ2 l' .refl S' v vr
theorem je_bin {op : Operator} {r : R2} {g : D → D → Option Slot} {oa ob : Opn} (ho : OpR X (binaryOp op) r) (hr : R2J X r g) (ha : JO X W a oa) (hb : JO X W b ob) : JE X W (.BinOp a op b pos) (m2 g oa ob) :=
  (pe_op ho ha hb).imp (m2_read hr)
theorem je_cmp {op : CmpOp} {r : R2} {g : D → D → Option Slot} {oa ob : Opn} (ho : OpR X (compareOp op) r) (hr : R2J X r g) (ha : JO X W a oa) (hb : JO X W b ob) (hm : behindInMarks op b = false) : JE X W (.Compare a [op] [b] pos) (m2 g oa ob) :=
  (pe_cmpR ho ha hb hm).imp (m2_read hr)
theorem je_ix {r : R2} {g : D → D → Option Slot} {oa ob : Opn} (ho : IxR X r) (hr : R2J X r g) (ha : JO X W a oa) (hb : JO X W b ob) (hs : PlainIx b) : JE X W (.Subscript a b pos) (m2 g oa ob) :=
  (pe_ix ho ha hb hs).imp (m2_read hr)
theorem R2J.or {r r' : R2} {g g' : D → D → Option Slot} (h : R2J X r g) (h' : R2J X r' g') : R2J X (fun x y H Q => r x y H Q ∨ r' x y H Q) (fun x y => (g x y).or (g' x y)) := by
  intro Z F ρ μ δ σ H x y dx dy s Q S bx bY e q
  have e : (g dx dy).or (g' dx dy) = some s := e
  cases eg : g dx dy with
  | some s' => rw [eg] at e; exact .inl (h Z F ρ μ δ σ H x y dx dy s Q S bx bY (by rw [eg]; exact e) q)
  | none => rw [eg] at e; exact .inr (h' Z F ρ μ δ σ H x y dx dy s Q S bx bY e q)
/-- a test of a value that is a truth value -/
def mTb (m : ME) : MT := fun δ μ => (m δ μ).bind fun s δ1 μ1 => match s with
  | .fr (.bl b) => .ok b δ1 μ1
  | _ => .bad
theorem mTb_read {t : TE} {m : ME} (h : ∀ σ H Q, rdE X W m σ H Q → t σ H Q) : ∀ σ H Q, rdT X W (mTb m) σ H Q → t σ H fun x H' => ∃ k, x = .bl k ∧ Q k H' := by
  intro σ H Q ⟨Z, F, ρ, μ, δ, S, q⟩
  refine h σ H _ ⟨Z, F, ρ, μ, δ, S, (FinE.bind q).imp fun s δ1 μ1 H1 F1 ρ1 l lr S1 ⟨_, _, _, p⟩ v vr => ?_⟩
  cases s with
  | own o => exact p.elim
  | fr d =>
    cases d with
    | bl b =>
      cases vr.r
      exact ⟨b, rfl, p H1 F1 ρ1 .refl .refl S1⟩
    | _ => exact p.elim
theorem jt_cmp {op : CmpOp} {r : R2} {g : D → D → Option Slot} {oa ob : Opn} (ho : OpR X (compareOp op) r) (hr : R2J X r g) (ha : JO X W a oa) (hb : JO X W b ob) (hm : behindInMarks op b = false) : JT X W (.Compare a [op] [b] pos) (mTb (m2 g oa ob)) :=
  (pt_cmpR ho ha hb hm).imp (mTb_read (m2_read hr))
/-- an expression that gives a truth value, as a test -/
theorem jt_e {m : ME} (h : JE X W e m) (he : ∀ whole, isTrue e X.env whole = (do let v ← whole; standAt e.pos; holding [v] (truthy v)) := by intro _; rfl) : JT X W e (mTb m) :=
  (pt_val h he).imp (mTb_read fun _ _ _ q => q)

/-! ### and, or, not, if -/
def mNot (m : MT) : MT := fun δ μ => (m δ μ).bind fun b δ1 μ1 => .ok (!b) δ1 μ1
theorem jt_not {m : MT} (h : JT X W a m) : JT X W (.UnaryOp .Not a pos) (mNot m) := by
  refine (pt_not h).imp fun σ H Q ⟨Z, F, ρ, μ, δ, S, q⟩ => ⟨Z, F, ρ, μ, δ, S, (FinE.bind q).imp fun b δ1 μ1 H1 F1 ρ1 l lr S1 ⟨_, _, _, p⟩ => ?_⟩
  exact p H1 F1 ρ1 .refl .refl S1
abbrev JW (X : Cx) (W : WX) (e : Expr) (m : MT) : Prop := PW X e (rdT X W m)
def mAnd (m n : MT) : MT := fun δ μ => (m δ μ).bind fun b δ1 μ1 => if b = true then n δ1 μ1 else .ok false δ1 μ1
def mOr (m n : MT) : MT := fun δ μ => (m δ μ).bind fun b δ1 μ1 => if b = true then .ok true δ1 μ1 else n δ1 μ1
theorem jw_and1 {m : MT} (h : JT X W a m) : JW X W (.BoolOp .And [a] pos) m := pw_and1 h
theorem jw_or1 {m : MT} (h : JT X W a m) : JW X W (.BoolOp .Or [a] pos) m := pw_or1 h
theorem jw_and {m n : MT} {rest : List Expr} (h : JT X W a m) (t : JW X W (.BoolOp .And (b :: rest) pos) n) : JW X W (.BoolOp .And (a :: b :: rest) pos) (mAnd m n) := by
  refine (pw_and h t).imp fun σ H Q ⟨Z, F, ρ, μ, δ, S, q⟩ => ⟨Z, F, ρ, μ, δ, S, (FinE.bind q).imp fun c δ1 μ1 H1 F1 ρ1 l lr S1 ⟨_, _, _, p⟩ => ?_⟩
  cases c with
  | true => exact ⟨Z, F1, ρ1, μ1, δ1, S1, p⟩
  | false => exact p H1 F1 ρ1 .refl .refl S1
theorem jw_or {m n : MT} {rest : List Expr} (h : JT X W a m) (t : JW X W (.BoolOp .Or (b :: rest) pos) n) : JW X W (.BoolOp .Or (a :: b :: rest) pos) (mOr m n) := by
  refine (pw_or h t).imp fun σ H Q ⟨Z, F, ρ, μ, δ, S, q⟩ => ⟨Z, F, ρ, μ, δ, S, (FinE.bind q).imp fun c δ1 μ1 H1 F1 ρ1 l lr S1 ⟨_, _, _, p⟩ => ?_⟩
  cases c with
  | false => exact ⟨Z, F1, ρ1, μ1, δ1, S1, p⟩
  | true => exact p H1 F1 ρ1 .refl .refl S1
theorem jt_w {m : MT} (h : JW X W e m) : JT X W e m := h.pt
def mIf (t : MT) (m n : ME) : ME := fun δ μ => (t δ μ).bind fun b δ1 μ1 => if b = true then m δ1 μ1 else n δ1 μ1
theorem je_if {c : Expr} {t : MT} {m n : ME} (hc : JT X W c t) (ha : JE X W a m) (hb : JE X W b n) : JE X W (.IfExp c a b pos) (mIf t m n) := by
  refine (pe_ifExp hc ha hb).imp fun σ H Q ⟨Z, F, ρ, μ, δ, S, q⟩ => ⟨Z, F, ρ, μ, δ, S, (FinE.bind q).imp fun c δ1 μ1 H1 F1 ρ1 l lr S1 ⟨_, _, _, p⟩ => ?_⟩
  cases c with
  | true => exact ⟨Z, F1, ρ1, μ1, δ1, S1, p⟩
  | false => exact ⟨Z, F1, ρ1, μ1, δ1, S1, p⟩
/-- .. as values: truth values all -/
def mAndV (m n : ME) : ME := fun δ μ => (m δ μ).bind fun s δ1 μ1 => match s with
  | .fr (.bl true) => n δ1 μ1
  | .fr (.bl false) => .ok (.fr (.bl false)) δ1 μ1
  | _ => .bad
def mOrV (m n : ME) : ME := fun δ μ => (m δ μ).bind fun s δ1 μ1 => match s with
  | .fr (.bl false) => n δ1 μ1
  | .fr (.bl true) => .ok (.fr (.bl true)) δ1 μ1
  | _ => .bad
theorem VR.bl {K : PySem.W.Frag} {mg : Str → Option Value} {Z F H : Hp} {ρ : List Addr} {δ : Loc} {σ : St} {b : Bool} : VR K mg Z F ρ δ σ H (.bl b) (.fr (.bl b)) := ⟨.bl, fun o p z => by cases z⟩
theorem je_one {op} {m : ME} (h : JE X W a m) : JE X W (.BoolOp op [a] pos) m := pe_one h
theorem je_and {m n : ME} {rest : List Expr} (h : JE X W a m) (t : JE X W (.BoolOp .And (b :: rest) pos) n) : JE X W (.BoolOp .And (a :: b :: rest) pos) (mAndV m n) := by
  refine (pe_and h t).imp fun σ H Q ⟨Z, F, ρ, μ, δ, S, q⟩ => ⟨Z, F, ρ, μ, δ, S, (FinE.bind q).imp fun s δ1 μ1 H1 F1 ρ1 l lr S1 ⟨_, _, _, p⟩ v vr => ?_⟩
  cases s with
  | own o => exact p.elim
  | fr d =>
    cases d with
    | bl b =>
      cases vr.r
      refine ⟨b, rfl, ?_⟩
      cases b with
      | true => exact ⟨Z, F1, ρ1, μ1, δ1, S1, p⟩
      | false => exact p H1 F1 ρ1 .refl .refl S1 _ .bl
    | _ => exact p.elim
theorem je_or {m n : ME} {rest : List Expr} (h : JE X W a m) (t : JE X W (.BoolOp .Or (b :: rest) pos) n) : JE X W (.BoolOp .Or (a :: b :: rest) pos) (mOrV m n) := by
  refine (pe_or h t).imp fun σ H Q ⟨Z, F, ρ, μ, δ, S, q⟩ => ⟨Z, F, ρ, μ, δ, S, (FinE.bind q).imp fun s δ1 μ1 H1 F1 ρ1 l lr S1 ⟨_, _, _, p⟩ v vr => ?_⟩
  cases s with
  | own o => exact p.elim
  | fr d =>
    cases d with
    | bl b =>
      cases vr.r
      refine ⟨b, rfl, ?_⟩
      cases b with
      | false => exact ⟨Z, F1, ρ1, μ1, δ1, S1, p⟩
      | true => exact p H1 F1 ρ1 .refl .refl S1 _ .bl
    | _ => exact p.elim
def mNotV (m : ME) : ME := fun δ μ => (m δ μ).bind fun s δ1 μ1 => match s with
  | .fr (.bl b) => .ok (.fr (.bl (!b))) δ1 μ1
  | _ => .bad
theorem je_not {m : ME} (h : JE X W a m) : JE X W (.UnaryOp .Not a pos) (mNotV m) := by
  refine (pe_not h).imp fun σ H Q ⟨Z, F, ρ, μ, δ, S, q⟩ => ⟨Z, F, ρ, μ, δ, S, (FinE.bind q).imp fun s δ1 μ1 H1 F1 ρ1 l lr S1 ⟨_, _, _, p⟩ v vr => ?_⟩
  cases s with
  | own o => exact p.elim
  | fr d =>
    cases d with
    | bl b =>
      cases vr.r
      exact ⟨b, rfl, p H1 F1 ρ1 .refl .refl S1 _ .bl⟩
    | _ => exact p.elim

/-! ### displays -/
def mTup (ms : List ME) : ME := fun δ μ => (evA ms δ μ).bind fun ds δ1 μ1 => if ds.length ≤ 16777216 then .ok (.fr (.tup ds)) δ1 μ1 else .bad
def mLst (ms : List ME) : ME := fun δ μ => (evA ms δ μ).bind fun ds δ1 μ1 => if ds.length ≤ 16777216 then .ok (.own (.lst ds)) δ1 μ1 else .bad
theorem je_tup {k} {ms : List ME} (h : JA X W es ms) : JE X W (.Tuple es k pos) (mTup ms) := by
  refine (pe_tup h).imp fun σ H Q ⟨Z, F, ρ, μ, δ, S, q⟩ => ⟨Z, F, ρ, μ, δ, S, (FinE.bind q).imp fun ds δ1 μ1 H1 F1 ρ1 l lr S1 ⟨_, _, _, p⟩ vs hv => ?_⟩
  by_cases hz : ds.length ≤ 16777216
  · rw [if_pos hz] at p
    refine ⟨by rw [hv.len, sizeLine_eq]; exact hz, fun a ha => ?_⟩
    obtain ⟨n1, n2, n3, n4⟩ := S1.notIn ha
    have S2 := S1.laid (o := .tup vs) ha
    obtain ⟨l3, S3⟩ := S2.freeze (p := a) upd_same ⟨n1, n2, n3⟩ n4
    exact p _ _ ρ1 l3 .refl S3 _ ⟨.tup (.inl (.inl upd_same)) (hv.up l3.to fun _ _ h => h), fun o p z => by cases z⟩
  · rw [if_neg hz] at p; exact p.elim
theorem je_lst {ms : List ME} (h : JA X W es ms) : JE X W (.List es pos) (mLst ms) := by
  refine (pe_lst h).imp fun σ H Q ⟨Z, F, ρ, μ, δ, S, q⟩ => ⟨Z, F, ρ, μ, δ, S, (FinE.bind q).imp fun ds δ1 μ1 H1 F1 ρ1 l lr S1 ⟨_, _, _, p⟩ vs hv => ?_⟩
  by_cases hz : ds.length ≤ 16777216
  · rw [if_pos hz] at p
    refine ⟨by rw [hv.len, sizeLine_eq]; exact hz, fun a ha => ?_⟩
    obtain ⟨n1, n2, n3, n4⟩ := S1.notIn ha
    exact p _ F1 ρ1 .refl .refl (S1.laid ha) _ ⟨⟨a, rfl, ⟨n1, n2, n3⟩, vs, upd_same, hv⟩, fun o p z z2 => by cases z2; exact n4⟩
  · rw [if_neg hz] at p; exact p.elim
/-- an owned thing is made a shared object -/
def mShare (m : ME) : ME := fun δ μ => (m δ μ).bind fun s δ1 μ1 => match s with
  | .own o => .ok (.fr (.obj μ1.length)) δ1 (μ1 ++ [o])
  | _ => .bad
theorem je_share {m : ME} (h : JE X W e m) : JE X W e (mShare m) := by
  refine h.imp fun σ H Q ⟨Z, F, ρ, μ, δ, S, q⟩ => ⟨Z, F, ρ, μ, δ, S, (FinE.bind q).imp fun s δ1 μ1 H1 F1 ρ1 l lr S1 ⟨_, _, _, p⟩ v vr => ?_⟩
  cases s with
  | fr d => exact p.elim
  | own o =>
    obtain ⟨a, ea, lr2, S2, rp⟩ := S1.share vr
    exact p H1 F1 _ .refl lr2 S2 v ⟨rp, fun o p z => by cases z⟩
end
end FL

/-! Part C: operators, built-in functions and methods by values. -/
namespace FL
open PySem L2

theorem line_eq : sizeLine = 16777216 := sizeLine_eq
section
variable {X : Cx} {W : WX} {e a b : Expr} {es : List Expr} {pos : Pos}
/-! ### whole numbers -/
def gInt (c : Int → Int → Bool) (f : Int → Int → D) : D → D → Option Slot
  | .int i, .int j => if c i j = true then some (.fr (f i j)) else none
  | _, _ => none
theorem r2_flat {r : R2} {g : D → D → Option Slot} (h : ∀ F ρ H x y dx dy s Q, Bor X.K X.mg F ρ H x dx → Bor X.K X.mg F ρ H y dy → g dx dy = some s → ∃ v, (Q v H → r x y H Q) ∧ ∃ d, s = .fr d ∧ ∀ F' ρ', Rep X.K X.mg F' ρ' v d) : R2J X r g := by
  intro Z F ρ μ δ σ H x y dx dy s Q S bx bY e q
  obtain ⟨v, h1, d, rfl, h2⟩ := h F ρ H x y dx dy s Q bx bY e
  exact h1 (q v H F .refl S ⟨h2 F ρ, fun o p z => by cases z⟩)
theorem r2_int {C : Int → Int → Prop} {c : Int → Int → Bool} {f : Int → Int → Int} (h : ∀ i j, c i j = true → C i j) : R2J X (rI C fun i j => .int (f i j)) (gInt c fun i j => .int (f i j)) := by
  refine r2_flat fun F ρ H x y dx dy s Q bx bY e => ?_
  unfold gInt at e
  cases dx <;> cases dy <;> first | (cases e; done) | skip
  rename_i i j
  cases bx.int
  cases bY.int
  by_cases hc : c i j = true
  · simp only [hc, if_true] at e
    cases e
    exact ⟨.int (f i j), fun q => ⟨i, j, rfl, rfl, h i j hc, q⟩, _, rfl, fun _ _ => .int⟩
  · simp only [hc] at e
    cases e
theorem r2_int0 {f : Int → Int → Int} : R2J X (rI0 fun i j => .int (f i j)) (gInt (fun _ _ => true) fun i j => .int (f i j)) := by
  refine r2_flat fun F ρ H x y dx dy s Q bx bY e => ?_
  unfold gInt at e
  cases dx <;> cases dy <;> first | (cases e; done) | skip
  rename_i i j
  cases bx.int
  cases bY.int
  simp only [if_true] at e
  cases e
  exact ⟨.int (f i j), fun q => ⟨i, j, rfl, rfl, q⟩, _, rfl, fun _ _ => .int⟩
theorem r2_intB {f : Int → Int → Bool} : R2J X (rI0 fun i j => .bl (f i j)) (gInt (fun _ _ => true) fun i j => .bl (f i j)) := by
  refine r2_flat fun F ρ H x y dx dy s Q bx bY e => ?_
  unfold gInt at e
  cases dx <;> cases dy <;> first | (cases e; done) | skip
  rename_i i j
  cases bx.int
  cases bY.int
  simp only [if_true] at e
  cases e
  exact ⟨.bl (f i j), fun q => ⟨i, j, rfl, rfl, q⟩, _, rfl, fun _ _ => .bl⟩
abbrev gSub : D → D → Option Slot := gInt (fun _ _ => true) fun i j => .int (i - j)
abbrev gMul : D → D → Option Slot := gInt (fun i j => decide (i.natAbs.log2 + j.natAbs.log2 < 1000000)) fun i j => .int (i * j)
abbrev gDiv : D → D → Option Slot := gInt (fun _ j => decide (0 < j) && decide (j.natAbs.log2 < 9000)) fun i j => .int (i / j)
abbrev gMod : D → D → Option Slot := gInt (fun _ j => decide (0 < j)) fun i j => .int (i % j)
abbrev gPow : D → D → Option Slot := gInt (fun i j => decide (0 ≤ j) && decide (j ≤ 1000000) && decide (i.natAbs < 2 ^ 64)) fun i j => .int (i ^ j.toNat)
abbrev gShl : D → D → Option Slot := gInt (fun i j => decide (0 ≤ j) && decide (j ≤ 1000000) && decide (i.natAbs < 2 ^ 64)) fun i j => .int (i * 2 ^ j.toNat)
theorem o_sub : OpR X (binaryOp .Sub) (rI0 fun i j => .int (i - j)) := op_sub
theorem j_sub : R2J X (rI0 fun i j => .int (i - j)) gSub := r2_int0
theorem j_mulI : R2J X (rI CMulW fun i j => .int (i * j)) gMul := r2_int fun i j h => (show i.natAbs.log2 + j.natAbs.log2 < 1000000 from of_decide_eq_true h)
theorem j_div : R2J X (rI CDivW fun i j => .int (i / j)) gDiv := r2_int fun i j h => by
  have h' := Bool.and_eq_true_iff.mp h
  exact ⟨of_decide_eq_true h'.1, of_decide_eq_true h'.2⟩
theorem j_mod : R2J X (rI (fun _ j => 0 < j) fun i j => .int (i % j)) gMod := r2_int fun i j h => of_decide_eq_true h
theorem cpow {i j : Int} (h : (decide (0 ≤ j) && decide (j ≤ 1000000) && decide (i.natAbs < 2 ^ 64)) = true) : CPow i j := by
  have h' := Bool.and_eq_true_iff.mp h
  have h2 := Bool.and_eq_true_iff.mp h'.1
  exact ⟨of_decide_eq_true h2.1, of_decide_eq_true h2.2, of_decide_eq_true h'.2⟩
theorem j_pow : R2J X (rI CPow fun i j => .int (i ^ j.toNat)) gPow := r2_int fun i j h => cpow h
theorem j_shl : R2J X (rI CPow fun i j => .int (i * 2 ^ j.toNat)) gShl := r2_int fun i j h => cpow h
/-! ### + -/
def gAddS : D → D → Option Slot
  | .str x, .str y => if x.length + y.length ≤ 16777216 then some (.fr (.str (x ++ y))) else none
  | _, _ => none
def gAddL : D → D → Option Slot
  | .lst x, .lst y => if x.length + y.length ≤ 16777216 then some (.own (.lst (x ++ y))) else none
  | _, _ => none
def gAddT : D → D → Option Slot
  | .tup x, .tup y => if x.length + y.length ≤ 16777216 then some (.fr (.tup (x ++ y))) else none
  | _, _ => none
theorem j_addS : R2J X (fun x y H Q => ∃ i j, x = .str i ∧ y = .str j ∧ i.length + j.length ≤ sizeLine ∧ Q (.str (i ++ j)) H) gAddS := by
  refine r2_flat fun F ρ H x y dx dy s Q bx bY e => ?_
  unfold gAddS at e
  cases dx <;> cases dy <;> first | (cases e; done) | skip
  rename_i i j
  cases bx.str
  cases bY.str
  by_cases hz : i.length + j.length ≤ 16777216
  · simp only [hz, if_true] at e
    cases e
    exact ⟨.str (toS i ++ toS j), fun q => ⟨_, _, rfl, rfl, by rw [toS_len, toS_len, line_eq]; exact hz, q⟩, _, rfl, fun _ _ => by rw [toS_app]; exact .str⟩
  · simp only [hz] at e; cases e
/-- a list that is looked at is there to be copied: tracked, or locked -/
def rCatL (K : PySem.W.Frag) : R2 := fun x y H Q => ∃ a b xs zs, x = .ref a ∧ y = .ref b ∧ SqL K H a xs ∧ SqL K H b zs ∧ xs.length + zs.length ≤ sizeLine ∧ ∀ p, H p = none → Q (.ref p) (upd H p (.lst (xs ++ zs)))
theorem sum_lists {prog : Program} {w : World} {A : Around} {E : Value → Shared → Prop} {s : Shared} {l b : Addr} {u v : List Value} {Q : Value → Shared → Prop}
    (hl : s.heap.IsList l u.toArray) (hb : s.heap.IsList b v.toArray) (hz : u.length + v.length ≤ sizeLine)
    (h : Q (.ref s.heap.objs.size) { s with heap := s.heap.push { cls := .type "list", data := .seq (u ++ v).toArray } }) : wpAny (model prog w) A (binaryOp .Add (.ref l) (.ref b)) Q E s := by
  rcases hl with ⟨⟨k1, d1, t1, z1⟩, g1, y1, n1, x1⟩
  rcases hb with ⟨⟨k2, d2, t2, z2⟩, g2, y2, n2, x2⟩
  dsimp only at y1 x1 y2 x2
  cases y1; cases x1; cases y2; cases x2
  have hcat : (u ++ v).toArray = u.toArray ++ v.toArray := by simp
  rw [hcat] at h
  exact concat_meets ⟨_, g1, rfl⟩ ⟨_, g2, rfl⟩ noFill_list_add seq_list_add PySem.F.slot_list_add PySem.F.entry_list_add (PySem.F.args_list_add_2 _ _)
    (PyProof.Rows.list_addW l b u.toArray v.toArray n1 n2 d1 d2 z1 z2 (by simpa using hz)) ⟨g1, g2, h⟩
theorem o_cat : OpR X (binaryOp .Add) (rCatL X.K) := by
  intro pins s σ H x y v u Q I rx ry h
  obtain ⟨l, b, xs, zs, rfl, rfl, hl, hb, hz, q⟩ := h
  cases rx
  cases ry
  obtain ⟨ia, ra, pa, za⟩ := I.list hl
  obtain ⟨ib, rb, pb, zb⟩ := I.list hb
  refine sum_lists pa.isList pb.isList (by rw [← ra.length, ← rb.length]; exact hz) ?_
  exact ⟨.ref s.heap.objs.size, _, I.lnew (t' := s.toks) (ra.append rb) (by rw [List.length_append]; exact hz), rfl, q _ I.fresh⟩
theorem vr_newL {Z F : Hp} {ρ : List Addr} {μ : Mem} {δ : Loc} {σ : St} {H : Hp} {p : Addr} {vs : List V} {ds : List D} (S : Sim X.K X.mg Z F ρ μ δ σ H) (hp : H p = none) (r : RepL X.K X.mg F ρ vs ds) :
    Sim X.K X.mg Z F ρ μ δ σ (upd H p (.lst vs)) ∧ VR X.K X.mg Z F ρ δ σ (upd H p (.lst vs)) (.ref p) (.own (.lst ds)) := by
  obtain ⟨n1, n2, n3, n4⟩ := S.notIn hp
  exact ⟨S.laid hp, ⟨p, rfl, ⟨n1, n2, n3⟩, vs, upd_same, r⟩, fun o p z z2 => by cases z2; exact n4⟩
theorem vr_newT {Z F : Hp} {ρ : List Addr} {μ : Mem} {δ : Loc} {σ : St} {H : Hp} {p : Addr} {vs : List V} {ds : List D} (S : Sim X.K X.mg Z F ρ μ δ σ H) (hp : H p = none) (r : RepL X.K X.mg F ρ vs ds) :
    ∃ F', Le Z F F' ∧ Sim X.K X.mg Z F' ρ μ δ σ (upd H p (.tup vs)) ∧ VR X.K X.mg Z F' ρ δ σ (upd H p (.tup vs)) (.ref p) (.fr (.tup ds)) := by
  obtain ⟨n1, n2, n3, n4⟩ := S.notIn hp
  obtain ⟨l3, S3⟩ := (S.laid (o := .tup vs) hp).freeze (p := p) upd_same ⟨n1, n2, n3⟩ n4
  exact ⟨_, l3, S3, .tup (.inl (.inl upd_same)) (r.up l3.to fun _ _ h => h), fun o p z => by cases z⟩
theorem j_addL : R2J X (rCatL X.K) gAddL := by
  intro Z F ρ μ δ σ H x y dx dy s Q S bx bY e q
  unfold gAddL at e
  cases dx <;> cases dy <;> first | (cases e; done) | skip
  rename_i i j
  by_cases hz : i.length + j.length ≤ 16777216
  · simp only [hz, if_true] at e
    cases e
    obtain ⟨p1, v1, rfl, h1, r1⟩ := bx.lst S
    obtain ⟨p2, v2, rfl, h2, r2⟩ := bY.lst S
    refine ⟨p1, p2, v1, v2, rfl, rfl, .of h1, .of h2, by rw [r1.len, r2.len, line_eq]; exact hz, fun p hp => ?_⟩
    obtain ⟨S', vr⟩ := vr_newL S hp (r1.app r2)
    exact q _ _ F .refl S' vr
  · simp only [hz] at e; cases e
theorem j_addT : R2J X (rCatA X.K) gAddT := by
  intro Z F ρ μ δ σ H x y dx dy s Q S bx bY e q
  unfold gAddT at e
  cases dx <;> cases dy <;> first | (cases e; done) | skip
  rename_i i j
  by_cases hz : i.length + j.length ≤ 16777216
  · simp only [hz, if_true] at e
    cases e
    have b1 := bx.rep fun o e => by cases o <;> cases e
    have b2 := bY.rep fun o e => by cases o <;> cases e
    obtain ⟨p1, v1, rfl, h1, r1⟩ := bx.tup S
    obtain ⟨p2, v2, rfl, h2, r2⟩ := bY.tup S
    refine ⟨p1, p2, v1, v2, rfl, rfl, h1, h2, by rw [r1.len, r2.len, line_eq]; exact hz, fun z => ?_, fun _ z => ?_, fun _ _ p hp => ?_⟩
    · subst z
      cases r1
      exact q _ H F .refl S ⟨b2, fun o p z => by cases z⟩
    · subst z
      cases r2
      rw [List.append_nil] at q
      exact q _ H F .refl S ⟨b1, fun o p z => by cases z⟩
    · obtain ⟨F', l', S', vr⟩ := vr_newT S hp (r1.app r2)
      exact q _ _ F' l' S' vr
  · simp only [hz] at e; cases e
/-- + of any two things that can be added -/
def gAdd : D → D → Option Slot := fun x y => (gInt (fun _ _ => true) (fun i j => .int (i + j)) x y).or ((gAddS x y).or ((gAddL x y).or (gAddT x y)))
abbrev rAddA (K : PySem.W.Frag) : R2 := fun x y H Q => rI0 (fun i j => .int (i + j)) x y H Q ∨ ((∃ i j, x = .str i ∧ y = .str j ∧ i.length + j.length ≤ sizeLine ∧ Q (.str (i ++ j)) H) ∨ (rCatL K x y H Q ∨ rCatA K x y H Q))
theorem o_add : OpR X (binaryOp .Add) (rAddA X.K) := op_add.or (op_add_str.or (o_cat.or op_catA))
theorem j_add : R2J X (rAddA X.K) gAdd := R2J.or r2_int0 (R2J.or j_addS (R2J.or j_addL j_addT))
/-! ### * -/
def gRep : D → D → Option Slot
  | .lst x, .int k => if (decide (-(2 ^ 63) ≤ k) && decide (k < 2 ^ 63) && decide (x.length * k.toNat ≤ 16777216)) = true then some (.own (.lst (List.replicate k.toNat x).flatten)) else none
  | _, _ => none
theorem RepL.rep {F : Hp} {ρ : List Addr} {vs : List V} {ds : List D} (h : RepL X.K X.mg F ρ vs ds) : ∀ n : Nat, RepL X.K X.mg F ρ (List.replicate n vs).flatten (List.replicate n ds).flatten
  | 0 => .nil
  | n + 1 => by
    rw [List.replicate_succ, List.replicate_succ, List.flatten_cons, List.flatten_cons]
    exact h.app (RepL.rep h n)
theorem j_rep : R2J X rRep gRep := by
  intro Z F ρ μ δ σ H x y dx dy s Q S bx bY e q
  unfold gRep at e
  cases dx <;> cases dy <;> first | (cases e; done) | skip
  rename_i xs k
  cases bY.int
  by_cases hz : (decide (-(2 ^ 63) ≤ k) && decide (k < 2 ^ 63) && decide (xs.length * k.toNat ≤ 16777216)) = true
  · simp only [hz, if_true] at e
    cases e
    obtain ⟨p1, v1, rfl, h1, r1⟩ := bx.lst S
    have h' := Bool.and_eq_true_iff.mp hz
    have h2 := Bool.and_eq_true_iff.mp h'.1
    refine ⟨p1, k, v1, rfl, rfl, h1, of_decide_eq_true h2.1, of_decide_eq_true h2.2, by rw [r1.len, line_eq]; exact of_decide_eq_true h'.2, fun p hp => ?_⟩
    obtain ⟨S', vr⟩ := vr_newL S hp (r1.rep k.toNat)
    exact q _ _ F .refl S' vr
  · simp only [hz] at e; cases e
/-! ### order -/
abbrev tb (b : Bool) : Slot := .fr (.bl b)
abbrev gLtI : D → D → Option Slot := gInt (fun _ _ => true) fun i j => .bl (decide (i < j))
abbrev gLeI : D → D → Option Slot := gInt (fun _ _ => true) fun i j => .bl (decide (i ≤ j))
abbrev gGtI : D → D → Option Slot := gInt (fun _ _ => true) fun i j => .bl (decide (j < i))
abbrev gGeI : D → D → Option Slot := gInt (fun _ _ => true) fun i j => .bl (decide (j ≤ i))
def gTx (f : Tx → Tx → Bool) : D → D → Option Slot
  | .str x, .str y => some (tb (f x y))
  | _, _ => none
theorem r2_tx {f : List Nat → List Nat → Bool} : R2J X (fun x y H Q => ∃ i j, x = .str i ∧ y = .str j ∧ Q (.bl (f i.cps.toList j.cps.toList)) H) (gTx f) := by
  refine r2_flat fun F ρ H x y dx dy s Q bx bY e => ?_
  unfold gTx at e
  cases dx <;> cases dy <;> first | (cases e; done) | skip
  cases bx.str
  cases bY.str
  cases e
  exact ⟨.bl _, fun q => ⟨_, _, rfl, rfl, q⟩, _, rfl, fun _ _ => .bl⟩
def gLt : D → D → Option Slot := fun x y => (gLtI x y).or (gTx (fun x y => decide (x < y)) x y)
def gLe : D → D → Option Slot := fun x y => (gLeI x y).or (gTx (fun x y => !decide (y < x)) x y)
def gGt : D → D → Option Slot := fun x y => (gGtI x y).or (gTx (fun x y => decide (y < x)) x y)
def gGe : D → D → Option Slot := fun x y => (gGeI x y).or (gTx (fun x y => !decide (x < y)) x y)
abbrev rLtA : R2 := fun x y H Q => rI0 (fun i j => .bl (decide (i < j))) x y H Q ∨ ∃ i j, x = .str i ∧ y = .str j ∧ Q (.bl (decide (i.cps.toList < j.cps.toList))) H
abbrev rLeA : R2 := fun x y H Q => rI0 (fun i j => .bl (decide (i ≤ j))) x y H Q ∨ ∃ i j, x = .str i ∧ y = .str j ∧ Q (.bl (!decide (j.cps.toList < i.cps.toList))) H
abbrev rGtA : R2 := fun x y H Q => rI0 (fun i j => .bl (decide (j < i))) x y H Q ∨ ∃ i j, x = .str i ∧ y = .str j ∧ Q (.bl (decide (j.cps.toList < i.cps.toList))) H
abbrev rGeA : R2 := fun x y H Q => rI0 (fun i j => .bl (decide (j ≤ i))) x y H Q ∨ ∃ i j, x = .str i ∧ y = .str j ∧ Q (.bl (!decide (i.cps.toList < j.cps.toList))) H
theorem o_lt : OpR X (compareOp .Lt) rLtA := op_lt.or op_lt_str
theorem o_le : OpR X (compareOp .LtE) rLeA := op_le.or op_le_str
theorem o_gt : OpR X (compareOp .Gt) rGtA := op_gt.or op_gt_str
theorem o_ge : OpR X (compareOp .GtE) rGeA := op_ge.or op_ge_str
theorem j_lt : R2J X rLtA gLt := R2J.or r2_intB (r2_tx (f := fun x y => decide (x < y)))
theorem j_le : R2J X rLeA gLe := R2J.or r2_intB (r2_tx (f := fun x y => !decide (y < x)))
theorem j_gt : R2J X rGtA gGt := R2J.or r2_intB (r2_tx (f := fun x y => decide (y < x)))
theorem j_ge : R2J X rGeA gGe := R2J.or r2_intB (r2_tx (f := fun x y => !decide (x < y)))
/-! ### ==, != -/
def eqS : D → D → Option Bool
  | .int i, .int j => some (decide (i = j))
  | .str x, .str y => some (decide (x = y))
  | .bl a, .bl b => some (decide (a = b))
  | .non, .non => some true
  | .non, .int _ | .int _, .non | .non, .bl _ | .bl _, .non | .non, .str _ | .str _, .non | .int _, .str _ | .str _, .int _ | .bl _, .str _ | .str _, .bl _ => some false
  | _, _ => none
mutual
def D.py : D → Option PyData
  | .non => some .none
  | .bl b => some (.bool b)
  | .int i => some (.int i)
  | .str x => some (.str (toS x))
  | .lst xs => (D.pys xs).map .list
  | .tup xs => (D.pys xs).map .tuple
  | .ro xs => (D.pys xs).map .list
  | _ => none
def D.pys : List D → Option (List PyData)
  | [] => some []
  | x :: xs => match D.py x, D.pys xs with
    | some a, some r => some (a :: r)
    | _, _ => none
end
def eqP (x y : D) : Option Bool := match D.py x, D.py y with
  | some a, some b => if SeqAt.shaped a && SeqAt.shaped b then some (PyData.eqv a b) else none
  | _, _ => none
def gEq (neg : Bool) : D → D → Option Slot := fun x y => ((eqS x y).map fun b => tb (b != neg)).or ((eqP x y).map fun b => tb (b != neg))
abbrev rEqA (K : PySem.W.Frag) : R2 := fun x y H Q => rEq x y H Q ∨ rEqD K x y H Q
abbrev rNeA (K : PySem.W.Frag) : R2 := fun x y H Q => rNe x y H Q ∨ rNeD K x y H Q
theorem o_eq (hu : X.A.units + 64 < cLine) : OpR X (compareOp .Eq) (rEqA X.K) := op_eq.or (op_eqD hu)
theorem o_ne (hu : X.A.units + 64 < cLine) : OpR X (compareOp .NotEq) (rNeA X.K) := op_ne.or (op_neD hu)
mutual
theorem Rep.dp {K : PySem.W.Frag} {mg : Str → Option Value} {F H : Hp} {ρ : List Addr} (l : ∀ p u, Rd F p u → Rd H p u) : ∀ {v : V} {d : D} {q : PyData}, Rep K mg F ρ v d → D.py d = some q → Dp K H v q
  | _, _, _, .non, e => by simp only [D.py] at e; cases e; exact .non
  | _, _, _, .bl, e => by simp only [D.py] at e; cases e; exact .bl _
  | _, _, _, .int, e => by simp only [D.py] at e; cases e; exact .int _
  | _, _, _, .str, e => by simp only [D.py] at e; cases e; exact .str _
  | _, _, _, .lst h r, e => by
    simp only [D.py] at e
    obtain ⟨qs, e1, e2⟩ := Option.map_eq_some_iff.mp e
    subst e2
    exact .lst (.inl (l _ _ (.inl h))) (RepL.dp l r e1)
  | _, _, _, .ro h r, e => by
    simp only [D.py] at e
    obtain ⟨qs, e1, e2⟩ := Option.map_eq_some_iff.mp e
    subst e2
    exact .lst (h.elim (fun h => .inl (l _ _ h)) .inr) (RepL.dp l r e1)
  | _, _, _, .tup h r, e => by
    simp only [D.py] at e
    obtain ⟨qs, e1, e2⟩ := Option.map_eq_some_iff.mp e
    subst e2
    exact .tup (h.elim (fun h => .inl (l _ _ h)) .inr) (RepL.dp l r e1)
  | _, _, _, .dct _ _ _, e => by simp only [D.py] at e; cases e
  | _, _, _, .obj _, e => by simp only [D.py] at e; cases e
  | _, _, _, .glo _ _, e => by simp only [D.py] at e; cases e
  | _, _, _, .ty, e => by simp only [D.py] at e; cases e
  | _, _, _, .exn _ _ _, e => by simp only [D.py] at e; cases e
theorem RepL.dp {K : PySem.W.Frag} {mg : Str → Option Value} {F H : Hp} {ρ : List Addr} (l : ∀ p u, Rd F p u → Rd H p u) : ∀ {vs : List V} {ds : List D} {qs : List PyData}, RepL K mg F ρ vs ds → D.pys ds = some qs → DpAll K H vs qs
  | _, _, _, .nil, e => by simp only [D.pys] at e; cases e; exact .nil
  | _, _, _, .cons (d := d) (ds := ds) h t, e => by
    simp only [D.pys] at e
    cases e1 : D.py d with
    | none => simp only [e1] at e; cases e
    | some a =>
      cases e2 : D.pys ds with
      | none => simp only [e1, e2] at e; cases e
      | some r =>
        simp only [e1, e2] at e
        cases e
        exact .cons (Rep.dp l h e1) (RepL.dp l t e2)
end
theorem Bor.dp {Z F H : Hp} {ρ : List Addr} {μ : Mem} {δ : Loc} {σ : St} {v : V} {d : D} {q : PyData} (S : Sim X.K X.mg Z F ρ μ δ σ H) (h : Bor X.K X.mg F ρ H v d) (e : D.py d = some q) : Dp X.K H v q := by
  cases h with
  | fr h => exact h.dp (fun _ _ => S.rd) e
  | @own p o h =>
    cases o with
    | dct ks vs => simp only [Own.d, D.py] at e; cases e
    | lst xs =>
      simp only [Own.d, D.py] at e
      obtain ⟨qs, e1, e2⟩ := Option.map_eq_some_iff.mp e
      subst e2
      obtain ⟨vs, eh, r⟩ := h
      exact .lst (.inl (.inl eh)) (r.dp (fun _ _ => S.rd) e1)
theorem eqS_V {F H : Hp} {ρ : List Addr} {x y : V} {dx dy : D} {b : Bool} (bx : Bor X.K X.mg F ρ H x dx) (bY : Bor X.K X.mg F ρ H y dy) (e : eqS dx dy = some b) : scal x y = true ∧ decide (x = y) = b := by
  unfold eqS at e
  cases dx <;> cases dy <;> first | (cases e; done) | skip
  all_goals cases e
  all_goals first
    | (cases bx.non; cases bY.non; exact ⟨rfl, rfl⟩)
    | (cases bx.non; cases bY.bl; exact ⟨rfl, rfl⟩)
    | (cases bx.bl; cases bY.non; exact ⟨rfl, rfl⟩)
    | (cases bx.non; cases bY.int; exact ⟨rfl, rfl⟩)
    | (cases bx.int; cases bY.non; exact ⟨rfl, rfl⟩)
    | (cases bx.non; cases bY.str; exact ⟨rfl, rfl⟩)
    | (cases bx.str; cases bY.non; exact ⟨rfl, rfl⟩)
    | (cases bx.int; cases bY.str; exact ⟨rfl, rfl⟩)
    | (cases bx.str; cases bY.int; exact ⟨rfl, rfl⟩)
    | (cases bx.bl; cases bY.str; exact ⟨rfl, rfl⟩)
    | (cases bx.str; cases bY.bl; exact ⟨rfl, rfl⟩)
    | (cases bx.bl; cases bY.bl; exact ⟨rfl, by simp⟩)
    | (cases bx.int; cases bY.int; exact ⟨rfl, by simp⟩)
    | (cases bx.str; cases bY.str
       refine ⟨rfl, ?_⟩
       rename_i i j
       by_cases q : i = j
       · subst q; simp
       · have n : ¬ (V.str (toS i) = V.str (toS j)) := fun z => q (toS_inj (by injection z))
         rw [decide_eq_false n, decide_eq_false q])
theorem j_eqN (neg : Bool) : R2J X (fun x y H Q => scal x y = true ∧ Q (.bl (decide (x = y) != neg)) H) (fun x y => (eqS x y).map fun b => tb (b != neg)) := by
  refine r2_flat fun F ρ H x y dx dy s Q bx bY e => ?_
  obtain ⟨b, e1, e2⟩ := Option.map_eq_some_iff.mp e
  obtain ⟨h1, h2⟩ := eqS_V bx bY e1
  subst e2 h2
  exact ⟨_, fun q => ⟨h1, q⟩, _, rfl, fun _ _ => .bl⟩
theorem j_eqD (neg : Bool) : R2J X (fun x y H Q => ∃ d e, Dp X.K H x d ∧ Dp X.K H y e ∧ SeqAt.shaped d = true ∧ SeqAt.shaped e = true ∧ Q (.bl (PyData.eqv d e != neg)) H) (fun x y => (eqP x y).map fun b => tb (b != neg)) := by
  intro Z F ρ μ δ σ H x y dx dy s Q S bx bY e q
  obtain ⟨b, e1, e2⟩ := Option.map_eq_some_iff.mp e
  subst e2
  unfold eqP at e1
  cases p1 : D.py dx with
  | none => simp only [p1] at e1; cases e1
  | some a =>
    cases p2 : D.py dy with
    | none => simp only [p1, p2] at e1; cases e1
    | some c =>
      simp only [p1, p2] at e1
      by_cases hs : (SeqAt.shaped a && SeqAt.shaped c) = true
      · rw [if_pos hs] at e1
        cases e1
        have hs' := Bool.and_eq_true_iff.mp hs
        exact ⟨a, c, bx.dp S p1, bY.dp S p2, hs'.1, hs'.2, q _ H F .refl S .bl⟩
      · rw [if_neg hs] at e1; cases e1
theorem j_eq : R2J X (rEqA X.K) (gEq false) := by
  have h := R2J.or (j_eqN (X := X) false) (j_eqD false)
  have e : gEq false = fun x y => ((eqS x y).map fun b => tb b).or ((eqP x y).map fun b => tb b) := by
    funext x y; unfold gEq; simp only [Bool.bne_false]
  rw [e]
  simp only [Bool.bne_false] at h
  exact h
theorem j_ne : R2J X (rNeA X.K) (gEq true) := by
  have h := R2J.or (j_eqN (X := X) true) (j_eqD true)
  have e : gEq true = fun x y => ((eqS x y).map fun b => tb (!b)).or ((eqP x y).map fun b => tb (!b)) := by
    funext x y; unfold gEq; simp only [Bool.bne_true]
  rw [e]
  simp only [Bool.bne_true] at h
  exact h
/-! ### is None -/
def gIsN (neg : Bool) : D → D → Option Slot
  | .non, .non => some (tb (true != neg))
  | .glo _, .non => none
  | _, .non => some (tb (false != neg))
  | _, _ => none
theorem isN_V {F H : Hp} {ρ : List Addr} {x : V} {dx : D} (bx : Bor X.K X.mg F ρ H x dx) (ng : ∀ g, dx ≠ .glo g) : decide (x = V.non) = match dx with | .non => true | _ => false := by
  cases bx with
  | fr h => cases h <;> first | rfl | exact absurd rfl (ng _)
  | @own p o h => cases o <;> rfl
theorem j_isN (neg : Bool) : R2J X (fun x y H Q => y = V.non ∧ Q (.bl (decide (x = .non) != neg)) H) (gIsN neg) := by
  refine r2_flat fun F ρ H x y dx dy s Q bx bY e => ?_
  unfold gIsN at e
  cases dy <;> first | (cases dx <;> cases e; done) | skip
  cases bY.non
  cases dx <;> first | (cases e; done) | skip
  all_goals
    have h := isN_V bx (fun g z => by cases z)
    cases e
    rw [h]
    exact ⟨_, fun q => ⟨rfl, q⟩, _, rfl, fun _ _ => .bl⟩
theorem o_isN : OpR X (compareOp .Is) (fun x y H Q => y = V.non ∧ Q (.bl (decide (x = .non) != false)) H) := by simpa only [Bool.bne_false] using op_isN (X := X)
theorem o_notN : OpR X (compareOp .IsNot) (fun x y H Q => y = V.non ∧ Q (.bl (decide (x = .non) != true)) H) := by simpa only [Bool.bne_true] using op_notN (X := X)
/-! ### in -/
def gInS (neg : Bool) : D → D → Option Slot
  | .str [c], .str y => some (tb (decide (c ∈ y) != neg))
  | _, _ => none
theorem j_inS (neg : Bool) : R2J X (fun x y H Q => ∃ (c : Nat) (z : Str), x = .str ⟨#[c]⟩ ∧ y = .str z ∧ Q (.bl (decide (c ∈ z.cps.toList) != neg)) H) (gInS neg) := by
  refine r2_flat fun F ρ H x y dx dy s Q bx bY e => ?_
  unfold gInS at e
  cases dx <;> first | (cases e; done) | skip
  rename_i xs
  cases xs with
  | nil => cases e
  | cons c r =>
    cases r with
    | cons _ _ => cases e
    | nil =>
      cases dy <;> first | (cases e; done) | skip
      cases bx.str
      cases bY.str
      cases e
      exact ⟨_, fun q => ⟨c, _, rfl, rfl, q⟩, _, rfl, fun _ _ => .bl⟩
def D.fv : D → Option V
  | .non => some .non
  | .bl b => some (.bl b)
  | .int i => some (.int i)
  | .str x => some (.str (toS x))
  | _ => none
def fvs : List D → Option (List V)
  | [] => some []
  | x :: xs => match D.fv x, fvs xs with
    | some a, some r => some (a :: r)
    | _, _ => none
def gInL (neg : Bool) : D → D → Option Slot := fun x y => match D.fv x, (match y with | .lst ys => fvs ys | .tup ys => fvs ys | _ => none) with
  | some a, some vs => some (tb (inV a vs != neg))
  | _, _ => none
theorem Bor.fv {F H : Hp} {ρ : List Addr} {x w : V} {d : D} (h : Bor X.K X.mg F ρ H x d) (e : D.fv d = some w) : x = w ∧ flatV w = true := by
  cases d <;> first | (cases e; done) | skip
  · cases e; exact ⟨h.non, rfl⟩
  · cases e; exact ⟨h.bl, rfl⟩
  · cases e; exact ⟨h.int, rfl⟩
  · cases e; exact ⟨h.str, rfl⟩
theorem RepL.fvs {F : Hp} {ρ : List Addr} : ∀ {vs ws : List V} {ds : List D}, RepL X.K X.mg F ρ vs ds → fvs ds = some ws → vs = ws ∧ ws.all flatV = true := by
  intro vs ws ds
  induction ds generalizing vs ws with
  | nil => intro h e; cases h; cases e; exact ⟨rfl, rfl⟩
  | cons d ds ih =>
    intro h e
    cases h with
    | cons h t =>
      unfold FL.fvs at e
      cases e1 : D.fv d with
      | none => simp only [e1] at e; cases e
      | some a =>
        cases e2 : FL.fvs ds with
        | none => simp only [e1, e2] at e; cases e
        | some r =>
          simp only [e1, e2] at e
          cases e
          obtain ⟨h1, h2⟩ := ih t e2
          obtain ⟨h3, h4⟩ := Bor.fv (X := X) (H := F) (.fr h) e1
          exact ⟨by rw [h1, h3], by rw [List.all_cons, h4, h2]; rfl⟩
theorem j_inL (neg : Bool) : R2J X (rIn X.K neg) (gInL neg) := by
  intro Z F ρ μ δ σ H x y dx dy s Q S bx bY e q
  unfold gInL at e
  cases e1 : D.fv dx with
  | none => simp only [e1] at e; cases e
  | some a =>
    obtain ⟨rfl, fa⟩ := bx.fv e1
    have fin : ∀ {vs : List V} {ds : List D} {ws : List V}, RepL X.K X.mg F ρ vs ds → fvs ds = some ws → s = tb (inV x ws != neg) → x = x → ∀ p, y = .ref p → (SqL X.K H p vs ∨ SqT X.K H p vs) → rIn X.K neg x y H Q := by
      intro vs ds ws r e2 es _ p ey hq
      obtain ⟨rfl, f2⟩ := r.fvs e2
      refine ⟨p, vs, ey, hq, fa, f2, ?_⟩
      have qq := q (.bl (inV x vs != neg)) H F .refl S (by rw [es]; exact .bl)
      cases neg with
      | true => rw [if_pos rfl]; simpa only [Bool.bne_true] using qq
      | false => rw [if_neg Bool.false_ne_true]; simpa only [Bool.bne_false] using qq
    cases dy <;> first | (simp only [e1] at e; cases e; done) | skip
    · rename_i ys
      cases e2 : fvs ys with
      | none => simp only [e1, e2] at e; cases e
      | some ws =>
        simp only [e1, e2] at e
        obtain ⟨p, vs, ey, hl, r⟩ := bY.lst S
        exact fin r e2 (by injection e with e; exact e.symm) rfl p ey (.inl (.of hl))
    · rename_i ys
      cases e2 : fvs ys with
      | none => simp only [e1, e2] at e; cases e
      | some ws =>
        simp only [e1, e2] at e
        obtain ⟨p, vs, ey, hl, r⟩ := bY.tup S
        exact fin r e2 (by injection e with e; exact e.symm) rfl p ey (.inr hl)
def gIn (neg : Bool) : D → D → Option Slot := fun x y => (gInS neg x y).or (gInL neg x y)
abbrev rInA (K : PySem.W.Frag) (neg : Bool) : R2 := fun x y H Q => (∃ (c : Nat) (z : Str), x = .str ⟨#[c]⟩ ∧ y = .str z ∧ Q (.bl (decide (c ∈ z.cps.toList) != neg)) H) ∨ rIn K neg x y H Q
theorem o_in : OpR X (compareOp .In) (rInA X.K false) := OpR.or (by simpa only [Bool.bne_false] using op_in_sign (X := X)) op_in_seq
theorem o_nin : OpR X (compareOp .NotIn) (rInA X.K true) := OpR.or (by simpa only [Bool.bne_true] using op_notIn_sign (X := X)) op_notIn_seq
theorem j_in (neg : Bool) : R2J X (rInA X.K neg) (gIn neg) := R2J.or (j_inS neg) (j_inL neg)
/-! ### items -/
def gIxL : D → D → Option Slot
  | .lst x, .int i => (atI x i).map .fr
  | .tup x, .int i => (atI x i).map .fr
  | .ro x, .int i => (atI x i).map .fr
  | .str x, .int i => if x.length ≤ 16777216 then (atI x i).map fun c => .fr (.str [c]) else none
  | _, _ => none
theorem RepL.atI {F : Hp} {ρ : List Addr} {vs : List V} {ds : List D} {i : Int} {d : D} (r : RepL X.K X.mg F ρ vs ds) (e : L2.atI ds i = some d) : ∃ v, L2.atI vs i = some v ∧ Rep X.K X.mg F ρ v d := by
  unfold L2.atI at e ⊢
  rw [r.len]
  cases h : ixN ds.length i with
  | none => rw [h] at e; cases e
  | some j =>
    rw [h] at e
    exact r.get e
theorem j_ix : R2J X (rIx X.K) gIxL := by
  intro Z F ρ μ δ σ H x y dx dy s Q S bx bY e q
  unfold gIxL at e
  cases dx <;> cases dy <;> first | (cases e; done) | skip
  · rename_i x i
    cases bx.str
    cases bY.int
    by_cases hz : x.length ≤ 16777216
    · simp only [hz, if_true] at e
      obtain ⟨c, e1, e2⟩ := Option.map_eq_some_iff.mp e
      subst e2
      exact .inr (.inr ⟨_, _, c, rfl, rfl, by rw [toS_len, line_eq]; exact hz, e1, q _ H F .refl S ⟨Rep.str (x := [c]), fun o p z => by cases z⟩⟩)
    · simp only [hz] at e; cases e
  · rename_i x i
    obtain ⟨d, e1, e2⟩ := Option.map_eq_some_iff.mp e
    subst e2
    cases bY.int
    obtain ⟨p, vs, rfl, hl, r⟩ := bx.lst S
    obtain ⟨v, ev, rv⟩ := r.atI e1
    exact .inl ⟨p, vs, _, v, rfl, rfl, .of hl, ev, q _ H F .refl S ⟨rv, fun o p z => by cases z⟩⟩
  · rename_i x i
    obtain ⟨d, e1, e2⟩ := Option.map_eq_some_iff.mp e
    subst e2
    cases bY.int
    obtain ⟨p, vs, rfl, hl, r⟩ := bx.tup S
    obtain ⟨v, ev, rv⟩ := r.atI e1
    exact .inr (.inl ⟨p, vs, _, v, rfl, rfl, hl, ev, q _ H F .refl S ⟨rv, fun o p z => by cases z⟩⟩)
  · rename_i x i
    obtain ⟨d, e1, e2⟩ := Option.map_eq_some_iff.mp e
    subst e2
    cases bY.int
    obtain ⟨p, vs, rfl, hl, r⟩ := bx.ro S
    obtain ⟨v, ev, rv⟩ := r.atI e1
    exact .inl ⟨p, vs, _, v, rfl, rfl, hl, ev, q _ H F .refl S ⟨rv, fun o p z => by cases z⟩⟩
end
end FL

/-! Part D: calls of built-in functions and types, methods of built-in types, slices. -/
namespace FL
open PySem L2

section
variable {X : Cx} {W : WX} {e a b o : Expr} {es : List Expr} {pos p apos : Pos}
/-! ### calls -/
def RLJ (X : Cx) (r : List V → Hp → VK → Prop) (g : List D → Option Slot) : Prop := ∀ Z F ρ μ δ σ H xs ds s Q, Sim X.K X.mg Z F ρ μ δ σ H → BorL X.K X.mg F ρ H xs ds → g ds = some s →
  (∀ v H' F', Le Z F F' → Sim X.K X.mg Z F' ρ μ δ σ H' → VR X.K X.mg Z F' ρ δ σ H' v s → Q v H') → r xs H Q
def mC (g : List D → Option Slot) (os : List Opn) : ME := fun δ μ => (evs os δ μ).bind fun rs δ1 μ1 => match OR.ats δ1 μ1 rs with
  | some ds => lift (g ds) δ1 μ1
  | none => .bad
theorem mC_read {r : List V → Hp → VK → Prop} {g : List D → Option Slot} {os : List Opn} (hr : RLJ X r g) : ∀ σ H Q, rdE X W (mC g os) σ H Q → tCB r (rdOs X W os) σ H Q := by
  intro σ H Q ⟨Z, F, ρ, μ, δ, S, q⟩
  refine ⟨Z, F, ρ, μ, δ, S, (FinE.bind q).imp fun rs δ1 μ1 H1 F1 ρ1 l lr S1 ⟨_, _, _, p⟩ xs hx => ?_⟩
  cases ea : OR.ats δ1 μ1 rs with
  | none => simp only [ea] at p; exact p.elim
  | some ds =>
    simp only [ea] at p
    unfold lift at p
    cases eg : g ds with
    | none => simp only [eg] at p; exact p.elim
    | some s =>
      simp only [eg] at p
      exact hr Z F1 ρ1 μ1 δ1 σ H1 xs ds s Q S1 (hx.bor S1 ea) eg fun v H' F' l' S' vr => p H' F' ρ1 l' .refl S' v vr
theorem je_callB {x : Str} {id : String} {r : List V → Hp → VK → Prop} {g : List D → Option Slot} {os : List Opn} (hc : CallR X (.builtin id) r) (hr : RLJ X r g) (hg : Gl X x) (hm : X.mg x = none) (hv : bootBuiltins x = some (.builtin id)) (ha : JOs X W (e :: es) os)
    (hn : x ≠ "__name__" := by decide) (hdb : (x == ("__debug__" : Str)) = false := by decide)
    (he : starEach (e :: es) X.env = (false, eval e X.env) :: starEach es X.env := by rfl) (hpl : (backTo pos (starEach es X.env)).any (·.1) = false := by rfl) : JE X W (.Call (.Name x p) (e :: es) [] pos) (mC g os) :=
  (pe_callB hc hg hm hv ha hn hdb he hpl).imp (mC_read hr)
theorem je_callTy {x : Str} {T : String} {r : List V → Hp → VK → Prop} {g : List D → Option Slot} {os : List Opn} (hc : CallR X (.type T) r) (hr : RLJ X r g) (hg : Gl X x) (hm : X.mg x = none) (hv : bootBuiltins x = some (.type T)) (ha : JOs X W (e :: es) os)
    (hn : x ≠ "__name__" := by decide) (hdb : (x == ("__debug__" : Str)) = false := by decide)
    (he : starEach (e :: es) X.env = (false, eval e X.env) :: starEach es X.env := by rfl) (hpl : (backTo pos (starEach es X.env)).any (·.1) = false := by rfl) : JE X W (.Call (.Name x p) (e :: es) [] pos) (mC g os) :=
  (pe_callTy hc hg hm hv ha hn hdb he hpl).imp (mC_read hr)
/-- the name of a built-in type, as a value -/
theorem je_ty {x : Str} {T : String} (hg : Gl X x) (hm : X.mg x = none) (hv : bootBuiltins x = some (.type T)) (hn : x ≠ "__name__" := by decide) (hdb : (x == ("__debug__" : Str)) = false := by decide) : JE X W (.Name x pos) (mD (.ty T)) :=
  je_c (pe_bltn hg hm hv (v := .ty T) rfl hn hdb) fun _ _ => .ty
theorem RLJ.or {r r' : List V → Hp → VK → Prop} {g g' : List D → Option Slot} (h : RLJ X r g) (h' : RLJ X r' g') : RLJ X (fun x H Q => r x H Q ∨ r' x H Q) (fun x => (g x).or (g' x)) := by
  intro Z F ρ μ δ σ H xs ds s Q S b e q
  have e : (g ds).or (g' ds) = some s := e
  cases eg : g ds with
  | some s' => rw [eg] at e; exact .inl (h Z F ρ μ δ σ H xs ds s Q S b (by rw [eg]; exact e) q)
  | none => rw [eg] at e; exact .inr (h' Z F ρ μ δ σ H xs ds s Q S b e q)
theorem BorL.one {F H : Hp} {ρ : List Addr} {xs : List V} {d : D} (h : BorL X.K X.mg F ρ H xs [d]) : ∃ v, xs = [v] ∧ Bor X.K X.mg F ρ H v d := by
  cases h with
  | cons h t => cases t; exact ⟨_, rfl, h⟩
theorem BorL.two {F H : Hp} {ρ : List Addr} {xs : List V} {d d' : D} (h : BorL X.K X.mg F ρ H xs [d, d']) : ∃ v w, xs = [v, w] ∧ Bor X.K X.mg F ρ H v d ∧ Bor X.K X.mg F ρ H w d' := by
  cases h with
  | cons h t => obtain ⟨w, rfl, h'⟩ := t.one; exact ⟨_, w, rfl, h, h'⟩
/-- one argument, a value that is no object comes back -/
theorem rl1_flat {r : List V → Hp → VK → Prop} {g : D → Option Slot} (h : ∀ Z F ρ μ δ σ H x dx s Q, Sim X.K X.mg Z F ρ μ δ σ H → Bor X.K X.mg F ρ H x dx → g dx = some s → ∃ v, (Q v H → r [x] H Q) ∧ ∃ d, s = .fr d ∧ Rep X.K X.mg F ρ v d) :
    RLJ X r (fun ds => match ds with | [d] => g d | _ => none) := by
  intro Z F ρ μ δ σ H xs ds s Q S b e q
  cases ds with
  | nil => cases e
  | cons d r' =>
    cases r' with
    | cons _ _ => cases e
    | nil =>
      obtain ⟨v, rfl, hb⟩ := b.one
      obtain ⟨w, h1, d', rfl, h2⟩ := h Z F ρ μ δ σ H v d s Q S hb e
      exact h1 (q w H F .refl S ⟨h2, fun o p z => by cases z⟩)
/-- len -/
def gLen1 : D → Option Slot
  | .str x => if x.length ≤ 16777216 then some (.fr (.int x.length)) else none
  | .lst x => some (.fr (.int x.length))
  | .tup x => some (.fr (.int x.length))
  | .ro x => some (.fr (.int x.length))
  | _ => none
def gLen : List D → Option Slot := fun ds => match ds with
  | [d] => gLen1 d
  | _ => none
abbrev rLen (K : PySem.W.Frag) : List V → Hp → VK → Prop := fun xs H Q => ∃ x n, xs = [x] ∧ LenV K x H n ∧ Q (.int n) H
theorem j_len : RLJ X (rLen X.K) gLen := rl1_flat fun Z F ρ μ δ σ H x dx s Q S b e => by
  unfold gLen1 at e
  cases dx <;> first | (cases e; done) | skip
  · rename_i t
    cases b.str
    by_cases hz : t.length ≤ 16777216
    · simp only [hz, if_true] at e
      cases e
      exact ⟨.int (toS t).length, fun q => ⟨_, _, rfl, ⟨by rw [toS_len, line_eq]; exact hz, rfl⟩, q⟩, _, rfl, by rw [toS_len]; exact .int⟩
    · simp only [hz] at e; cases e
  · cases e
    obtain ⟨p, vs, rfl, h, r⟩ := b.lst S
    exact ⟨.int vs.length, fun q => ⟨_, _, rfl, .inl ⟨vs, .of h, rfl⟩, q⟩, _, rfl, by rw [r.len]; exact .int⟩
  · cases e
    obtain ⟨p, vs, rfl, h, r⟩ := b.tup S
    exact ⟨.int vs.length, fun q => ⟨_, _, rfl, .inr ⟨vs, h, rfl⟩, q⟩, _, rfl, by rw [r.len]; exact .int⟩
  · cases e
    obtain ⟨p, vs, rfl, h, r⟩ := b.ro S
    exact ⟨.int vs.length, fun q => ⟨_, _, rfl, .inl ⟨vs, h, rfl⟩, q⟩, _, rfl, by rw [r.len]; exact .int⟩
theorem o_len : CallR X (.builtin "len") (rLen X.K) := call_len
/-- max, min of two -/
def gMax2 : List D → Option Slot
  | [.int i, .int j] => some (.fr (.int (if j > i then j else i)))
  | _ => none
def gMin2 : List D → Option Slot
  | [.int i, .int j] => some (.fr (.int (if j < i then j else i)))
  | _ => none
theorem rl_ii {f : Int → Int → Int} {g : List D → Option Slot} (hg : ∀ ds s, g ds = some s → ∃ i j, ds = [.int i, .int j] ∧ s = .fr (.int (f i j))) : RLJ X (fun xs H Q => ∃ i j, xs = [.int i, .int j] ∧ Q (.int (f i j)) H) g := by
  intro Z F ρ μ δ σ H xs ds s Q S b e q
  obtain ⟨i, j, rfl, rfl⟩ := hg ds s e
  obtain ⟨v, w, rfl, h1, h2⟩ := b.two
  cases h1.int
  cases h2.int
  exact ⟨i, j, rfl, q _ H F .refl S ⟨.int, fun o p z => by cases z⟩⟩
theorem j_max2 : RLJ X (fun xs H Q => ∃ i j, xs = [V.int i, V.int j] ∧ Q (.int (if j > i then j else i)) H) gMax2 := rl_ii (f := fun i j => if j > i then j else i) fun ds s e => by
  unfold gMax2 at e
  split at e
  · cases e; exact ⟨_, _, rfl, rfl⟩
  · cases e
theorem j_min2 : RLJ X (fun xs H Q => ∃ i j, xs = [V.int i, V.int j] ∧ Q (.int (if j < i then j else i)) H) gMin2 := rl_ii (f := fun i j => if j < i then j else i) fun ds s e => by
  unfold gMin2 at e
  split at e
  · cases e; exact ⟨_, _, rfl, rfl⟩
  · cases e
/-- abs -/
def gAbs : List D → Option Slot := fun ds => match ds with
  | [d] => match d with
    | .int i => some (.fr (.int (if i < 0 then -i else i)))
    | _ => none
  | _ => none
theorem j_abs : RLJ X (fun xs H Q => ∃ i, xs = [V.int i] ∧ Q (.int (if i < 0 then -i else i)) H) gAbs :=
  rl1_flat (g := fun d => match d with | .int i => some (.fr (.int (if i < 0 then -i else i))) | _ => none) fun Z F ρ μ δ σ H x dx s Q S b e => by
    cases dx <;> first | (cases e; done) | skip
    cases b.int
    cases e
    exact ⟨_, fun q => ⟨_, rfl, q⟩, _, rfl, .int⟩
/-- sum of whole numbers -/
def intsD : List D → Option (List Int)
  | [] => some []
  | .int i :: r => (intsD r).map (i :: ·)
  | _ :: _ => none
theorem intsD_map : ∀ {ds : List D} {ns : List Int}, intsD ds = some ns → ds = ns.map .int
  | [], ns, e => by cases e; rfl
  | d :: r, ns, e => by
    cases d <;> first | (cases e; done) | skip
    rename_i i
    unfold intsD at e
    obtain ⟨m, e1, e2⟩ := Option.map_eq_some_iff.mp e
    subst e2
    rw [intsD_map e1]; rfl
theorem intsD_of : ∀ ns : List Int, intsD (ns.map .int) = some ns
  | [] => rfl
  | n :: ns => by show (intsD (ns.map D.int)).map (n :: ·) = _; rw [intsD_of ns]; rfl
def gSum : List D → Option Slot := fun ds => match ds with
  | [d] => match d with
    | .lst xs => (intsD xs).map fun ns => .fr (.int ns.sum)
    | _ => none
  | _ => none
theorem j_sum : RLJ X (rSum X.K) gSum :=
  rl1_flat (g := fun d => match d with | .lst xs => (intsD xs).map fun ns => .fr (.int ns.sum) | _ => none) fun Z F ρ μ δ σ H x dx s Q S b e => by
    cases dx <;> first | (cases e; done) | skip
    obtain ⟨ns, e1, e2⟩ := Option.map_eq_some_iff.mp e
    subst e2
    obtain ⟨p, vs, rfl, h, r⟩ := b.lst S
    rw [intsD_map e1] at r
    have ev := r.ints
    subst ev
    exact ⟨_, fun q => ⟨p, ns, rfl, .of h, q⟩, _, rfl, .int⟩
/-- all, any of truth values -/
def blsD : List D → Option (List Bool)
  | [] => some []
  | .bl i :: r => (blsD r).map (i :: ·)
  | _ :: _ => none
theorem blsD_map : ∀ {ds : List D} {ns : List Bool}, blsD ds = some ns → ds = ns.map .bl
  | [], ns, e => by cases e; rfl
  | d :: r, ns, e => by
    cases d <;> first | (cases e; done) | skip
    rename_i i
    unfold blsD at e
    obtain ⟨m, e1, e2⟩ := Option.map_eq_some_iff.mp e
    subst e2
    rw [blsD_map e1]; rfl
theorem blsD_of : ∀ ns : List Bool, blsD (ns.map .bl) = some ns
  | [] => rfl
  | n :: ns => by show (blsD (ns.map D.bl)).map (n :: ·) = _; rw [blsD_of ns]; rfl
def gAll : List D → Option Slot := fun ds => match ds with
  | [d] => match d with
    | .lst xs => (blsD xs).map fun ns => .fr (.bl (ns.all id))
    | _ => none
  | _ => none
def gAny : List D → Option Slot := fun ds => match ds with
  | [d] => match d with
    | .lst xs => (blsD xs).map fun ns => .fr (.bl (ns.any id))
    | _ => none
  | _ => none
theorem j_all : RLJ X (rAll X.K) gAll :=
  rl1_flat (g := fun d => match d with | .lst xs => (blsD xs).map fun ns => .fr (.bl (ns.all id)) | _ => none) fun Z F ρ μ δ σ H x dx s Q S b e => by
    cases dx <;> first | (cases e; done) | skip
    obtain ⟨ns, e1, e2⟩ := Option.map_eq_some_iff.mp e
    subst e2
    obtain ⟨p, vs, rfl, h, r⟩ := b.lst S
    rw [blsD_map e1] at r
    have ev := r.bls
    subst ev
    exact ⟨_, fun q => ⟨p, ns, rfl, .of h, q⟩, _, rfl, .bl⟩
theorem j_any : RLJ X (rAny X.K) gAny :=
  rl1_flat (g := fun d => match d with | .lst xs => (blsD xs).map fun ns => .fr (.bl (ns.any id)) | _ => none) fun Z F ρ μ δ σ H x dx s Q S b e => by
    cases dx <;> first | (cases e; done) | skip
    obtain ⟨ns, e1, e2⟩ := Option.map_eq_some_iff.mp e
    subst e2
    obtain ⟨p, vs, rfl, h, r⟩ := b.lst S
    rw [blsD_map e1] at r
    have ev := r.bls
    subst ev
    exact ⟨_, fun q => ⟨p, ns, rfl, .of h, q⟩, _, rfl, .bl⟩
/-- list(x), tuple(x) -/
def gList : List D → Option Slot
  | [.lst xs] => some (.own (.lst xs))
  | [.tup xs] => some (.own (.lst xs))
  | [.ro xs] => some (.own (.lst xs))
  | _ => none
abbrev rList (K : PySem.W.Frag) : List V → Hp → VK → Prop := fun xs H Q => ∃ p ys, xs = [.ref p] ∧ (SqL K H p ys ∨ SqT K H p ys) ∧ ∀ l, H l = none → Q (.ref l) (upd H l (.lst ys))
theorem j_list : RLJ X (rList X.K) gList := by
  intro Z F ρ μ δ σ H xs ds s Q S b e q
  unfold gList at e
  split at e
  · cases e
    obtain ⟨v, rfl, hb⟩ := b.one
    obtain ⟨p, vs, rfl, h, r⟩ := hb.lst S
    refine ⟨p, vs, rfl, .inl (.of h), fun l hl => ?_⟩
    obtain ⟨S', vr⟩ := vr_newL S hl r
    exact q _ _ F .refl S' vr
  · cases e
    obtain ⟨v, rfl, hb⟩ := b.one
    obtain ⟨p, vs, rfl, h, r⟩ := hb.tup S
    refine ⟨p, vs, rfl, .inr h, fun l hl => ?_⟩
    obtain ⟨S', vr⟩ := vr_newL S hl r
    exact q _ _ F .refl S' vr
  · cases e
    obtain ⟨v, rfl, hb⟩ := b.one
    obtain ⟨p, vs, rfl, h, r⟩ := hb.ro S
    refine ⟨p, vs, rfl, .inl h, fun l hl => ?_⟩
    obtain ⟨S', vr⟩ := vr_newL S hl r
    exact q _ _ F .refl S' vr
  · cases e
theorem o_list : CallR X (.type "list") (rList X.K) := call_list_of
def gTuple : List D → Option Slot
  | [.lst xs] => some (.fr (.tup xs))
  | [.tup xs] => some (.fr (.tup xs))
  | _ => none
abbrev rTuple (K : PySem.W.Frag) : List V → Hp → VK → Prop := fun xs H Q => ∃ p ys, xs = [.ref p] ∧ ((SqL K H p ys ∧ ∀ l, H l = none → Q (.ref l) (upd H l (.tup ys))) ∨ (SqT K H p ys ∧ Q (.ref p) H))
theorem j_tuple : RLJ X (rTuple X.K) gTuple := by
  intro Z F ρ μ δ σ H xs ds s Q S b e q
  unfold gTuple at e
  split at e
  · cases e
    obtain ⟨v, rfl, hb⟩ := b.one
    obtain ⟨p, vs, rfl, h, r⟩ := hb.lst S
    refine ⟨p, vs, rfl, .inl ⟨.of h, fun l hl => ?_⟩⟩
    obtain ⟨F', l', S', vr⟩ := vr_newT S hl r
    exact q _ _ F' l' S' vr
  · cases e
    obtain ⟨v, rfl, hb⟩ := b.one
    have rp := hb.rep fun o e => by cases o <;> cases e
    obtain ⟨p, vs, rfl, h, r⟩ := hb.tup S
    exact ⟨p, vs, rfl, .inr ⟨h, q _ H F .refl S ⟨rp, fun o p z => by cases z⟩⟩⟩
  · cases e
theorem o_tuple : CallR X (.type "tuple") (rTuple X.K) := call_tuple_of
/-- isinstance(x, T), T a built-in type -/
def tyN : D → Option String
  | .non => some "NoneType"
  | .bl _ => some "bool"
  | .int _ => some "int"
  | .str _ => some "str"
  | .lst _ => some "list"
  | .tup _ => some "tuple"
  | .dct _ _ => some "dict"
  | _ => none
def gIsi : List D → Option Slot
  | [d, .ty T] => match tyN d with
    | some t => (kitB t T).map fun b => tb b
    | none => none
  | _ => none
theorem Bor.ty {F H : Hp} {ρ : List Addr} {v : V} {T : String} (h : Bor X.K X.mg F ρ H v (.ty T)) : v = .ty T := by
  cases h.rep (fun o e => by cases o <;> cases e)
  rfl
theorem tyX_tup {H : Hp} {p : Addr} {vs : List V} (h : SqT X.K H p vs) : TyX X.K H (.ref p) (.type "tuple") := by
  rcases h with (h | ⟨ob, h⟩) | ⟨o, its, n, hk, hc, _⟩
  · exact .base (.tup h)
  · exact .fTuple h
  · exact .kTuple hk hc
theorem tyX_of {Z F H : Hp} {ρ : List Addr} {μ : Mem} {δ : Loc} {σ : St} {v : V} {d : D} {t : String} (S : Sim X.K X.mg Z F ρ μ δ σ H) (h : Bor X.K X.mg F ρ H v d) (e : tyN d = some t) : TyX X.K H v (.type t) := by
  cases d <;> first | (cases e; done) | skip
  · cases e; cases h.non; exact .base .non
  · cases e; cases h.bl; exact .base (.bl _)
  · cases e; cases h.int; exact .base (.int _)
  · cases e; cases h.str; exact .base (.str _)
  · cases e; obtain ⟨p, vs, rfl, q, _⟩ := h.lst S; exact .base (.lst q)
  · cases e; obtain ⟨p, vs, rfl, q, _⟩ := h.tup S; exact tyX_tup q
  · cases e
    obtain ⟨p, vs, rfl, q, _⟩ := h.dct S
    rcases q with q | ⟨ob, q⟩
    · exact .base (.dK q)
    · exact .fDict q
theorem j_isi : RLJ X (rIsi X.K) gIsi := by
  intro Z F ρ μ δ σ H xs ds s Q S b e q
  unfold gIsi at e
  split at e
  · rename_i d T
    cases et : tyN d with
    | none => simp only [et] at e; cases e
    | some t =>
      simp only [et] at e
      obtain ⟨k, e1, e2⟩ := Option.map_eq_some_iff.mp e
      subst e2
      obtain ⟨v, w, rfl, h1, h2⟩ := b.two
      cases h2.ty
      exact ⟨v, _, _, _, k, rfl, .ty T, tyX_of S h1 et, kit_ty e1, q _ H F .refl S .bl⟩
  · cases e
/-- int(x), str(x) -/
def gInt1 : List D → Option Slot
  | [.int i] => some (.fr (.int i))
  | [.bl k] => some (.fr (.int (if k then 1 else 0)))
  | _ => none
abbrev rInt1 : List V → Hp → VK → Prop := fun xs H Q => (∃ i, xs = [.int i] ∧ Q (.int i) H) ∨ ∃ k, xs = [.bl k] ∧ Q (.int (if k then 1 else 0)) H
theorem j_int1 : RLJ X rInt1 gInt1 := by
  intro Z F ρ μ δ σ H xs ds s Q S b e q
  unfold gInt1 at e
  split at e
  · cases e
    obtain ⟨v, rfl, hb⟩ := b.one
    cases hb.int
    exact .inl ⟨_, rfl, q _ H F .refl S ⟨.int, fun o p z => by cases z⟩⟩
  · cases e
    obtain ⟨v, rfl, hb⟩ := b.one
    cases hb.bl
    exact .inr ⟨_, rfl, q _ H F .refl S ⟨.int, fun o p z => by cases z⟩⟩
  · cases e
theorem o_int1 : CallR X (.type "int") rInt1 := call_int1

/-! ### methods -/
def isTy (T : String) : D → Bool
  | .str _ => T == "str"
  | .lst _ => T == "list"
  | _ => false
def RMJ (X : Cx) (r : V → List V → Hp → VK → Prop) (g : D → List D → Option Slot) : Prop := ∀ Z F ρ μ δ σ H x xs dx ds s Q, Sim X.K X.mg Z F ρ μ δ σ H → Bor X.K X.mg F ρ H x dx → BorL X.K X.mg F ρ H xs ds → g dx ds = some s →
  (∀ v H' F', Le Z F F' → Sim X.K X.mg Z F' ρ μ δ σ H' → VR X.K X.mg Z F' ρ δ σ H' v s → Q v H') → r x xs H Q
def mM (T : String) (g : D → List D → Option Slot) (o : Opn) (os : List Opn) : ME := fun δ μ => (o.ev δ μ).bind fun r δ1 μ1 => match r.at δ1 μ1 with
  | some d0 => if isTy T d0 = true then (evs os δ1 μ1).bind fun rs δ2 μ2 => match r.at δ2 μ2, OR.ats δ2 μ2 rs with
      | some d, some ds => lift (g d ds) δ2 μ2
      | _, _ => .bad
    else .bad
  | none => .bad
theorem isTy_V {Z F H : Hp} {ρ : List Addr} {μ : Mem} {δ : Loc} {σ : St} {v : V} {d : D} {T : String} (S : Sim X.K X.mg Z F ρ μ δ σ H) (h : Bor X.K X.mg F ρ H v d) (e : isTy T d = true) : tyV X.K T v H := by
  cases d <;> first | (cases e; done) | skip
  · have e' : (T == "str") = true := e
    cases h.str
    exact beq_iff_eq.mp e'
  · have e' : (T == "list") = true := e
    obtain ⟨p, vs, rfl, q, _⟩ := h.lst S
    exact .inl ⟨beq_iff_eq.mp e', vs, .of q⟩
theorem mM_read {T : String} {r : V → List V → Hp → VK → Prop} {g : D → List D → Option Slot} {oo : Opn} {os : List Opn} (hr : RMJ X r g) : ∀ σ H Q, rdE X W (mM T g oo os) σ H Q → tBM X.K T r (rdO X W oo) (rdOs X W os) σ H Q := by
  intro σ H Q ⟨Z, F, ρ, μ, δ, S, q⟩
  refine ⟨Z, F, ρ, μ, δ, S, (FinE.bind q).imp fun ra δ1 μ1 H1 F1 ρ1 l lr S1 ⟨_, _, _, p⟩ x hx => ?_⟩
  cases e0 : ra.at δ1 μ1 with
  | none => simp only [e0] at p; exact p.elim
  | some d0 =>
    simp only [e0] at p
    by_cases ht : isTy T d0 = true
    · rw [if_pos ht] at p
      refine ⟨isTy_V S1 (hx.bor S1 e0) ht, Z, F1, ρ1, μ1, δ1, S1, p.bind.imp fun rs δ2 μ2 H2 F2 ρ2 l2 lr2 S2 ⟨_, _, _, p2⟩ xs hxs => ?_⟩
      cases ea : ra.at δ2 μ2 with
      | none => simp only [ea] at p2; exact p2.elim
      | some d =>
        cases eb : OR.ats δ2 μ2 rs with
        | none => simp only [ea, eb] at p2; exact p2.elim
        | some ds =>
          simp only [ea, eb] at p2
          unfold lift at p2
          cases eg : g d ds with
          | none => simp only [eg] at p2; exact p2.elim
          | some s =>
            simp only [eg] at p2
            exact hr Z F2 ρ2 μ2 δ2 σ H2 x xs d ds s Q S2 ((hx.up l2 lr2).bor S2 ea) (hxs.bor S2 eb) eg fun v H' F' l' S' vr => p2 H' F' ρ2 l' .refl S' v vr
    · rw [if_neg ht] at p; exact p.elim
/-- o.m(e, ..) of a built-in type that changes nothing -/
theorem je_bm {T id : String} {name : Str} {r : V → List V → Hp → VK → Prop} {g : D → List D → Option Slot} {oo : Opn} {os : List Opn} (pa : PlainAttrs T) (slot : PySem.Slot T name id) (hty : typeOf (.builtin id) = pure (.type "method_descriptor")) (hm : MtR X id r) (hr : RMJ X r g) (ho : JO X W o oo) (ha : JOs X W (e :: es) os)
    (hbase : attributeBase o name X.env (eval o X.env) = eval o X.env := by rfl)
    (hfew : ((backTo pos (starEach (e :: es) X.env)).all (fun x => !x.1) && (backToKw pos (keywordEach [] X.env)).all (fun x => x.1.isSome)
      && decide ((e :: es).length + ([] : List Keyword).length + (if ([] : List Keyword).isEmpty then 0 else 1) < 30)) = true := by rfl)
    (hline : (apos.endLine == pos.line) = true := by rfl) (hs : starEach (e :: es) X.env = (false, eval e X.env) :: starEach es X.env := by rfl) (hplain : (backTo pos (starEach es X.env)).any (·.1) = false := by rfl) :
    JE X W (.Call (.Attribute o name apos) (e :: es) [] pos) (mM T g oo os) :=
  (pe_bm pa slot hty hm ho ha hbase hfew hline hs hplain).imp (mM_read hr)
theorem je_bm0 {T id : String} {name : Str} {r : V → List V → Hp → VK → Prop} {g : D → List D → Option Slot} {oo : Opn} (pa : PlainAttrs T) (slot : PySem.Slot T name id) (hty : typeOf (.builtin id) = pure (.type "method_descriptor")) (hm : MtR X id r) (hr : RMJ X r g) (ho : JO X W o oo)
    (hbase : attributeBase o name X.env (eval o X.env) = eval o X.env := by rfl) (hline : (apos.endLine == pos.line) = true := by rfl) :
    JE X W (.Call (.Attribute o name apos) [] [] pos) (mM T g oo []) := by
  refine (pe_bm0 pa slot hty hm ho hbase hline).imp fun σ H Q h => ?_
  obtain ⟨Z, F, ρ, μ, δ, S, q⟩ := mM_read hr σ H Q h
  refine ⟨Z, F, ρ, μ, δ, S, q.imp fun ra δ1 μ1 H1 F1 ρ1 l lr S1 p x hx => ?_⟩
  obtain ⟨ty, Z2, F2, ρ2, μ2, δ2, S2, q2⟩ := p x hx
  exact ⟨ty, q2 H1 F2 ρ2 .refl .refl S2 [] .nil⟩
/-- texts -/
def gLower : D → List D → Option Slot
  | .str x, [] => if x.all (· < 128) && decide (x.length ≤ 5592405) then some (.fr (.str (x.map PyProof.Rows.lo1))) else none
  | _, _ => none
def gUpper : D → List D → Option Slot
  | .str x, [] => if x.all (· < 128) && decide (x.length ≤ 5592405) then some (.fr (.str (x.map PyProof.Rows.up1))) else none
  | _, _ => none
theorem lower_tx {x : Tx} (h : x.all (· < 128) = true) : Txt.lower (toS x) = toS (x.map PyProof.Rows.lo1) := by
  rw [PyProof.Rows.lower_ascii fun c hc => of_decide_eq_true (List.all_eq_true.mp h c hc)]
  simp [toS]
theorem upper_tx {x : Tx} (h : x.all (· < 128) = true) : Txt.upper (toS x) = toS (x.map PyProof.Rows.up1) := by
  rw [PyProof.Rows.upper_ascii fun c hc => of_decide_eq_true (List.all_eq_true.mp h c hc)]
  simp [toS]
theorem BorL.nil_of {F H : Hp} {ρ : List Addr} {xs : List V} (h : BorL X.K X.mg F ρ H xs []) : xs = [] := by cases h; rfl
theorem j_lower : RMJ X (fun x xs H Q => ∃ a, x = .str a ∧ xs = [] ∧ a.length ≤ 5592405 ∧ Q (.str (Txt.lower a)) H) gLower := by
  intro Z F ρ μ δ σ H x xs dx ds s Q S bx bs e q
  unfold gLower at e
  split at e
  · rename_i t
    by_cases h : (t.all (· < 128) && decide (t.length ≤ 5592405)) = true
    · rw [if_pos h] at e
      cases e
      have h' := Bool.and_eq_true_iff.mp h
      cases bx.str
      exact ⟨_, rfl, bs.nil_of, by rw [toS_len]; exact of_decide_eq_true h'.2, by rw [lower_tx h'.1]; exact q _ H F .refl S ⟨.str, fun o p z => by cases z⟩⟩
    · rw [if_neg h] at e; cases e
  · cases e
theorem j_upper : RMJ X (fun x xs H Q => ∃ a, x = .str a ∧ xs = [] ∧ a.length ≤ 5592405 ∧ Q (.str (Txt.upper a)) H) gUpper := by
  intro Z F ρ μ δ σ H x xs dx ds s Q S bx bs e q
  unfold gUpper at e
  split at e
  · rename_i t
    by_cases h : (t.all (· < 128) && decide (t.length ≤ 5592405)) = true
    · rw [if_pos h] at e
      cases e
      have h' := Bool.and_eq_true_iff.mp h
      cases bx.str
      exact ⟨_, rfl, bs.nil_of, by rw [toS_len]; exact of_decide_eq_true h'.2, by rw [upper_tx h'.1]; exact q _ H F .refl S ⟨.str, fun o p z => by cases z⟩⟩
    · rw [if_neg h] at e; cases e
  · cases e
def strsD : List D → Option (List Tx)
  | [] => some []
  | .str i :: r => (strsD r).map (i :: ·)
  | _ :: _ => none
theorem strsD_map : ∀ {ds : List D} {ns : List Tx}, strsD ds = some ns → ds = ns.map .str
  | [], ns, e => by cases e; rfl
  | d :: r, ns, e => by
    cases d <;> first | (cases e; done) | skip
    rename_i i
    unfold strsD at e
    obtain ⟨m, e1, e2⟩ := Option.map_eq_some_iff.mp e
    subst e2
    rw [strsD_map e1]; rfl
theorem strsD_of : ∀ ns : List Tx, strsD (ns.map .str) = some ns
  | [] => rfl
  | n :: ns => by show (strsD (ns.map D.str)).map (n :: ·) = _; rw [strsD_of ns]; rfl
/-- sep.join(xs) -/
def joinT (sep : Tx) : List Tx → Tx
  | [] => []
  | [x] => x
  | x :: r => x ++ sep ++ joinT sep r
def gJoin : D → List D → Option Slot
  | .str x, [.lst ys] => match strsD ys with
    | some zs => if decide ((zs.map List.length).sum + x.length * zs.length ≤ 16777216) then some (.fr (.str (joinT x zs))) else none
    | none => none
  | .str x, [.tup ys] => match strsD ys with
    | some zs => if decide ((zs.map List.length).sum + x.length * zs.length ≤ 16777216) then some (.fr (.str (joinT x zs))) else none
    | none => none
  | _, _ => none
end
end FL

/-! Part E: statements, loops. -/
namespace FL
open PySem L2

section
variable {K : PySem.W.Frag} {mg : Str → Option Value} {Z F F' : Hp} {ρ ρ' : List Addr} {μ : Mem} {δ : Loc} {σ : St} {H H' : Hp} {p : Addr} {o : HO} {v : V} {s : Slot}
theorem Sim.put {i : Nat} (S : Sim K mg Z F ρ μ δ σ H) (h : VR K mg Z F ρ δ σ H v s) : Sim K mg Z F ρ μ (δ.set i (some s)) (σ.set i (some v)) H := by
  by_cases hi : i < δ.length
  · exact S.store h hi
  · rw [List.set_eq_of_length_le (by omega), List.set_eq_of_length_le (by rw [S.len]; omega)]
    exact S
theorem Sim.drop (S : Sim K mg Z F ρ μ δ σ H) : Sim K mg Z F ρ μ [] [] H :=
  ⟨S.le, S.zk, rfl, fun i s e => by simp at e, fun i j p s s' e => by simp at e, S.mem, S.mlen, S.nod⟩
/-- one more thing is kept as it is -/
theorem Sim.guard (S : Sim K mg Z F ρ μ δ σ H) (hp : H p = some o) (fr : Free Z F ρ p) (no : ∀ (i : Nat) s, δ[i]? = some (some (.own s)) → σ[i]? ≠ some (some (.ref p))) : Sim K mg (upd Z p o) F ρ μ δ σ H := by
  refine ⟨S.le, fun q u h => ?_, S.len, fun i t e => ?_, S.apart, fun k c e => ?_, S.mlen, S.nod⟩
  · by_cases z : q = p
    · subst z; rw [upd_same] at h; cases h; exact hp
    · rw [upd_ne z] at h; exact S.zk q u h
  · obtain ⟨w, e1, r⟩ := S.slot i t e
    refine ⟨w, e1, ?_⟩
    cases t with
    | fr d => exact r
    | own c =>
      obtain ⟨q, ev, f1, r⟩ := r
      subst ev
      have ne : q ≠ p := fun z => by subst z; exact no i c e e1
      exact ⟨q, rfl, ⟨f1.f, by rw [upd_ne ne]; exact f1.z, f1.r⟩, r⟩
  · obtain ⟨a, e1, f1, f2, r⟩ := S.mem k c e
    have ne : a ≠ p := fun z => by subst z; exact fr.r (List.mem_of_getElem? e1)
    exact ⟨a, e1, f1, by rw [upd_ne ne]; exact f2, r⟩
theorem guard_z {q : Addr} (h : upd Z p o q = none) : q ≠ p ∧ Z q = none := by
  by_cases z : q = p
  · subst z; rw [upd_same] at h; cases h
  · rw [upd_ne z] at h; exact ⟨z, h⟩
theorem Sim.unguard (S : Sim K mg (upd Z p o) F ρ μ δ σ H) (hz : Z p = none) : Sim K mg Z F ρ μ δ σ H := by
  refine ⟨S.le, fun q u h => S.zk q u ?_, S.len, fun i t e => ?_, S.apart, fun k c e => ?_, S.mlen, S.nod⟩
  · rw [upd_ne (fun z => by subst z; rw [hz] at h; cases h)]; exact h
  · obtain ⟨w, e1, r⟩ := S.slot i t e
    refine ⟨w, e1, ?_⟩
    cases t with
    | fr d => exact r
    | own c =>
      obtain ⟨q, ev, f1, r⟩ := r
      exact ⟨q, ev, ⟨f1.f, (guard_z f1.z).2, f1.r⟩, r⟩
  · obtain ⟨a, e1, f1, f2, r⟩ := S.mem k c e
    exact ⟨a, e1, f1, (guard_z f2).2, r⟩
theorem Sim.guarded (S : Sim K mg (upd Z p o) F ρ μ δ σ H) : H p = some o := S.zk p o upd_same
theorem Sim.guardNo (S : Sim K mg (upd Z p o) F ρ μ δ σ H) : ∀ (i : Nat) s, δ[i]? = some (some (.own s)) → σ[i]? ≠ some (some (.ref p)) := by
  intro i c e e1
  obtain ⟨w, e2, q, ev, f1, r⟩ := S.slot i _ e
  rw [e1] at e2; cases e2; cases ev
  exact (guard_z f1.z).1 rfl
theorem Le.unguard (l : Le (upd Z p o) F F') : Le Z F F' := ⟨l.to, fun q u h => (l.new q u h).elim .inl fun z => .inr (guard_z z).2⟩
theorem LeR.unguard (l : LeR (upd Z p o) ρ ρ') : LeR Z ρ ρ' := ⟨l.to, fun q h => (l.new q h).elim .inl fun z => .inr (guard_z z).2⟩
theorem Free.on (fr : Free Z F ρ p) (l : Le (upd Z p o) F F') (lr : LeR (upd Z p o) ρ ρ') : Free Z F' ρ' p := by
  refine ⟨?_, fr.z, fun h => ?_⟩
  · cases e : F' p with
    | none => rfl
    | some u =>
      rcases l.new p u e with h | h
      · rw [fr.f] at h; cases h
      · exact absurd rfl (guard_z h).1
  · rcases lr.new p h with h | h
    · exact fr.r h
    · exact absurd rfl (guard_z h).1
/-- all that the slots own is kept as it is -/
def Held (δ : Loc) (σ : St) (p : Addr) : Prop := ∃ (i : Nat) (s : Own), δ[i]? = some (some (.own s)) ∧ σ[i]? = some (some (.ref p))
open Classical in
noncomputable def zone (Z H : Hp) (δ : Loc) (σ : St) : Hp := fun p => if Held δ σ p then H p else Z p
theorem zone_in (h : Held δ σ p) : zone Z H δ σ p = H p := if_pos h
theorem zone_out (h : ¬ Held δ σ p) : zone Z H δ σ p = Z p := if_neg h
theorem Sim.held (S : Sim K mg Z F ρ μ δ σ H) (h : Held δ σ p) : Free Z F ρ p ∧ ∃ o, H p = some o := by
  obtain ⟨i, c, e1, e2⟩ := h
  obtain ⟨w, e3, q, ev, f1, r⟩ := S.slot i _ e1
  rw [e2] at e3; cases e3; cases ev
  exact ⟨f1, r.some⟩
theorem Sim.zone_none (S : Sim K mg Z F ρ μ δ σ H) (h : zone Z H δ σ p = none) : ¬ Held δ σ p ∧ Z p = none := by
  by_cases c : Held δ σ p
  · rw [zone_in c] at h
    obtain ⟨_, o, e⟩ := S.held c
    rw [e] at h; cases h
  · rw [zone_out c] at h; exact ⟨c, h⟩
theorem Sim.enter (S : Sim K mg Z F ρ μ δ σ H) : Sim K mg (zone Z H δ σ) F ρ μ [] [] H := by
  refine ⟨S.le, fun q u h => ?_, rfl, fun i s e => by simp at e, fun i j p s s' e => by simp at e, fun k c e => ?_, S.mlen, S.nod⟩
  · by_cases c : Held δ σ q
    · rw [zone_in c] at h; exact h
    · rw [zone_out c] at h; exact S.zk q u h
  · obtain ⟨a, e1, f1, f2, r⟩ := S.mem k c e
    refine ⟨a, e1, f1, ?_, r⟩
    rw [zone_out fun h => (S.held h).1.r (List.mem_of_getElem? e1)]
    exact f2
theorem Sim.leLeave (S : Sim K mg Z F ρ μ δ σ H) (l : Le (zone Z H δ σ) F F') : Le Z F F' := ⟨l.to, fun q u h => (l.new q u h).elim .inl fun z => .inr (S.zone_none z).2⟩
theorem Sim.leRLeave (S : Sim K mg Z F ρ μ δ σ H) (l : LeR (zone Z H δ σ) ρ ρ') : LeR Z ρ ρ' := ⟨l.to, fun q h => (l.new q h).elim .inl fun z => .inr (S.zone_none z).2⟩
theorem Sim.leave {μ' : Mem} (S : Sim K mg Z F ρ μ δ σ H) (S1 : Sim K mg (zone Z H δ σ) F' ρ' μ' [] [] H') (l : Le (zone Z H δ σ) F F') (lr : LeR (zone Z H δ σ) ρ ρ') : Sim K mg Z F' ρ' μ' δ σ H' := by
  refine ⟨S1.le, fun q u h => S1.zk q u ?_, S.len, fun i t e => ?_, S.apart, fun k c e => ?_, S1.mlen, S1.nod⟩
  · rw [zone_out fun c => by rw [(S.held c).1.z] at h; cases h]; exact h
  · obtain ⟨w, e1, r⟩ := S.slot i t e
    refine ⟨w, e1, ?_⟩
    cases t with
    | fr d => exact Rep.up l.to lr.to r
    | own c =>
      obtain ⟨q, ev, f1, r⟩ := r
      subst ev
      have hq : Held δ σ q := ⟨i, c, e, e1⟩
      obtain ⟨o, eo⟩ := r.some
      have z1 : zone Z H δ σ q = some o := by rw [zone_in hq]; exact eo
      refine ⟨q, rfl, ⟨?_, f1.z, fun hm => ?_⟩, r.up l.to lr.to (by rw [S1.zk q o z1, eo])⟩
      · cases e2 : F' q with
        | none => rfl
        | some u =>
          rcases l.new q u e2 with h | h
          · rw [f1.f] at h; cases h
          · rw [z1] at h; cases h
      · rcases lr.new q hm with h | h
        · exact f1.r h
        · rw [z1] at h; cases h
  · obtain ⟨a, e1, f1, f2, r⟩ := S1.mem k c e
    exact ⟨a, e1, f1, (S.zone_none f2).2, r⟩
theorem Sim.came (S : Sim K mg Z F ρ μ δ σ H) (h : SlotR K mg (zone Z H δ σ) F' ρ' H' v s) : VR K mg Z F' ρ' δ σ H' v s := by
  cases s with
  | fr d => exact ⟨h, fun o p z => by cases z⟩
  | own c =>
    obtain ⟨q, ev, f1, r⟩ := h
    obtain ⟨n1, n2⟩ := S.zone_none f1.z
    refine ⟨⟨q, ev, ⟨f1.f, n2, f1.r⟩, r⟩, fun o p z1 z2 i o' e1 e2 => ?_⟩
    rw [ev] at z2; cases z2
    exact n1 ⟨i, o', e1, e2⟩
end

/-! ### statements -/
inductive OutS where
  | nx (δ : Loc) (μ : Mem)
  | rt (s : Slot) (μ : Mem)
  | bk (δ : Loc) (μ : Mem)
  | ct (δ : Loc) (μ : Mem)
  | exc (x : Exc) (δ : Loc) (μ : Mem)
  | bad
abbrev MS := Loc → Mem → OutS
def Out.thn {α : Type} (r : Out α) (f : α → Loc → Mem → OutS) : OutS :=
  match r with
  | .ok a δ μ => f a δ μ
  | .exc x δ μ => .exc x δ μ
  | .bad => .bad
def OutS.seq (r : OutS) (k : MS) : OutS :=
  match r with
  | .nx δ μ => k δ μ
  | .rt s μ => .rt s μ
  | .bk δ μ => .bk δ μ
  | .ct δ μ => .ct δ μ
  | .exc x δ μ => .exc x δ μ
  | .bad => .bad
def OutS.loop (r : OutS) (k : MS) : OutS :=
  match r with
  | .nx δ μ => k δ μ
  | .ct δ μ => k δ μ
  | .bk δ μ => .nx δ μ
  | .rt s μ => .rt s μ
  | .exc x δ μ => .exc x δ μ
  | .bad => .bad
section
variable (X : Cx) (W : WX)
def FinS (Z F : Hp) (ρ : List Addr) (D : Ends) : OutS → Prop
  | .nx δ μ => ∀ σ' H' F' ρ', Le Z F F' → LeR Z ρ ρ' → Sim X.K X.mg Z F' ρ' μ δ σ' H' → D.nx σ' H'
  | .bk δ μ => ∀ σ' H' F' ρ', Le Z F F' → LeR Z ρ ρ' → Sim X.K X.mg Z F' ρ' μ δ σ' H' → D.bk σ' H'
  | .ct δ μ => ∀ σ' H' F' ρ', Le Z F F' → LeR Z ρ ρ' → Sim X.K X.mg Z F' ρ' μ δ σ' H' → D.ct σ' H'
  | .rt s μ => ∀ v H' F' ρ', Le Z F F' → LeR Z ρ ρ' → Sim X.K X.mg Z F' ρ' μ [] [] H' → SlotR X.K X.mg Z F' ρ' H' v s → D.rt v H'
  | .exc x δ μ => ∀ c d σ' H' F' ρ', Le Z F F' → LeR Z ρ ρ' → Sim X.K X.mg Z F' ρ' μ δ σ' H' → ExcR X.K X.mg F' ρ' c d x → W c d σ' H'
  | .bad => False
def rdS (m : MS) : TS := fun D σ H => ∃ Z F ρ μ δ, Sim X.K X.mg Z F ρ μ δ σ H ∧ FinS X W Z F ρ D (m δ μ)
end
theorem _root_.L2.PS.imp {X : Cx} {s : Stmt} {t t' : TS} (h : PS X s t) (hi : ∀ D σ H, t' D σ H → t D σ H) : PS X s t' := ⟨fun pins s σ H D I q => h.run pins s σ H D I (hi D σ H q)⟩
theorem _root_.L2.PSs.imp {X : Cx} {s : List Stmt} {t t' : TS} (h : PSs X s t) (hi : ∀ D σ H, t' D σ H → t D σ H) : PSs X s t' := ⟨fun pins s σ H D I q => h.run pins s σ H D I (hi D σ H q)⟩
abbrev JS (X : Cx) (W : WX) (s : Stmt) (m : MS) : Prop := PS X s (rdS X W m)
abbrev JSs (X : Cx) (W : WX) (s : List Stmt) (m : MS) : Prop := PSs X s (rdS X W m)

section
variable {X : Cx} {W : WX} {Z F F1 : Hp} {ρ ρ1 : List Addr} {D : Ends} {σ : St} {H : Hp} {μ : Mem} {δ : Loc}
theorem FinS.mono {r : OutS} (h : FinS X W Z F ρ D r) (l : Le Z F F1) (lr : LeR Z ρ ρ1) : FinS X W Z F1 ρ1 D r := by
  cases r with
  | nx δ μ => exact fun σ' H' F' ρ' l' lr' S => h σ' H' F' ρ' (l.trans l') (lr.trans lr') S
  | bk δ μ => exact fun σ' H' F' ρ' l' lr' S => h σ' H' F' ρ' (l.trans l') (lr.trans lr') S
  | ct δ μ => exact fun σ' H' F' ρ' l' lr' S => h σ' H' F' ρ' (l.trans l') (lr.trans lr') S
  | rt s μ => exact fun v H' F' ρ' l' lr' S r => h v H' F' ρ' (l.trans l') (lr.trans lr') S r
  | exc x δ μ => exact fun c d σ' H' F' ρ' l' lr' S e => h c d σ' H' F' ρ' (l.trans l') (lr.trans lr') S e
  | bad => exact h
theorem FinS.thn {α : Type} {r : Out α} {f : α → Loc → Mem → OutS} (h : FinS X W Z F ρ D (r.thn f)) :
    FinE X W Z F ρ σ (fun a δ μ F' ρ' H' => Sim X.K X.mg Z F' ρ' μ δ σ H' ∧ FinS X W Z F' ρ' D (f a δ μ)) r := by
  cases r with
  | ok a δ μ => exact fun H' F' ρ' l lr S => ⟨S, h.mono l lr⟩
  | exc x δ μ => exact fun c d H' F' ρ' l lr S e => h c d σ H' F' ρ' l lr S e
  | bad => exact h
theorem FinS.nx {δ : Loc} {μ : Mem} {σ' : St} {H' : Hp} (h : FinS X W Z F ρ D (.nx δ μ)) (S : Sim X.K X.mg Z F ρ μ δ σ' H') : D.nx σ' H' := h σ' H' F ρ .refl .refl S
theorem FinS.seq {r : OutS} {k : MS} (h : FinS X W Z F ρ D (r.seq k)) : FinS X W Z F ρ { D with nx := rdS X W k D } r := by
  cases r with
  | nx δ μ => exact fun σ' H' F' ρ' l lr S => ⟨Z, F', ρ', μ, δ, S, FinS.mono h l lr⟩
  | bk δ μ => exact h
  | ct δ μ => exact h
  | rt s μ => exact h
  | exc x δ μ => exact h
  | bad => exact h
theorem FinS.loop {r : OutS} {k : MS} {N : St → Hp → Prop} (h : FinS X W Z F ρ D (r.loop k)) (hN : ∀ σ' H' F' ρ' μ δ, Le Z F F' → LeR Z ρ ρ' → Sim X.K X.mg Z F' ρ' μ δ σ' H' → FinS X W Z F' ρ' D (k δ μ) → N σ' H') :
    FinS X W Z F ρ { D with nx := N, ct := N, bk := D.nx } r := by
  cases r with
  | nx δ μ => exact fun σ' H' F' ρ' l lr S => hN σ' H' F' ρ' μ δ l lr S (FinS.mono h l lr)
  | ct δ μ => exact fun σ' H' F' ρ' l lr S => hN σ' H' F' ρ' μ δ l lr S (FinS.mono h l lr)
  | bk δ μ => exact h
  | rt s μ => exact h
  | exc x δ μ => exact h
  | bad => exact h
variable {st : Stmt} {sts rest : List Stmt} {e : Expr} {pos : Pos}
def mPass : MS := fun δ μ => .nx δ μ
def mSeq (m n : MS) : MS := fun δ μ => (m δ μ).seq n
theorem jss_nil : JSs X W [] mPass := pss_nil.imp fun D σ H ⟨Z, F, ρ, μ, δ, S, q⟩ => q.nx S
theorem jss_cons {m n : MS} (h : JS X W st m) (t : JSs X W rest n) : JSs X W (st :: rest) (mSeq m n) :=
  (pss_cons h t).imp fun D σ H ⟨Z, F, ρ, μ, δ, S, q⟩ => ⟨Z, F, ρ, μ, δ, S, FinS.seq q⟩
theorem jss_one {m : MS} (h : JS X W st m) : JSs X W [st] m := pss_one h
theorem js_pass : JS X W (.Pass pos) mPass := ps_pass.imp fun D σ H ⟨Z, F, ρ, μ, δ, S, q⟩ => q.nx S
theorem js_break : JS X W (.Break pos) (fun δ μ => .bk δ μ) := ps_break.imp fun D σ H ⟨Z, F, ρ, μ, δ, S, q⟩ => q σ H F ρ .refl .refl S
theorem js_continue : JS X W (.Continue pos) (fun δ μ => .ct δ μ) := ps_continue.imp fun D σ H ⟨Z, F, ρ, μ, δ, S, q⟩ => q σ H F ρ .refl .refl S
theorem js_doc {x j pos pos'} : JS X W (.Expr (.Constant (.str x) j pos) pos') mPass := ps_doc.imp fun D σ H ⟨Z, F, ρ, μ, δ, S, q⟩ => q.nx S
/-- code that is not reached -/
def mBad : MS := fun _ _ => .bad
theorem js_never : JS X W st mBad := ps_never.imp fun D σ H ⟨Z, F, ρ, μ, δ, S, q⟩ => q
theorem jss_never : JSs X W sts mBad := pss_never.imp fun D σ H ⟨Z, F, ρ, μ, δ, S, q⟩ => q
def mEx (m : ME) : MS := fun δ μ => (m δ μ).thn fun _ δ1 μ1 => .nx δ1 μ1
theorem js_expr {m : ME} (he : JE X W e m) (hs : swapsWith e none pos.line X.env = pure false := by rfl) : JS X W (.Expr e pos) (mEx m) :=
  (ps_expr he hs).imp fun D σ H ⟨Z, F, ρ, μ, δ, S, q⟩ => ⟨Z, F, ρ, μ, δ, S, (FinS.thn q).imp fun a δ1 μ1 H1 F1 ρ1 l lr S1 ⟨_, p⟩ v vr => p.nx S1⟩
def mRet (m : ME) : MS := fun δ μ => (m δ μ).thn fun s _ μ1 => .rt s μ1
theorem js_ret {m : ME} (he : JE X W e m) : JS X W (.Return (some e) pos) (mRet m) :=
  (ps_ret he).imp fun D σ H ⟨Z, F, ρ, μ, δ, S, q⟩ => ⟨Z, F, ρ, μ, δ, S, (FinS.thn q).imp fun a δ1 μ1 H1 F1 ρ1 l lr S1 ⟨_, p⟩ v vr => p v H1 F1 ρ1 .refl .refl S1.drop vr.r⟩
def mRetN : MS := fun _ μ => .rt (.fr .non) μ
theorem js_retN : JS X W (.Return none pos) mRetN := ps_retN.imp fun D σ H ⟨Z, F, ρ, μ, δ, S, q⟩ => q .non H F ρ .refl .refl S.drop .non
def mIfS (t : MT) (m n : MS) : MS := fun δ μ => (t δ μ).thn fun b δ1 μ1 => if b = true then m δ1 μ1 else n δ1 μ1
theorem js_if {c : Expr} {a b : List Stmt} {t : MT} {m n : MS} (hc : JT X W c t) (ha : JSs X W a m) (hb : JSs X W b n) : JS X W (.If c a b pos) (mIfS t m n) := by
  refine (ps_if hc ha hb).imp fun D σ H ⟨Z, F, ρ, μ, δ, S, q⟩ => ⟨Z, F, ρ, μ, δ, S, (FinS.thn q).imp fun b δ1 μ1 H1 F1 ρ1 l lr S1 ⟨_, p⟩ => ?_⟩
  cases b with
  | true => exact ⟨Z, F1, ρ1, μ1, δ1, S1, p⟩
  | false => exact ⟨Z, F1, ρ1, μ1, δ1, S1, p⟩
/-- name = e -/
def mSet (i : Nat) (m : ME) : MS := fun δ μ => (m δ μ).thn fun s δ1 μ1 => .nx (δ1.set i (some s)) μ1
theorem set_read {i : Nat} {m : ME} : ∀ D σ H, rdS X W (mSet i m) D σ H → tAsg (rdE X W m) (gName i) D σ H := by
  intro D σ H ⟨Z, F, ρ, μ, δ, S, q⟩
  exact ⟨Z, F, ρ, μ, δ, S, (FinS.thn q).imp fun a δ1 μ1 H1 F1 ρ1 l lr S1 ⟨_, p⟩ v vr => p.nx (S1.put vr)⟩
theorem js_set {i : Nat} {x : Str} {m : ME} {pos' : Pos} (hN : X.N.Nodup) (hi : X.N[i]? = some x) (hx : L2.Loc X.env.scope x) (he : JE X W e m) (hs : swapsWith e (some (.Name x pos')) pos.line X.env = pure false := by rfl) (hf : X.fn x = true ∨ X.env.scope.names.lookup x = some .local := by first | exact .inl rfl | exact .inr rfl | assumption) :
    JS X W (.Assign [.Name x pos'] e pos) (mSet i m) := (ps_set hN hi hx he hs hf).imp set_read

/-! ### while -/
def whileN : Nat → MT → MS → MS
  | 0, _, _ => fun _ _ => .bad
  | n + 1, c, m => fun δ μ => (c δ μ).thn fun b δ1 μ1 => if b = true then (m δ1 μ1).loop (whileN n c m) else .nx δ1 μ1
open Classical in
noncomputable def mWhile (c : MT) (m : MS) : MS := fun δ μ => if h : ∃ n, whileN n c m δ μ ≠ .bad then whileN h.choose c m δ μ else .bad
theorem OutS.loop_mono {r : OutS} {k k' : MS} (h : ∀ δ μ, k δ μ ≠ .bad → k' δ μ = k δ μ) (n : r.loop k ≠ .bad) : r.loop k' = r.loop k := by
  cases r with
  | nx δ μ => exact h δ μ n
  | ct δ μ => exact h δ μ n
  | bk δ μ => rfl
  | rt s μ => rfl
  | exc x δ μ => rfl
  | bad => rfl
theorem Out.thn_mono {α : Type} {r : Out α} {f g : α → Loc → Mem → OutS} (h : ∀ a δ μ, f a δ μ ≠ .bad → g a δ μ = f a δ μ) (n : r.thn f ≠ .bad) : r.thn g = r.thn f := by
  cases r with
  | ok a δ μ => exact h a δ μ n
  | exc x δ μ => rfl
  | bad => rfl
theorem whileN_succ {c : MT} {m : MS} : ∀ (n : Nat) (δ : Loc) (μ : Mem), whileN n c m δ μ ≠ .bad → whileN (n + 1) c m δ μ = whileN n c m δ μ
  | 0, _, _, h => absurd rfl h
  | n + 1, δ, μ, h => by
    unfold whileN at h ⊢
    refine Out.thn_mono (fun b δ1 μ1 hn => ?_) h
    cases b with
    | false => rfl
    | true =>
      simp only [if_true] at hn ⊢
      exact OutS.loop_mono (fun δ μ hh => whileN_succ n δ μ hh) hn
theorem whileN_add {c : MT} {m : MS} (n : Nat) {δ : Loc} {μ : Mem} (h : whileN n c m δ μ ≠ .bad) : ∀ k, whileN (n + k) c m δ μ = whileN n c m δ μ
  | 0 => rfl
  | k + 1 => by
    have ih := whileN_add n h k
    have := whileN_succ (n + k) δ μ (by rw [ih]; exact h)
    rw [← ih, ← this]; rfl
theorem mWhile_of {c : MT} {m : MS} (n : Nat) {δ : Loc} {μ : Mem} (h : whileN n c m δ μ ≠ .bad) : mWhile c m δ μ = whileN n c m δ μ := by
  have hx : ∃ n, whileN n c m δ μ ≠ .bad := ⟨n, h⟩
  unfold mWhile
  rw [dif_pos hx]
  have h2 := hx.choose_spec
  by_cases hle : hx.choose ≤ n
  · have := whileN_add hx.choose h2 (n - hx.choose)
    rw [show hx.choose + (n - hx.choose) = n by omega] at this
    exact this.symm
  · have := whileN_add n h (hx.choose - n)
    rw [show n + (hx.choose - n) = hx.choose by omega] at this
    exact this
/-- one turn -/
theorem mWhile_eq (c : MT) (m : MS) (δ : Loc) (μ : Mem) : mWhile c m δ μ = (c δ μ).thn fun b δ1 μ1 => if b = true then (m δ1 μ1).loop (mWhile c m) else .nx δ1 μ1 := by
  by_cases hx : ∃ n, whileN n c m δ μ ≠ .bad
  · obtain ⟨n, h⟩ := hx
    rw [mWhile_of n h]
    cases n with
    | zero => exact absurd rfl h
    | succ n =>
      unfold whileN at h ⊢
      refine (Out.thn_mono (fun b δ1 μ1 hn => ?_) h).symm
      cases b with
      | false => rfl
      | true =>
        simp only [if_true] at hn ⊢
        exact OutS.loop_mono (fun δ μ hh => mWhile_of n hh) hn
  · have e : mWhile c m δ μ = .bad := by unfold mWhile; rw [dif_neg hx]
    rw [e]
    have all : ∀ n, whileN n c m δ μ = .bad := fun n => Classical.byContradiction fun q => hx ⟨n, q⟩
    cases ec : c δ μ with
    | bad => rfl
    | exc x δ1 μ1 => have := all 1; unfold whileN at this; rw [ec] at this; exact this.symm
    | ok b δ1 μ1 =>
      cases b with
      | false => have := all 1; unfold whileN at this; rw [ec] at this; exact this.symm
      | true =>
        have one : ∀ n, (m δ1 μ1).loop (whileN n c m) = .bad := fun n => by have := all (n + 1); unfold whileN at this; rw [ec] at this; simpa [Out.thn] using this
        show OutS.bad = (m δ1 μ1).loop (mWhile c m)
        cases em : m δ1 μ1 with
        | nx δ2 μ2 =>
          have nn : ¬ ∃ n, whileN n c m δ2 μ2 ≠ .bad := fun ⟨n, q⟩ => q (by have := one n; rw [em] at this; exact this)
          show OutS.bad = mWhile c m δ2 μ2
          unfold mWhile; rw [dif_neg nn]
        | ct δ2 μ2 =>
          have nn : ¬ ∃ n, whileN n c m δ2 μ2 ≠ .bad := fun ⟨n, q⟩ => q (by have := one n; rw [em] at this; exact this)
          show OutS.bad = mWhile c m δ2 μ2
          unfold mWhile; rw [dif_neg nn]
        | bk δ2 μ2 => have := one 0; rw [em] at this; exact this.symm
        | rt s μ2 => have := one 0; rw [em] at this; exact this.symm
        | exc x δ2 μ2 => have := one 0; rw [em] at this; exact this.symm
        | bad => rfl
theorem js_while {c : Expr} {body : List Stmt} {t : MT} {m : MS} (hp : PassesOwn (model X.prog X.w) X.A X.env X.xe) (hc : JT X W c t) (hb : JSs X W body m) : JS X W (.While c body [] pos) (mWhile t m) := by
  refine (ps_while hp hc hb).imp fun D σ H ⟨Z, F, ρ, μ, δ, S, q⟩ => ?_
  by_cases hx : ∃ n, whileN n t m δ μ ≠ .bad
  · obtain ⟨n, h⟩ := hx
    rw [mWhile_of n h] at q
    refine ⟨fun k σ' H' => ∃ F' ρ' μ' δ', Sim X.K X.mg Z F' ρ' μ' δ' σ' H' ∧ FinS X W Z F' ρ' D (whileN k t m δ' μ'), ⟨n, F, ρ, μ, δ, S, q⟩, ?_⟩
    rintro k σ1 H1 ⟨F1, ρ1, μ1, δ1, S1, q1⟩
    cases k with
    | zero => exact q1.elim
    | succ k =>
      unfold whileN at q1
      refine ⟨Z, F1, ρ1, μ1, δ1, S1, (FinS.thn q1).imp fun b δ2 μ2 H2 F2 ρ2 l lr S2 ⟨_, p⟩ => ?_⟩
      cases b with
      | false => exact p.nx S2
      | true =>
        simp only [if_true] at p ⊢
        exact ⟨fun σ' H' => ∃ F' ρ' μ' δ', Sim X.K X.mg Z F' ρ' μ' δ' σ' H' ∧ FinS X W Z F' ρ' D (whileN k t m δ' μ'), fun σ' H' w => ⟨k, Nat.lt_succ_self k, w⟩,
          Z, F2, ρ2, μ2, δ2, S2, p.loop fun σ' H' F' ρ' μ' δ' l' lr' S' q' => ⟨F', ρ', μ', δ', S', q'⟩⟩
  · have e : mWhile t m δ μ = .bad := by unfold mWhile; rw [dif_neg hx]
    rw [e] at q; exact q.elim
end
end FL

/-! Part F: targets, what is walked, for, comprehensions. -/
namespace FL
open PySem L2

section
variable {X : Cx} {W : WX} {e a b : Expr} {es : List Expr} {pos : Pos}
/-! ### targets -/
abbrev TgF := D → Loc → Option Loc
abbrev TgsF := List D → Loc → Option Loc
def rdG (X : Cx) (f : TgF) (is : List Nat) : TG := fun v σ H Q => ∃ Z F ρ μ δ d, Sim X.K X.mg Z F ρ μ δ σ H ∧ Rep X.K X.mg F ρ v d ∧ ∃ δ', f d δ = some δ' ∧
  ∀ σ', (∀ j : Nat, j ∉ is → σ'[j]? = σ[j]?) → σ'.length = σ.length → Sim X.K X.mg Z F ρ μ δ' σ' H → Q σ' H
def rdGs (X : Cx) (f : TgsF) (is : List Nat) : TGs := fun vs σ H Q => ∃ Z F ρ μ δ ds, Sim X.K X.mg Z F ρ μ δ σ H ∧ RepL X.K X.mg F ρ vs ds ∧ ∃ δ', f ds δ = some δ' ∧
  ∀ σ', (∀ j : Nat, j ∉ is → σ'[j]? = σ[j]?) → σ'.length = σ.length → Sim X.K X.mg Z F ρ μ δ' σ' H → Q σ' H
theorem _root_.L2.PG.imp {X : Cx} {e : Expr} {t t' : TG} (h : PG X e t) (hi : ∀ v σ H Q, t' v σ H Q → t v σ H Q) : PG X e t' := ⟨fun pins s σ H v u Q I r q => h.run pins s σ H v u Q I r (hi v σ H Q q)⟩
theorem _root_.L2.PGs.imp {X : Cx} {e : List Expr} {t t' : TGs} (h : PGs X e t) (hi : ∀ v σ H Q, t' v σ H Q → t v σ H Q) : PGs X e t' := ⟨fun pins s σ H v u Q I r q => h.run pins s σ H v u Q I r (hi v σ H Q q)⟩
abbrev JG (X : Cx) (e : Expr) (f : TgF) (is : List Nat) : Prop := PG X e (rdG X f is)
abbrev JGs (X : Cx) (e : List Expr) (f : TgsF) (is : List Nat) : Prop := PGs X e (rdGs X f is)
def tgV (i : Nat) : TgF := fun d δ => some (δ.set i (some (.fr d)))
theorem jg_v {i : Nat} {x : Str} (hN : X.N.Nodup) (hi : X.N[i]? = some x) (hx : L2.Loc X.env.scope x) (hf : X.fn x = true ∨ X.env.scope.names.lookup x = some .local := by first | exact .inl rfl | exact .inr rfl | assumption) : JG X (.Name x pos) (tgV i) [i] :=
  (pg_name hN hi hx hf).imp fun v σ H Q ⟨Z, F, ρ, μ, δ, d, S, r, δ', e1, q⟩ => by
    cases e1
    refine q _ (fun j hj => ?_) (by simp) (S.put ⟨r, fun o p z => by cases z⟩)
    rw [List.getElem?_set_ne (fun z => hj (by simp [z]))]
def tgN : TgsF := fun ds δ => match ds with
  | [] => some δ
  | _ => none
def tgC (f : TgF) (g : TgsF) : TgsF := fun ds δ => match ds with
  | d :: r => match f d δ with
    | some δ' => g r δ'
    | none => none
  | [] => none
theorem jgs_nil : JGs X [] tgN [] := pgs_nil.imp fun vs σ H Q ⟨Z, F, ρ, μ, δ, ds, S, r, δ', e1, q⟩ => by
  unfold tgN at e1
  cases ds with
  | cons _ _ => cases e1
  | nil =>
    cases e1
    cases r
    exact ⟨rfl, q _ (fun _ _ => rfl) rfl S⟩
theorem jgs_cons {f : TgF} {g : TgsF} {is js : List Nat} (h : JG X e f is) (t : JGs X es g js) (hs : (assignEach (e :: es) X.env).map (·.2) = assign e X.env :: (assignEach es X.env).map (·.2) := by rfl) : JGs X (e :: es) (tgC f g) (is ++ js) :=
  (pgs_cons h t hs).imp fun vs σ H Q ⟨Z, F, ρ, μ, δ, ds, S, r, δ', e1, q⟩ => by
    unfold tgC at e1
    cases r with
    | nil => cases e1
    | @cons v d vs ds h1 t1 =>
      simp only at e1
      cases ef : f d δ with
      | none => rw [ef] at e1; cases e1
      | some δ1 =>
        rw [ef] at e1
        refine ⟨v, vs, rfl, Z, F, ρ, μ, δ, d, S, h1, δ1, ef, fun σ1 k1 l1 S1 => ⟨Z, F, ρ, μ, δ1, ds, S1, t1, δ', e1, fun σ2 k2 l2 S2 => q σ2 (fun j hj => ?_) (l2.trans l1) S2⟩⟩
        rw [k2 j (fun z => hj (List.mem_append_right _ z)), k1 j (fun z => hj (List.mem_append_left _ z))]
def tgT (n : Nat) (g : TgsF) : TgF := fun d δ => match d with
  | .tup ds => if ds.length = n then g ds δ else none
  | _ => none
theorem jg_t {k : Nat} {g : TgsF} {is : List Nat} {n : Nat} (hc : X.calm = true) (h : JGs X es g is) (hn : (assignEach es X.env).length = n := by rfl) (hst : (assignEach es X.env).findIdx? (·.1) = none := by rfl) : JG X (.Tuple es k pos) (tgT n g) is :=
  (pg_tup hc h hn hst).imp fun v σ H Q ⟨Z, F, ρ, μ, δ, d, S, r, δ', e1, q⟩ => by
    unfold tgT at e1
    cases d <;> first | (cases e1; done) | skip
    rename_i ds
    by_cases hl : ds.length = n
    · simp only [hl, if_true] at e1
      obtain ⟨p, vs, rfl, hq, rl⟩ := Bor.tup S (Bor.fr r)
      exact ⟨p, vs, rfl, hq, by rw [rl.len]; exact hl, Z, F, ρ, μ, δ, ds, S, rl, δ', e1, q⟩
    · simp only [hl] at e1; cases e1
/-- target = e, the value locked -/
def mAsg (f : TgF) (m : ME) : MS := fun δ μ => (m δ μ).thn fun s δ1 μ1 => match f s.d δ1 with
  | some δ2 => .nx δ2 μ1
  | none => .bad
theorem js_asg {f : TgF} {is : List Nat} {tg : Expr} {m : ME} (he : JE X W e m) (hg : JG X tg f is) (hs : swapsWithSole [tg] e pos.line X.env = pure false := by rfl) (hw : swappedStores [tg] e X.env = pure none := by rfl)
    (h1 : (assignEach [tg] X.env).map (·.2) = [assign tg X.env] := by rfl) : JS X W (.Assign [tg] e pos) (mAsg f m) :=
  (ps_asg he.locked hg hs hw h1).imp fun _ σ H ⟨Z, F, ρ, μ, δ, S, q⟩ => ⟨Z, F, ρ, μ, δ, S, (FinS.thn q).imp fun s δ1 μ1 H1 F1 ρ1 l lr S1 ⟨_, p⟩ v r => by
    cases ef : f s.d δ1 with
    | none => simp only [ef] at p; exact p.elim
    | some δ2 =>
      simp only [ef] at p
      exact ⟨Z, F1, ρ1, μ1, δ1, s.d, S1, r, δ2, ef, fun σ' _ _ S' => p.nx S'⟩⟩

/-! ### what is walked -/
def ItR (X : Cx) (F : Hp) (ρ : List Addr) (J : It) (ds : List D) : Prop := ∀ Z' F' ρ' μ δ σ H (i : Nat), (∀ p o, F p = some o → F' p = some o) → (∀ (k : Nat) p, ρ[k]? = some p → ρ'[k]? = some p) → Sim X.K X.mg Z' F' ρ' μ δ σ H →
  (ds.length ≤ i → J.stop i H) ∧ ∀ d, ds[i]? = some d → J.go i H ∧ ∀ x H', J.yld i H x H' → ∃ F2, Le Z' F' F2 ∧ Sim X.K X.mg Z' F2 ρ' μ δ σ H' ∧ Rep X.K X.mg F2 ρ' x d
def rdI (X : Cx) (W : WX) (m : MM (List D)) : TI := fun σ H R => ∃ Z F ρ μ δ, Sim X.K X.mg Z F ρ μ δ σ H ∧
  FinE X W Z F ρ σ (fun ds _ _ F' ρ' H' => ∀ J, ItR X F' ρ' J ds → R J H') (m δ μ)
theorem _root_.L2.PI.imp {X : Cx} {tg e : Expr} {t t' : TI} (h : PI X tg e t) (hi : ∀ σ H Q, t' σ H Q → t σ H Q) : PI X tg e t' := ⟨fun pins s σ H R I q => h.run pins s σ H R I (hi σ H R q)⟩
abbrev JI (X : Cx) (W : WX) (tg e : Expr) (m : MM (List D)) : Prop := PI X tg e (rdI X W m)
theorem itr_list {F : Hp} {ρ : List Addr} {p : Addr} {vs : List V} {ds : List D} (hq : ∀ Z' F' ρ' μ δ σ H, (∀ p o, F p = some o → F' p = some o) → Sim X.K X.mg Z' F' ρ' μ δ σ H → SqL X.K H p vs) (r : RepL X.K X.mg F ρ vs ds) : ItR X F ρ (Itl X.K p) ds := by
  intro Z' F' ρ' μ δ σ H i to tr S
  have q := hq Z' F' ρ' μ δ σ H to S
  refine ⟨fun hl => ⟨vs, q, by rw [r.len]; exact hl⟩, fun d hd => ?_⟩
  obtain ⟨v, hv, rv⟩ := r.get hd
  refine ⟨⟨vs, v, q, hv⟩, fun x H' y => ?_⟩
  obtain ⟨rfl, y⟩ := y
  have := y vs q
  rw [hv] at this; cases this
  exact ⟨F', .refl, S, rv.up to tr⟩
theorem itr_tup {F : Hp} {ρ : List Addr} {p : Addr} {vs : List V} {ds : List D} (hq : ∀ Z' F' ρ' μ δ σ H, (∀ p o, F p = some o → F' p = some o) → Sim X.K X.mg Z' F' ρ' μ δ σ H → SqT X.K H p vs) (r : RepL X.K X.mg F ρ vs ds) : ItR X F ρ (Itt X.K p) ds := by
  intro Z' F' ρ' μ δ σ H i to tr S
  have q := hq Z' F' ρ' μ δ σ H to S
  refine ⟨fun hl => ⟨vs, q, by rw [r.len]; exact hl⟩, fun d hd => ?_⟩
  obtain ⟨v, hv, rv⟩ := r.get hd
  refine ⟨⟨vs, v, q, hv⟩, fun x H' y => ?_⟩
  obtain ⟨rfl, y⟩ := y
  have := y vs q
  rw [hv] at this; cases this
  exact ⟨F', .refl, S, rv.up to tr⟩
def chars (x : Tx) : List D := x.map fun c => .str [c]
theorem itr_str {F : Hp} {ρ : List Addr} {x : Tx} : ItR X F ρ (Its (toS x)) (chars x) := by
  intro Z' F' ρ' μ δ σ H i to tr S
  refine ⟨fun hl => ?_, fun d hd => ?_⟩
  · show (toS x).cps.size ≤ i
    simpa [chars, toS] using hl
  · obtain ⟨c, hc, rfl⟩ : ∃ c, x[i]? = some c ∧ D.str [c] = d := by
      unfold chars at hd
      rw [List.getElem?_map] at hd
      cases e : x[i]? with
      | none => rw [e] at hd; cases hd
      | some c => rw [e] at hd; exact ⟨c, rfl, by injection hd⟩
    have hi : i < x.length := (List.getElem?_eq_some_iff.mp hc).1
    have hc2 : (toS x).cps[i]? = some c := by simpa [toS] using hc
    refine ⟨by show i < (toS x).cps.size; simpa [toS] using hi, fun v H' y => ?_⟩
    obtain ⟨rfl, c', e', rfl⟩ := y
    have e2 : some c' = some c := e'.symm.trans hc2
    cases e2
    exact ⟨F', .refl, S, Rep.str (x := [c])⟩
/-- a list, a tuple or a text -/
def itA : D → Option (List D)
  | .lst xs => some xs
  | .ro xs => some xs
  | .tup xs => some xs
  | .str x => some (chars x)
  | _ => none
abbrev iAny (K : PySem.W.Frag) (te : TE) : TI := fun σ H R => te σ H fun v H1 => (∃ a, v = .ref a ∧ (∃ xs, SqL K H1 a xs) ∧ R (Itl K a) H1) ∨ (∃ a, v = .ref a ∧ (∃ xs, SqT K H1 a xs) ∧ R (Itt K a) H1) ∨ ∃ x, v = .str x ∧ R (Its x) H1
theorem pi_any {tg : Expr} {te : TE} (he : PE X e te) : PI X tg e (iAny X.K te) := by
  refine ⟨fun pins s σ H R I h => thn (he.run pins s σ H _ I h) fun v s1 ⟨y, H1, I1, r1, q⟩ => ?_⟩
  rcases q with ⟨a, rfl, ⟨xs, hq⟩, q⟩ | ⟨a, rfl, ⟨xs, hq⟩, q⟩ | ⟨x, rfl, q⟩
  · cases r1
    obtain ⟨vals, _, isl, _⟩ := I1.list hq
    exact wpAny_pyIter_list isl.isList (pi_one (tk := s1.toks) I1 _ (turn_list a _) ⟨_, Heap.get?_push_size _ rfl, rfl, rfl⟩ q)
  · cases r1
    obtain ⟨vals, _, ist, _⟩ := I1.tuple hq
    exact wpAny_pyIter_tuple (show s1.heap.IsTuple a vals.toArray from ist) (pi_one (tk := s1.toks) I1 _ (turn_tuple a _) ⟨_, Heap.get?_push_size _ rfl, rfl, rfl⟩ q)
  · obtain ⟨t, rfl⟩ := r1
    cases hw : x.cps.all (· < 128)
    · exact wpAny_pyIter_wide hw (pi_one (tk := s1.toks) I1 _ (turn_str _ x t "str_iterator" (Or.inr rfl)) ⟨_, Heap.get?_push_size _ rfl, rfl, rfl⟩ q)
    · exact wpAny_pyIter_ascii hw (pi_one (tk := s1.toks) I1 _ (turn_str _ x t "str_ascii_iterator" (Or.inl rfl)) ⟨_, Heap.get?_push_size _ rfl, rfl, rfl⟩ q)
def mIt (m : ME) : MM (List D) := fun δ μ => (m δ μ).bind fun s δ1 μ1 => match itA s.d with
  | some ds => .ok ds δ1 μ1
  | none => .bad
theorem Sim.frozen {K : PySem.W.Frag} {mg : Str → Option Value} {Z F H : Hp} {ρ : List Addr} {μ : Mem} {δ : Loc} {σ : St} {p : Addr} {vs : List V} (S : Sim K mg Z F ρ μ δ σ H) (h : F p = some (.lst vs)) : H p = some (.lst vs) := by
  rcases S.le _ _ h with q | ⟨ob, kvs, e, q⟩
  · exact q
  · cases e
theorem ji_any {tg : Expr} {m : ME} (he : JE X W e m) : JI X W tg e (mIt m) := by
  refine (pi_any he.locked).imp fun σ H R ⟨Z, F, ρ, μ, δ, S, q⟩ => ⟨Z, F, ρ, μ, δ, S, (FinE.bind q).imp fun s δ1 μ1 H1 F1 ρ1 l lr S1 ⟨_, _, _, p⟩ v r => ?_⟩
  cases ea : itA s.d with
  | none => simp only [ea] at p; exact p.elim
  | some ds =>
    simp only [ea] at p
    have p' := p H1 F1 ρ1 .refl .refl S1
    unfold itA at ea
    generalize s.d = d at ea r
    cases d <;> first | (cases ea; done) | skip
    · cases ea
      cases (Bor.fr (H := H1) r).str
      exact .inr (.inr ⟨_, rfl, p' _ itr_str⟩)
    · cases ea
      cases r with
      | @lst a vs _ h r =>
        exact .inl ⟨a, rfl, ⟨vs, .of (S1.frozen h)⟩, p' _ (itr_list (fun Z' F' ρ' μ δ σ H to S => .of (S.frozen (to _ _ h))) r)⟩
    · cases ea
      cases r with
      | @tup a vs _ h r =>
        exact .inr (.inl ⟨a, rfl, ⟨vs, h.elim (fun h => .inl (S1.rd h)) .inr⟩, p' _ (itr_tup (fun Z' F' ρ' μ δ σ H to S => h.elim (fun h => .inl (S.rd (Rd.up to h))) .inr) r)⟩)
    · cases ea
      cases r with
      | @ro a vs _ h r =>
        exact .inl ⟨a, rfl, ⟨vs, h.elim (fun h => .inl (S1.rd h)) .inr⟩, p' _ (itr_list (fun Z' F' ρ' μ δ σ H to S => h.elim (fun h => .inl (S.rd (Rd.up to h))) .inr) r)⟩
/-- range -/
def rangeD (lo : Int) (n : Nat) : List D := (List.range n).map fun i => .int (lo + (i : Nat))
theorem itr_range {F : Hp} {ρ : List Addr} {lo : Int} {n : Nat} : ItR X F ρ (Itr lo n) (rangeD lo n) := by
  intro Z' F' ρ' μ δ σ H i to tr S
  refine ⟨fun hl => ?_, fun d hd => ?_⟩
  · show n ≤ i
    simpa [rangeD] using hl
  · unfold rangeD at hd
    rw [List.getElem?_map] at hd
    by_cases hi : i < n
    · rw [List.getElem?_range hi] at hd
      cases hd
      refine ⟨hi, fun x H' y => ?_⟩
      obtain ⟨rfl, rfl⟩ := y
      exact ⟨F', .refl, S, .int⟩
    · rw [List.getElem?_eq_none (by simp; omega)] at hd; cases hd
def mRange1 (o : Opn) : MM (List D) := fun δ μ => (evs [o] δ μ).bind fun rs δ1 μ1 => match OR.ats δ1 μ1 rs with
  | some [.int j] => if -(2 ^ 62) ≤ j ∧ j < 2 ^ 62 then .ok (rangeD 0 j.toNat) δ1 μ1 else .bad
  | _ => .bad
def mRange2 (o o' : Opn) : MM (List D) := fun δ μ => (evs [o, o'] δ μ).bind fun rs δ1 μ1 => match OR.ats δ1 μ1 rs with
  | some [.int i, .int j] => if (-(2 ^ 62) ≤ i ∧ i < 2 ^ 62) ∧ (-(2 ^ 62) ≤ j ∧ j < 2 ^ 62) then .ok (rangeD i (j - i).toNat) δ1 μ1 else .bad
  | _ => .bad
theorem ji_range1 {tg : Expr} {o : Opn} {p : Pos} (hg : Gl X "range") (hm : X.mg "range" = none) (ha : JOs X W [a] [o]) (hs : starEach [a] X.env = [(false, eval a X.env)] := by rfl) : JI X W tg (.Call (.Name "range" p) [a] [] pos) (mRange1 o) := by
  refine (pi_range1 hg hm ha hs).imp fun σ H R ⟨Z, F, ρ, μ, δ, S, q⟩ => ⟨Z, F, ρ, μ, δ, S, (FinE.bind q).imp fun rs δ1 μ1 H1 F1 ρ1 l lr S1 ⟨_, _, _, p⟩ vs hv => ?_⟩
  split at p
  · rename_i j ej
    obtain ⟨v, rfl, hb⟩ := (hv.bor S1 ej).one
    cases hb.int
    by_cases c : -(2 ^ 62) ≤ j ∧ j < 2 ^ 62
    · rw [if_pos c] at p
      exact ⟨j, rfl, c.1, c.2, p H1 F1 ρ1 .refl .refl S1 _ itr_range⟩
    · rw [if_neg c] at p; exact p.elim
  · exact p.elim
theorem ji_range2 {tg : Expr} {o o' : Opn} {p : Pos} (hg : Gl X "range") (hm : X.mg "range" = none) (ha : JOs X W [a, b] [o, o']) (hs : starEach [a, b] X.env = [(false, eval a X.env), (false, eval b X.env)] := by rfl) (hs2 : starEach [b] X.env = [(false, eval b X.env)] := by rfl) : JI X W tg (.Call (.Name "range" p) [a, b] [] pos) (mRange2 o o') := by
  refine (pi_range2 hg hm ha hs hs2).imp fun σ H R ⟨Z, F, ρ, μ, δ, S, q⟩ => ⟨Z, F, ρ, μ, δ, S, (FinE.bind q).imp fun rs δ1 μ1 H1 F1 ρ1 l lr S1 ⟨_, _, _, p⟩ vs hv => ?_⟩
  split at p
  · rename_i i j ej
    obtain ⟨v, w, rfl, hb, hc⟩ := (hv.bor S1 ej).two
    cases hb.int
    cases hc.int
    by_cases c : (-(2 ^ 62) ≤ i ∧ i < 2 ^ 62) ∧ (-(2 ^ 62) ≤ j ∧ j < 2 ^ 62)
    · rw [if_pos c] at p
      exact ⟨i, j, rfl, ⟨c.1.1, c.1.2, c.2.1, c.2.2⟩, p H1 F1 ρ1 .refl .refl S1 _ itr_range⟩
    · rw [if_neg c] at p; exact p.elim
  · exact p.elim

/-! ### for -/
def turnD (f : TgF) (m : MS) : D → MS := fun d δ μ => match f d δ with
  | some δ' => m δ' μ
  | none => .bad
def forD (g : D → MS) : List D → MS
  | [] => fun δ μ => .nx δ μ
  | d :: ds => fun δ μ => (g d δ μ).loop (forD g ds)
def mFor (mi : MM (List D)) (f : TgF) (m : MS) : MS := fun δ μ => (mi δ μ).thn fun ds δ1 μ1 => forD (turnD f m) ds δ1 μ1
theorem js_for {tg iter : Expr} {body : List Stmt} {mi : MM (List D)} {f : TgF} {is : List Nat} {m : MS} (hp : PassesOwn (model X.prog X.w) X.A X.env X.xe) (hc : X.calm = true) (hi : JI X W tg iter mi) (hg : JG X tg f is) (hb : JSs X W body m)
    (hs : ∀ x, foldedSetIterable iter X.env x = pure x := by intro _; rfl) : JS X W (.For tg iter body [] pos) (mFor mi f m) := by
  refine (ps_for hp hc hi hg hb hs).imp fun E σ H ⟨Z, F, ρ, μ, δ, S, q⟩ => ⟨Z, F, ρ, μ, δ, S, (FinS.thn q).imp fun ds δ1 μ1 H1 F1 ρ1 l lr S1 ⟨_, p⟩ J hJ => ?_⟩
  let Wd : Nat → Nat → St → Hp → Prop := fun i k σ H => k = ds.length - i ∧ i ≤ ds.length ∧ ∃ F' ρ' μ δ, (∀ p o, F1 p = some o → F' p = some o) ∧ (∀ (k : Nat) p, ρ1[k]? = some p → ρ'[k]? = some p) ∧ Sim X.K X.mg Z F' ρ' μ δ σ H ∧ FinS X W Z F' ρ' E (forD (turnD f m) (ds.drop i) δ μ)
  refine ⟨Wd, ⟨ds.length, by simp, Nat.zero_le _, F1, ρ1, μ1, δ1, fun _ _ h => h, fun _ _ h => h, S1, by rw [List.drop_zero]; exact p⟩, ?_⟩
  rintro i k σ2 H2 ⟨rfl, hle, F2, ρ2, μ2, δ2, to, tr, S2, p2⟩
  obtain ⟨j1, j2⟩ := hJ Z F2 ρ2 μ2 δ2 σ2 H2 i to tr S2
  by_cases hlt : i < ds.length
  · refine .inr ?_
    have hd : ds.drop i = ds[i] :: ds.drop (i + 1) := List.drop_eq_getElem_cons hlt
    obtain ⟨go, yl⟩ := j2 ds[i] (List.getElem?_eq_getElem hlt)
    refine ⟨go, fun σ' H' => Wd (i + 1) (ds.length - (i + 1)) σ' H', fun σ' H' w => ⟨ds.length - (i + 1), by omega, w⟩, fun x H' y => ?_⟩
    obtain ⟨F3, l3, S3, r3⟩ := yl x H' y
    rw [hd] at p2
    unfold forD at p2
    cases ef : f ds[i] δ2 with
    | none =>
      have e : turnD f m ds[i] δ2 μ2 = .bad := by unfold turnD; rw [ef]
      simp only [e] at p2
      exact p2.elim
    | some δ3 =>
      have e : turnD f m ds[i] δ2 μ2 = m δ3 μ2 := by unfold turnD; rw [ef]
      simp only [e] at p2
      refine ⟨Z, F3, ρ2, μ2, δ2, _, S3, r3, δ3, ef, fun σ4 _ _ S4 => ⟨Z, F3, ρ2, μ2, δ3, S4, (p2.mono l3 .refl).loop fun σ' H' F' ρ' μ' δ' l' lr' S' q' => ?_⟩⟩
      exact ⟨rfl, hlt, F', ρ', μ', δ', fun p o h => l'.to p o (l3.to p o (to p o h)), fun k p h => lr'.to k p (tr k p h), S', q'⟩
  · have e : i = ds.length := by omega
    subst e
    rw [List.drop_length] at p2
    exact .inl ⟨j1 (Nat.le_refl _), p2.nx S2⟩

/-! ### list comprehensions -/
def Out.cut {α : Type} (r : Out α) : Out α := match r with
  | .exc _ _ _ => .bad
  | r => r
def wipeD (δ : Loc) : List Nat → Loc
  | [] => δ
  | v :: vs => (wipeD δ vs).set v none
theorem Sim.wipe {K : PySem.W.Frag} {mg : Str → Option Value} {Z F H : Hp} {ρ : List Addr} {μ : Mem} {δ : Loc} {σ : St} (S : Sim K mg Z F ρ μ δ σ H) : ∀ vs, Sim K mg Z F ρ μ (wipeD δ vs) (L2.wipe σ vs) H
  | [] => S
  | v :: vs => (Sim.wipe S vs).forget
theorem Sim.agree {K : PySem.W.Frag} {mg : Str → Option Value} {Z F H : Hp} {ρ : List Addr} {μ : Mem} {δ : Loc} {σ σ' : St} (S : Sim K mg Z F ρ μ δ σ H) (hl : σ'.length = σ.length) (ha : ∀ (i : Nat) s, δ[i]? = some (some s) → σ'[i]? = σ[i]?) : Sim K mg Z F ρ μ δ σ' H :=
  ⟨S.le, S.zk, hl.trans S.len, fun i s e => by rw [ha i s e]; exact S.slot i s e, fun i j p s s' e1 e2 e3 e4 => S.apart i j p s s' e1 e2 (by rw [← ha i _ e1]; exact e3) (by rw [← ha j _ e2]; exact e4), S.mem, S.mlen, S.nod⟩
theorem wipeD_in {δ : Loc} {i : Nat} {s : Slot} : ∀ {vs : List Nat}, (wipeD δ vs)[i]? = some (some s) → i ∉ vs
  | [], _ => by simp
  | v :: vs, h => by
    unfold wipeD at h
    by_cases z : i = v
    · subst z
      by_cases hl : i < (wipeD δ vs).length
      · rw [List.getElem?_set_self hl] at h; cases h
      · rw [List.getElem?_eq_none (by simpa using hl)] at h; cases h
    · rw [List.getElem?_set_ne (Ne.symm z)] at h
      have := wipeD_in h
      simp [z, this]
theorem wipe_out {σ : St} {i : Nat} : ∀ {vs : List Nat}, i ∉ vs → (L2.wipe σ vs)[i]? = σ[i]?
  | [], _ => rfl
  | v :: vs, h => by
    unfold L2.wipe
    rw [List.getElem?_set_ne (fun z => h (by simp [z]))]
    exact wipe_out fun z => h (List.mem_cons_of_mem _ z)
theorem wipe_same {σ σ' : St} (hl : σ'.length = σ.length) : ∀ {vs : List Nat}, (∀ j : Nat, j ∉ vs → σ'[j]? = σ[j]?) → L2.wipe σ' vs = L2.wipe σ vs := by
  intro vs h
  apply List.ext_getElem?
  intro i
  by_cases hi : i ∈ vs
  · have no : ∀ (τ : St), τ.length = σ.length → ∀ vs : List Nat, i ∈ vs → (L2.wipe τ vs)[i]? = if i < σ.length then some none else none := by
      intro τ hτ vs
      induction vs with
      | nil => intro z; cases z
      | cons v vs ih =>
        intro z
        unfold L2.wipe
        by_cases e : i = v
        · subst e
          by_cases hlt : i < σ.length
          · rw [List.getElem?_set_self (by rw [wipe_length, hτ]; exact hlt), if_pos hlt]
          · rw [List.getElem?_eq_none (by rw [List.length_set, wipe_length, hτ]; omega), if_neg hlt]
        · rw [List.getElem?_set_ne (Ne.symm e)]
          exact ih ((List.mem_cons.mp z).resolve_left e)
    rw [no σ' hl vs hi, no σ rfl vs hi]
  · rw [wipe_out hi, wipe_out hi]
    exact h i hi
def lcD (f : TgF) (tests : MT) (elt : ME) (vs : List Nat) : List D → List D → ME
  | [], acc => fun δ μ => .ok (.own (.lst acc)) δ μ
  | d :: ds, acc => fun δ μ => match f d δ with
    | none => .bad
    | some δ' => (tests δ' μ).cut.bind fun b δ2 μ2 => if b = true then (elt δ2 μ2).cut.bind fun s δ3 μ3 => if acc.length < 16777216 then lcD f tests elt vs ds (acc ++ [s.d]) (wipeD δ3 vs) μ3 else .bad
      else lcD f tests elt vs ds acc (wipeD δ2 vs) μ2
def mLc (mi : MM (List D)) (f : TgF) (tests : MT) (elt : ME) (vs : List Nat) : ME := fun δ μ => (mi δ μ).bind fun ds δ1 μ1 => lcD f tests elt vs ds [] (wipeD δ1 vs) μ1
abbrev W0 : WX := fun _ _ _ _ => False
theorem FinE.cut {Y : Cx} {Z F : Hp} {ρ : List Addr} {σ σ' : St} {α β : Type} {P : β → Loc → Mem → Hp → List Addr → Hp → Prop} {r : Out α} {g : α → Loc → Mem → Out β} {p : Addr} {o : HO} (hK : Y.K = X.K) (hm : Y.mg = X.mg) (h : FinE X W Z F ρ σ P (r.cut.bind g)) :
    FinE Y W0 (upd Z p o) F ρ σ' (fun a δ μ F' ρ' H' => Sim X.K X.mg (upd Z p o) F' ρ' μ δ σ' H' ∧ Le (upd Z p o) F F' ∧ LeR (upd Z p o) ρ ρ' ∧ FinE X W Z F' ρ' σ P (g a δ μ)) r := by
  cases r with
  | ok a δ μ =>
    intro H' F' ρ' l lr S
    rw [hK, hm] at S
    exact ⟨S, l, lr, FinE.mono h l.unguard lr.unguard⟩
  | exc x δ μ => exact h.elim
  | bad => exact h
theorem lc_read {Y : Cx → Prop} {mi : MM (List D)} {f : TgF} {tests : MT} {elt : ME} {vs is : List Nat} {B : Cx} (hK : B.K = X.K) (hm : B.mg = X.mg) (hsub : ∀ j ∈ is, j ∈ vs) : ∀ σ H Q, rdE X W (mLc mi f tests elt vs) σ H Q → tLc (rdI X W mi) (rdG X f is) (rdT B W0 tests) (rdE B W0 elt) vs σ H Q := by
  intro σ H Q ⟨Z, F, ρ, μ, δ, S, q⟩
  refine ⟨Z, F, ρ, μ, δ, S, (FinE.bind q).imp fun ds δ1 μ1 H1 F1 ρ1 l lr S1 ⟨_, _, _, p⟩ J hJ A hA => ?_⟩
  obtain ⟨n1, n2, n3, n4⟩ := S1.notIn hA
  let P : Slot → Loc → Mem → Hp → List Addr → Hp → Prop := fun s δ' _ F' ρ' H' => ∀ v, VR X.K X.mg Z F' ρ' δ' σ H' v s → Q v H'
  let Wd : Nat → Nat → Hp → Prop := fun i k H => k = ds.length - i ∧ i ≤ ds.length ∧ ∃ F' ρ' μ δ vals acc, (∀ p o, F1 p = some o → F' p = some o) ∧ (∀ (k : Nat) p, ρ1[k]? = some p → ρ'[k]? = some p) ∧ Sim X.K X.mg Z F' ρ' μ (wipeD δ vs) (L2.wipe σ vs) H ∧
    Free Z F' ρ' A ∧ (∀ (i : Nat) s, (wipeD δ vs)[i]? = some (some (.own s)) → (L2.wipe σ vs)[i]? ≠ some (some (.ref A))) ∧ H A = some (.lst vals) ∧ RepL X.K X.mg F' ρ' vals acc ∧ FinE X W Z F' ρ' σ P (lcD f tests elt vs (ds.drop i) acc (wipeD δ vs) μ)
  have wout : ∀ {δ : Loc} {s : Slot} (i : Nat), (wipeD δ vs)[i]? = some (some s) → (L2.wipe σ vs)[i]? = σ[i]? := fun i h => wipe_out (wipeD_in h)
  have Sw := (S1.laid (o := .lst []) hA).wipe vs
  refine ⟨Wd, ⟨ds.length, by simp, Nat.zero_le _, F1, ρ1, μ1, δ1, [], [], fun _ _ h => h, fun _ _ h => h, Sw, ⟨n1, n2, n3⟩, fun i s e1 e2 => ?_, upd_same, .nil, by rw [List.drop_zero]; exact p⟩, ?_⟩
  · obtain ⟨w, e3, q', eq', f', r'⟩ := Sw.slot i _ e1
    rw [e2] at e3; cases e3; cases eq'
    have e4 := wout i e1
    rw [e2] at e4
    have e5 : δ1[i]? = some (some (.own s)) := by
      have : ∀ vs : List Nat, (wipeD δ1 vs)[i]? = some (some (.own s)) → δ1[i]? = some (some (.own s)) := by
        intro vs
        induction vs with
        | nil => exact id
        | cons v vs ih =>
          intro h
          have hn := wipeD_in h
          unfold wipeD at h
          rw [List.getElem?_set_ne (fun z => hn (by simp [z]))] at h
          exact ih h
      exact this vs e1
    exact n4 i s e5 e4.symm
  rintro i k H2 ⟨rfl, hle, F2, ρ2, μ2, δ2, vals, acc, to, tr, S2, fA, nA, hL, rL, p2⟩
  obtain ⟨j1, j2⟩ := hJ Z F2 ρ2 μ2 _ _ H2 i to tr S2
  by_cases hlt : i < ds.length
  · refine .inr ?_
    have hd : ds.drop i = ds[i] :: ds.drop (i + 1) := List.drop_eq_getElem_cons hlt
    have SG := S2.guard hL fA nA
    obtain ⟨go, yl⟩ := hJ (upd Z A (.lst vals)) F2 ρ2 μ2 _ _ H2 i to tr SG |>.2 ds[i] (List.getElem?_eq_getElem hlt)
    refine ⟨go, fun H' => Wd (i + 1) (ds.length - (i + 1)) H', fun H' w => ⟨ds.length - (i + 1), by omega, w⟩, fun x H' y => ?_⟩
    obtain ⟨F3, l3, S3, r3⟩ := yl x H' y
    rw [hd] at p2
    unfold lcD at p2
    cases ef : f ds[i] (wipeD δ2 vs) with
    | none => simp only [ef] at p2; exact p2.elim
    | some δ3 =>
      simp only [ef] at p2
      refine ⟨_, F3, ρ2, μ2, _, _, S3, r3, δ3, ef, fun σ4 hσ hl4 S4 => ?_⟩
      have ws : L2.wipe σ4 vs = L2.wipe σ vs := by
        have h1 := wipe_same (σ := L2.wipe σ vs) (σ' := σ4) hl4 (vs := vs) fun j hj => hσ j fun z => hj (hsub j z)
        rw [h1]
        apply wipe_same (wipe_length _ _)
        intro j hj
        exact wipe_out hj
      refine ⟨by rw [ws, wipe_same (σ := σ) (σ' := σ) rfl fun _ _ => rfl], ?_⟩
      -- the tests
      refine ⟨_, F3, ρ2, μ2, δ3, by rw [hK, hm]; exact S4, (FinE.cut (p := A) (o := .lst vals) hK hm (p2.mono l3.unguard .refl)).imp fun b δ5 μ5 H5 F5 ρ5 l5 lr5 _ ⟨S5, l5', lr5', p5⟩ => ?_⟩
      have fin : ∀ {F6 : Hp} {ρ6 : List Addr} {μ6 : Mem} {δ6 : Loc} {H6 H7 : Hp} {vals' : List V} {acc' : List D}, Sim X.K X.mg (upd Z A (.lst vals)) F6 ρ6 μ6 δ6 σ4 H6 → Le (upd Z A (.lst vals)) F3 F6 → LeR (upd Z A (.lst vals)) ρ2 ρ6 →
          (∀ a, a ≠ A → H7 a = H6 a) → H7 A = some (.lst vals') → RepL X.K X.mg F6 ρ6 vals' acc' → FinE X W Z F6 ρ6 σ P (lcD f tests elt vs (ds.drop (i + 1)) acc' (wipeD δ6 vs) μ6) → Wd (i + 1) (ds.length - (i + 1)) H7 := by
        intro F6 ρ6 μ6 δ6 H6 H7 vals' acc' S6 l6 lr6 hne hA7 rL' p6
        have fA6 : Free Z F6 ρ6 A := (fA.on l3 .refl).on l6 lr6
        have S7 := (S6.unguard fA.z).heap hne fA6.f fA6.z fA6.r S6.guardNo
        have S8 := S7.wipe vs
        rw [ws] at S8
        refine ⟨rfl, hlt, F6, ρ6, μ6, δ6, vals', acc', fun p o h => l6.to p o (l3.to p o (to p o h)), fun k p h => lr6.to k p (tr k p h), S8, fA6, fun i' s e1 e2 => ?_, hA7, rL', p6⟩
        obtain ⟨w, e3, q', eq', f', r'⟩ := S8.slot i' _ e1
        rw [e2] at e3; cases e3; cases eq'
        have e4 : (L2.wipe σ4 vs)[i']? = σ4[i']? := wipe_out (wipeD_in e1)
        rw [ws, e2] at e4
        have e5 : δ6[i']? = some (some (.own s)) := by
          have : ∀ vs : List Nat, (wipeD δ6 vs)[i']? = some (some (.own s)) → δ6[i']? = some (some (.own s)) := by
            intro vs
            induction vs with
            | nil => exact id
            | cons v vs ih =>
              intro h
              have hn := wipeD_in h
              unfold wipeD at h
              rw [List.getElem?_set_ne (fun z => hn (by simp [z]))] at h
              exact ih h
          exact this vs e1
        exact S6.guardNo i' s e5 e4.symm
      cases b with
      | false =>
        simp only [if_neg Bool.false_ne_true] at p5 ⊢
        exact fin S5 l5' lr5' (fun _ _ => rfl) S5.guarded (rL.up (fun p o h => l5'.to p o (l3.to p o h)) lr5'.to) p5
      | true =>
        simp only [if_true] at p5 ⊢
        refine ⟨_, F5, ρ5, μ5, δ5, by rw [hK, hm]; exact S5, (FinE.cut (p := A) (o := .lst vals) hK hm p5).imp fun s δ6 μ6 H6 F6 ρ6 l6 lr6 _ ⟨S6, l6', lr6', p6⟩ v vr => ?_⟩
        rw [hK, hm] at vr
        obtain ⟨F7, l7, S7, r7⟩ := S6.lock vr
        by_cases hz : acc.length < 16777216
        · rw [if_pos hz] at p6
          have rL6 := rL.up (fun p o h => l7.to p o (l6'.to p o (l5'.to p o (l3.to p o h)))) fun k p h => lr6'.to k p (lr5'.to k p h)
          refine ⟨vals, S7.guarded, by rw [rL.len, line_eq]; exact hz, ?_⟩
          exact fin S7 (l5'.trans (l6'.trans l7)) (lr5'.trans lr6') (fun a ne => upd_ne ne) upd_same (rL6.app (.cons r7 .nil)) (p6.mono l7.unguard .refl)
        · rw [if_neg hz] at p6; exact p6.elim
  · have e : i = ds.length := by omega
    subst e
    rw [List.drop_length] at p2
    refine .inl ⟨j1 (Nat.le_refl _), ?_⟩
    have S3 : Sim X.K X.mg Z F2 ρ2 μ2 (wipeD δ2 vs) σ H2 := S2.agree (wipe_length _ _).symm fun i s e => (wout i e).symm
    exact p2 H2 F2 ρ2 .refl .refl S3 (.ref A) ⟨⟨A, rfl, fA, vals, hL, rL⟩, fun o p z1 z2 i o' e1 e2 => by
      cases z2
      exact nA i o' e1 (by rw [wout i e1]; exact e2)⟩
abbrev JTs (X : Cx) (W : WX) (ifs : List Expr) (m : MT) : Prop := PTs X ifs (rdT X W m)
def mYes : MT := fun δ μ => .ok true δ μ
theorem jts_nil : JTs X W [] mYes := ⟨fun pins s σ H Q I ⟨Z, F, ρ, μ, δ, S, q⟩ => pts_nil.run pins s σ H Q I (q H F ρ .refl .refl S)⟩
theorem jts_one {c : Expr} {m : MT} (h : JT X W c m) : JTs X W [c] m := pts_one h
theorem je_lc {elt tg iter : Expr} {ifs : List Expr} {scope : Scope} {own : List (Str × Nat)} {mi : MM (List D)} {f : TgF} {is : List Nat} {tests : MT} {m : ME} (hc : X.calm = true) (hN : X.N.Nodup) (hi : JI X W tg iter mi) (ok : BlkOk X.N X.env.scope scope own)
    (hg : ∀ (s : Shared) (H : Hp) (C : Addr) (cl : List (Str × Addr)) (fp : List Addr), JG (X.blk s H scope (compEnvC scope cl C X.env) fp) tg f is) (ht : ∀ (s : Shared) (H : Hp) (C : Addr) (cl : List (Str × Addr)) (fp : List Addr), JTs (X.blk s H scope (compEnvC scope cl C X.env) fp) W0 ifs tests)
    (he : ∀ (s : Shared) (H : Hp) (C : Addr) (cl : List (Str × Addr)) (fp : List Addr), JE (X.blk s H scope (compEnvC scope cl C X.env) fp) W0 elt m) (hsub : ∀ j ∈ is, j ∈ own.map (·.2)) (hs : ∀ x, foldedSetIterable iter X.env x = pure x := by intro _; rfl) :
    JE X W (.ListComp elt [⟨tg, iter, ifs, 0⟩] scope pos) (mLc mi f tests m (own.map (·.2))) :=
  (pe_lc (g := rdG X f is) (tt := rdT X W0 tests) (te := rdE X W0 m) hc hN hi ok hg ht he hs).imp (lc_read (Y := fun _ => True) (B := X) rfl rfl hsub)
theorem js_setLc {i : Nat} {y : Str} {py : Pos} {elt tg iter : Expr} {ifs : List Expr} {scope : Scope} {own : List (Str × Nat)} {spos : Pos} {mi : MM (List D)} {f : TgF} {is : List Nat} {tests : MT} {m : ME} (hc : X.calm = true) (hN : X.N.Nodup) (hy : X.N[i]? = some y) (hyl : X.env.scope.names.lookup y = some .local)
    (hsw : swapsWith (.ListComp elt [⟨tg, iter, ifs, 0⟩] scope pos) (some (.Name y py)) spos.line X.env = pure true) (hi : JI X W tg iter mi) (ok : BlkOk X.N X.env.scope scope own)
    (hg : ∀ (s : Shared) (H : Hp) (C : Addr) (cl : List (Str × Addr)) (fp : List Addr), JG (X.blk s H scope (compEnvC scope cl C X.env) fp) tg f is) (ht : ∀ (s : Shared) (H : Hp) (C : Addr) (cl : List (Str × Addr)) (fp : List Addr), JTs (X.blk s H scope (compEnvC scope cl C X.env) fp) W0 ifs tests)
    (he : ∀ (s : Shared) (H : Hp) (C : Addr) (cl : List (Str × Addr)) (fp : List Addr), JE (X.blk s H scope (compEnvC scope cl C X.env) fp) W0 elt m) (hsub : ∀ j ∈ is, j ∈ own.map (·.2)) (hs : ∀ x, foldedSetIterable iter X.env x = pure x := by intro _; rfl) :
    JS X W (.Assign [.Name y py] (.ListComp elt [⟨tg, iter, ifs, 0⟩] scope pos) spos) (mSet i (mLc mi f tests m (own.map (·.2)))) :=
  (ps_setLc (g := rdG X f is) (tt := rdT X W0 tests) (te := rdE X W0 m) hc hN hy hyl hsw hi ok hg ht he hs).imp fun E σ H h => by
    obtain ⟨Z, F, ρ, μ, δ, S, q⟩ := h
    refine lc_read (Y := fun _ => True) (B := X) rfl rfl hsub σ H _ ⟨Z, F, ρ, μ, δ, S, (FinS.thn q).imp fun a δ1 μ1 H1 F1 ρ1 l lr S1 ⟨_, p⟩ v vr => p.nx (S1.put vr)⟩

/-! ### a, b = x, y -/
def mPar (i j : Nat) (ma mb : ME) : MS := fun δ μ => (ma δ μ).thn fun s δ1 μ1 => (mb δ1 μ1).thn fun t δ2 μ2 => .nx ((δ2.set i (some s)).set j (some t)) μ2
theorem js_par {i j : Nat} {x y : Str} {ma mb : ME} {px py pt : Pos} {kt k2 pt2} (hc : X.calm = true) (hN : X.N.Nodup) (hi : X.N[i]? = some x) (hj : X.N[j]? = some y) (hij : i ≠ j)
    (hx : X.env.scope.names.lookup x = some .local) (hy : X.env.scope.names.lookup y = some .local) (ha : JE X W a ma) (hb : JE X W b mb)
    (hw : swappedStores [.Tuple [.Name x px, .Name y py] kt pt] (.Tuple [a, b] k2 pt2) X.env = pure (some [x, y]))
    (hs : swapsWithSole [.Tuple [.Name x px, .Name y py] kt pt] (.Tuple [a, b] k2 pt2) pos.line X.env = pure false := by rfl)
    (h1 : starEach [a, b] X.env = (false, eval a X.env) :: starEach [b] X.env := by rfl) (h2 : starEach [b] X.env = (false, eval b X.env) :: starEach [] X.env := by rfl) :
    JS X W (.Assign [.Tuple [.Name x px, .Name y py] kt pt] (.Tuple [a, b] k2 pt2) pos) (mPar i j ma mb) := by
  refine (ps_par hc hN hi hj hij hx hy (pa_cons ha (pa_cons hb pa_nil h2) h1) hw hs).imp fun E σ H ⟨Z, F, ρ, μ, δ, S, q⟩ => ?_
  refine ⟨Z, F, ρ, μ, δ, S, (FinS.thn q).imp fun s δ1 μ1 H1 F1 ρ1 l lr S1 ⟨_, p⟩ v vr => ?_⟩
  cases s with
  | fr d =>
    refine ⟨Z, F1, ρ1, μ1, δ1, S1, (FinS.thn p).imp fun t δ2 μ2 H2 F2 ρ2 l2 lr2 S2 ⟨_, p2⟩ w wr => ⟨v, w, rfl, p2.nx ?_⟩⟩
    have r : Rep X.K X.mg F2 ρ2 v d := Rep.up l2.to lr2.to vr.r
    refine (S2.put (i := i) (v := v) (s := .fr d) ⟨r, fun o p z => by cases z⟩).put ⟨wr.r, fun o p z1 z2 k o' e1 e2 => ?_⟩
    by_cases z : k = i
    · subst z
      by_cases hl : k < δ2.length
      · rw [List.getElem?_set_self hl] at e1; cases e1
      · rw [List.getElem?_eq_none (by simpa using hl)] at e1; cases e1
    · rw [List.getElem?_set_ne (Ne.symm z)] at e1 e2
      exact wr.no o p z1 z2 k o' e1 e2
  | own c =>
    obtain ⟨A, ev, fA, rA⟩ := vr.r
    obtain ⟨o, hA⟩ := rA.some
    have SG := S1.guard hA fA (vr.no c A rfl ev)
    refine ⟨upd Z A o, F1, ρ1, μ1, δ1, SG, ?_⟩
    have p' := FinS.thn (σ := σ) p
    generalize mb δ1 μ1 = r2 at p'
    cases r2 with
    | bad => exact p'
    | exc x δ2 μ2 => exact fun c' d' H2 F2 ρ2 l2 lr2 S2 er => p' c' d' H2 F2 ρ2 l2.unguard lr2.unguard (S2.unguard fA.z) er
    | ok t δ2 μ2 =>
      intro H2 F2 ρ2 l2 lr2 S2 w wr
      obtain ⟨_, p2⟩ := p' H2 F2 ρ2 l2.unguard lr2.unguard (S2.unguard fA.z)
      refine ⟨v, w, rfl, p2.nx ?_⟩
      have fA2 := fA.on l2 lr2
      have hA2 : H2 A = some o := S2.guarded
      have vr2 : VR X.K X.mg Z F2 ρ2 δ2 σ H2 v (.own c) := ⟨⟨A, ev, fA2, rA.up l2.to lr2.to (by rw [hA2, hA])⟩, fun o' p' z1 z2 => by
        rw [ev] at z2; cases z2
        exact S2.guardNo⟩
      have S3 := (S2.unguard fA.z).put (i := i) vr2
      cases t with
      | fr d => exact S3.put ⟨wr.r, fun o p z => by cases z⟩
      | own c2 =>
        obtain ⟨B, ew, fB, rB⟩ := wr.r
        have nBA : B ≠ A := (guard_z fB.z).1
        refine S3.put ⟨⟨B, ew, ⟨fB.f, (guard_z fB.z).2, fB.r⟩, rB⟩, fun o p z1 z2 k o' e1 e2 => ?_⟩
        rw [ew] at z2; cases z2
        by_cases z : k = i
        · subst z
          by_cases hl : k < σ.length
          · rw [List.getElem?_set_self hl, ev] at e2
            cases e2
            exact nBA rfl
          · rw [List.getElem?_eq_none (by simpa using hl)] at e2; cases e2
        · rw [List.getElem?_set_ne (Ne.symm z)] at e1 e2
          exact wr.no c2 B rfl ew k o' e1 e2
end
end FL

/-! Part G: join, slices, what changes an object. -/
namespace FL
open PySem L2

section
variable {X : Cx} {W : WX} {e a b o : Expr} {es : List Expr} {pos p apos : Pos}
/-! ### join -/
theorem joinT_S (x : Tx) : ∀ zs : List Tx, Str.join (toS x) (zs.map toS) = toS (joinT x zs)
  | [] => rfl
  | [z] => rfl
  | z :: y :: r => by
    show toS z ++ toS x ++ Str.join (toS x) ((y :: r).map toS) = toS (z ++ x ++ joinT x (y :: r))
    rw [joinT_S x (y :: r), toS_app, toS_app]
theorem lens_S (zs : List Tx) : ((zs.map toS).map (·.length)).sum = (zs.map List.length).sum := by
  congr 1
  rw [List.map_map]
  exact List.map_congr_left fun z _ => toS_len z
abbrev rJoin (K : PySem.W.Frag) : V → List V → Hp → VK → Prop := fun x xs H Q => ∃ a p, ∃ ys : List Str, x = .str a ∧ xs = [.ref p] ∧ (SqL K H p (ys.map V.str) ∨ SqT K H p (ys.map V.str)) ∧ (ys.map (·.length)).sum + ys.length * a.length ≤ 16777216 ∧ Q (.str (Txt.join a ys)) H
theorem j_join : RMJ X (rJoin X.K) gJoin := by
  intro Z F ρ μ δ σ H x xs dx ds s Q S bx bs e q
  have fin : ∀ {t : Tx} {zs : List Tx} {p : Addr}, x = .str (toS t) → xs = [.ref p] → (SqL X.K H p ((zs.map toS).map V.str) ∨ SqT X.K H p ((zs.map toS).map V.str)) →
      (if decide ((zs.map List.length).sum + t.length * zs.length ≤ 16777216) = true then some (Slot.fr (.str (joinT t zs))) else none) = some s → rJoin X.K x xs H Q := by
    intro t zs p e1 e2 hq he
    by_cases hz : (zs.map List.length).sum + t.length * zs.length ≤ 16777216
    · rw [if_pos (decide_eq_true hz)] at he
      cases he
      refine ⟨toS t, p, zs.map toS, e1, e2, hq, ?_, ?_⟩
      · rw [lens_S, List.length_map, toS_len, Nat.mul_comm]; exact hz
      · rw [TL.join_eq, joinT_S]
        exact q _ H F .refl S ⟨.str, fun o p z => by cases z⟩
    · rw [if_neg (by simpa using hz)] at he; cases he
  unfold gJoin at e
  split at e
  · rename_i t ys
    cases ez : strsD ys with
    | none => simp only [ez] at e; cases e
    | some zs =>
      simp only [ez] at e
      obtain ⟨v, rfl, hb⟩ := bs.one
      obtain ⟨p, vs, rfl, h, r⟩ := hb.lst S
      rw [strsD_map ez] at r
      have ev := r.strs
      subst ev
      exact fin bx.str rfl (.inl (.of h)) e
  · rename_i t ys
    cases ez : strsD ys with
    | none => simp only [ez] at e; cases e
    | some zs =>
      simp only [ez] at e
      obtain ⟨v, rfl, hb⟩ := bs.one
      obtain ⟨p, vs, rfl, h, r⟩ := hb.tup S
      rw [strsD_map ez] at r
      have ev := r.strs
      subst ev
      exact fin bx.str rfl (.inr h) e
  · cases e

/-! ### slices -/
def cutD {α : Type} (xs : List α) (lo hi : Option Int) : List α := (xs.drop (HT.sIx xs.length 0 lo)).take (HT.sIx xs.length xs.length hi - HT.sIx xs.length 0 lo)
def SlJ (X : Cx) (r : V → Option Int → Option Int → Hp → VK → Prop) (g : D → Option Int → Option Int → Option Slot) : Prop := ∀ Z F ρ μ δ σ H x dx lo hi s Q, Sim X.K X.mg Z F ρ μ δ σ H → Bor X.K X.mg F ρ H x dx → g dx lo hi = some s →
  (∀ v H' F', Le Z F F' → Sim X.K X.mg Z F' ρ μ δ σ H' → VR X.K X.mg Z F' ρ δ σ H' v s → Q v H') → r x lo hi H Q
def rdP (X : Cx) (W : WX) (m : MM (Option Int)) : TO := fun σ H Q => ∃ Z F ρ μ δ, Sim X.K X.mg Z F ρ μ δ σ H ∧ FinE X W Z F ρ σ (fun i _ _ _ _ H' => Q i H') (m δ μ)
theorem _root_.L2.PO.imp {X : Cx} {e : Option Expr} {t t' : TO} (h : PO X e t) (hi : ∀ σ H Q, t' σ H Q → t σ H Q) : PO X e t' := ⟨fun pins s σ H Q I q => h.run pins s σ H Q I (hi σ H Q q)⟩
abbrev JP (X : Cx) (W : WX) (e : Option Expr) (m : MM (Option Int)) : Prop := PO X e (rdP X W m)
def mNoP : MM (Option Int) := fun δ μ => .ok none δ μ
def mP (m : ME) : MM (Option Int) := fun δ μ => (m δ μ).bind fun s δ1 μ1 => match s with
  | .fr (.int i) => .ok (some i) δ1 μ1
  | _ => .bad
theorem jp_none : JP X W none mNoP := po_none.imp fun σ H Q ⟨Z, F, ρ, μ, δ, S, q⟩ => q H F ρ .refl .refl S
theorem jp_some {m : ME} (h : JE X W e m) : JP X W (some e) (mP m) := by
  refine (po_some h).imp fun σ H Q ⟨Z, F, ρ, μ, δ, S, q⟩ => ⟨Z, F, ρ, μ, δ, S, (FinE.bind q).imp fun s δ1 μ1 H1 F1 ρ1 l lr S1 ⟨_, _, _, p⟩ v vr => ?_⟩
  cases s with
  | own o => exact p.elim
  | fr d =>
    cases d with
    | int i =>
      cases vr.r
      exact ⟨i, rfl, p H1 F1 ρ1 .refl .refl S1⟩
    | _ => exact p.elim
def mSl (g : D → Option Int → Option Int → Option Slot) (o : Opn) (lo hi : MM (Option Int)) : ME := fun δ μ => (o.ev δ μ).bind fun r δ1 μ1 => (lo δ1 μ1).bind fun l δ2 μ2 => (hi δ2 μ2).bind fun h δ3 μ3 =>
  match r.at δ3 μ3 with
  | some d => lift (g d l h) δ3 μ3
  | none => .bad
theorem je_slice {lo hi : Option Expr} {p2 : Pos} {r : V → Option Int → Option Int → Hp → VK → Prop} {g : D → Option Int → Option Int → Option Slot} {oo : Opn} {ml mh : MM (Option Int)} (hs : SlR X r) (hr : SlJ X r g) (ho : JO X W e oo) (hl : JP X W lo ml) (hh : JP X W hi mh) :
    JE X W (.Subscript e (.Slice lo hi none p2) pos) (mSl g oo ml mh) := by
  refine (pe_slice hs ho hl hh).imp fun σ H Q ⟨Z, F, ρ, μ, δ, S, q⟩ => ⟨Z, F, ρ, μ, δ, S, (FinE.bind q).imp fun ra δ1 μ1 H1 F1 ρ1 l1 lr1 S1 ⟨_, _, _, p⟩ x hx => ?_⟩
  refine ⟨Z, F1, ρ1, μ1, δ1, S1, p.bind.imp fun l δ2 μ2 H2 F2 ρ2 l2 lr2 S2 ⟨_, _, _, p2⟩ => ?_⟩
  refine ⟨Z, F2, ρ2, μ2, δ2, S2, p2.bind.imp fun h δ3 μ3 H3 F3 ρ3 l3 lr3 S3 ⟨_, _, _, p3⟩ => ?_⟩
  cases ea : ra.at δ3 μ3 with
  | none => simp only [ea] at p3; exact p3.elim
  | some d =>
    simp only [ea] at p3
    unfold lift at p3
    cases eg : g d l h with
    | none => simp only [eg] at p3; exact p3.elim
    | some s =>
      simp only [eg] at p3
      exact hr Z F3 ρ3 μ3 δ3 σ H3 x d l h s Q S3 (((hx.up l2 lr2).up l3 lr3).bor S3 ea) eg fun v H' F' l' S' vr => p3 H' F' ρ3 l' .refl S' v vr
def gSl : D → Option Int → Option Int → Option Slot
  | .str x, lo, hi => if x.length ≤ 16777216 then some (.fr (.str (cutD x lo hi))) else none
  | .lst x, lo, hi => some (.own (.lst (cutD x lo hi)))
  | .ro x, lo, hi => some (.own (.lst (cutD x lo hi)))
  | .tup x, lo, hi => some (.fr (.tup (cutD x lo hi)))
  | _, _, _ => none
abbrev rSlAny (K : PySem.W.Frag) : V → Option Int → Option Int → Hp → VK → Prop := fun x lo hi H Q => rSlS x lo hi H Q ∨ (rSlL K x lo hi H Q ∨ rSlA K x lo hi H Q)
theorem o_slice : SlR X (rSlAny X.K) := sl_str.or (sl_list.or sl_tupA)
theorem sIx_le {n d : Nat} (hd : d ≤ n) (i : Option Int) : HT.sIx n d i ≤ n := HT.sIx_le _ _ hd _
theorem cut_whole {α : Type} {xs : List α} {lo hi : Option Int} (h1 : HT.sIx xs.length 0 lo = 0) (h2 : HT.sIx xs.length xs.length hi = xs.length) : cutD xs lo hi = xs := by
  unfold cutD
  rw [h1, h2]; simp
theorem j_slice : SlJ X (rSlAny X.K) gSl := by
  intro Z F ρ μ δ σ H x dx lo hi s Q S bx e q
  unfold gSl at e
  cases dx <;> first | (cases e; done) | skip
  · rename_i t
    by_cases hz : t.length ≤ 16777216
    · simp only [hz, if_true] at e
      cases e
      cases bx.str
      refine .inl ⟨_, rfl, by rw [toS_len, line_eq]; exact hz, ?_⟩
      have ec : cutS (toS t) lo hi = toS (cutD t lo hi) := by
        unfold cutS cutD
        rw [toS_len]
        rfl
      rw [ec]
      exact q _ H F .refl S ⟨.str, fun o p z => by cases z⟩
    · simp only [hz] at e; cases e
  · rename_i ds
    cases e
    obtain ⟨p, vs, rfl, h, r⟩ := bx.lst S
    refine .inr (.inl ⟨p, vs, rfl, .of h, fun a ha => ?_⟩)
    have r2 : RepL X.K X.mg F ρ (cutV vs lo hi) (cutD ds lo hi) := by unfold cutV cutD; rw [r.len]; exact (r.drop _).take _
    obtain ⟨S', vr⟩ := vr_newL S ha r2
    exact q _ _ F .refl S' vr
  · rename_i ds
    cases e
    have rp := bx.rep fun o e => by cases o <;> cases e
    obtain ⟨p, vs, rfl, h, r⟩ := bx.tup S
    refine .inr (.inr ⟨p, vs, rfl, h, fun hw => ?_, fun _ a ha => ?_⟩)
    · rw [r.len] at hw
      rw [cut_whole hw.1 hw.2] at q
      exact q _ H F .refl S ⟨rp, fun o p z => by cases z⟩
    · have r2 : RepL X.K X.mg F ρ (cutV vs lo hi) (cutD ds lo hi) := by unfold cutV cutD; rw [r.len]; exact (r.drop _).take _
      obtain ⟨F', l', S', vr⟩ := vr_newT S ha r2
      exact q _ _ F' l' S' vr
  · rename_i ds
    cases e
    obtain ⟨p, vs, rfl, h, r⟩ := bx.ro S
    refine .inr (.inl ⟨p, vs, rfl, h, fun a ha => ?_⟩)
    have r2 : RepL X.K X.mg F ρ (cutV vs lo hi) (cutD ds lo hi) := by unfold cutV cutD; rw [r.len]; exact (r.drop _).take _
    obtain ⟨S', vr⟩ := vr_newL S ha r2
    exact q _ _ F .refl S' vr

/-! ### objects that are changed -/
/-- the object that is meant, and what is to be written back -/
def recv (δ : Loc) (μ : Mem) : OR → Option (Own × (Own → Loc × Mem))
  | .d (.obj k) => match μ[k]? with
    | some c => some (c, fun c' => (δ, μ.set k c'))
    | none => none
  | .d _ => none
  | .i j => match δ[j]? with
    | some (some (.own c)) => some (c, fun c' => (δ.set j (some (.own c')), μ))
    | some (some (.fr (.obj k))) => match μ[k]? with
      | some c => some (c, fun c' => (δ, μ.set k c'))
      | none => none
    | _ => none
theorem recv_ok {K : PySem.W.Frag} {mg : Str → Option Value} {Z F H : Hp} {ρ : List Addr} {μ : Mem} {δ : Loc} {σ : St} {v : V} {r : OR} {c : Own} {w : Own → Loc × Mem} (S : Sim K mg Z F ρ μ δ σ H) (h : OrR K mg F ρ σ v r) (e : recv δ μ r = some (c, w)) :
    ∃ p, v = .ref p ∧ OwnR K mg F ρ H p c ∧ ∀ o c', OwnR K mg F ρ (upd H p o) p c' → Sim K mg Z F ρ (w c').2 (w c').1 σ (upd H p o) := by
  have mem : ∀ {k : Nat}, Rep K mg F ρ v (.obj k) → (match μ[k]? with | some c => some (c, fun c' => (δ, μ.set k c')) | none => (none : Option (Own × (Own → Loc × Mem)))) = some (c, w) →
      ∃ p, v = .ref p ∧ OwnR K mg F ρ H p c ∧ ∀ o c', OwnR K mg F ρ (upd H p o) p c' → Sim K mg Z F ρ (w c').2 (w c').1 σ (upd H p o) := by
    intro k hr he
    cases hr with
    | @obj _ p hp =>
      cases em : μ[k]? with
      | none => simp only [em] at he; cases he
      | some c0 =>
        simp only [em] at he
        cases he
        obtain ⟨a, ea, _, _, r⟩ := S.mem k _ em
        rw [hp] at ea; cases ea
        exact ⟨p, rfl, r, fun o c' hc => S.writeM em hp hc⟩
  cases r with
  | d d =>
    cases d <;> first | (cases e; done) | skip
    exact mem h e
  | i j =>
    have h' : σ[j]? = some (some v) := h
    unfold recv at e
    cases ej : δ[j]? with
    | none => simp only [ej] at e; cases e
    | some so =>
      cases so with
      | none => simp only [ej] at e; cases e
      | some s =>
        obtain ⟨u, eu, rr⟩ := S.slot j s ej
        rw [h'] at eu; cases eu
        cases s with
        | own c0 =>
          simp only [ej] at e
          cases e
          obtain ⟨p, rfl, _, ro⟩ := rr
          exact ⟨p, rfl, ro, fun o c' hc => S.write ej h' hc⟩
        | fr d =>
          cases d <;> first | (simp only [ej] at e; cases e; done) | skip
          simp only [ej] at e
          exact mem rr e
def ownTy (T : String) : Own → Bool
  | .lst _ => T == "list"
  | .dct _ _ => T == "dict"
def MutJ (X : Cx) (r : V → List V → Hp → VK → Prop) (g : Own → List D → Option (D × Own)) : Prop := ∀ Z F ρ μ δ σ H p c xs ds d c' Q, Sim X.K X.mg Z F ρ μ δ σ H → OwnR X.K X.mg F ρ H p c → RepL X.K X.mg F ρ xs ds → g c ds = some (d, c') →
  (∀ v o, Rep X.K X.mg F ρ v d → OwnR X.K X.mg F ρ (upd H p o) p c' → Q v (upd H p o)) → r (.ref p) xs H Q
/-- o.m(e, ..), o is changed -/
def mMut (T : String) (g : Own → List D → Option (D × Own)) (o : Opn) (ms : List ME) : ME := fun δ μ => (o.ev δ μ).bind fun r δ1 μ1 => match recv δ1 μ1 r with
  | some (c0, _) => if ownTy T c0 = true then (evA ms δ1 μ1).bind fun ds δ2 μ2 => match recv δ2 μ2 r with
      | some (c, w) => match g c ds with
        | some (d, c') => .ok (.fr d) (w c').1 (w c').2
        | none => .bad
      | none => .bad
    else .bad
  | none => .bad
theorem ownTy_V {F H : Hp} {ρ : List Addr} {p : Addr} {c : Own} {T : String} (hT : T = "list") (h : OwnR X.K X.mg F ρ H p c) (e : ownTy T c = true) : tyV X.K T (.ref p) H := by
  subst hT
  cases c with
  | lst xs => obtain ⟨vs, h, r⟩ := h; exact .inl ⟨rfl, vs, .of h⟩
  | dct ks xs =>
    have e' : (("list" : String) == "dict") = true := e
    exact absurd e' (by decide)
theorem mMut_read {T : String} {r : V → List V → Hp → VK → Prop} {g : Own → List D → Option (D × Own)} {oo : Opn} {ms : List ME} (hT : T = "list") (hr : MutJ X r g) : ∀ σ H Q, rdE X W (mMut T g oo ms) σ H Q → tBM X.K T r (rdO X W oo) (rdA X W ms) σ H Q := by
  intro σ H Q ⟨Z, F, ρ, μ, δ, S, q⟩
  refine ⟨Z, F, ρ, μ, δ, S, (FinE.bind q).imp fun ra δ1 μ1 H1 F1 ρ1 l lr S1 ⟨_, _, _, p⟩ x hx => ?_⟩
  cases e0 : recv δ1 μ1 ra with
  | none => simp only [e0] at p; exact p.elim
  | some cw =>
    obtain ⟨c0, w0⟩ := cw
    simp only [e0] at p
    obtain ⟨pa, rfl, ow, _⟩ := recv_ok S1 hx e0
    by_cases ht : ownTy T c0 = true
    · rw [if_pos ht] at p
      refine ⟨ownTy_V hT ow ht, Z, F1, ρ1, μ1, δ1, S1, p.bind.imp fun ds δ2 μ2 H2 F2 ρ2 l2 lr2 S2 ⟨_, _, _, p2⟩ xs hxs => ?_⟩
      cases e1 : recv δ2 μ2 ra with
      | none => simp only [e1] at p2; exact p2.elim
      | some cw =>
        obtain ⟨c, w⟩ := cw
        simp only [e1] at p2
        cases eg : g c ds with
        | none => simp only [eg] at p2; exact p2.elim
        | some dc =>
          obtain ⟨d, c'⟩ := dc
          simp only [eg] at p2
          obtain ⟨pa', ep, ow2, hw⟩ := recv_ok S2 (hx.up l2 lr2) e1
          cases ep
          exact hr Z F2 ρ2 μ2 δ2 σ H2 _ c xs ds d c' Q S2 ow2 hxs eg fun v o' rv ho => p2 _ F2 ρ2 .refl .refl (hw o' c' ho) v ⟨rv, fun o p z => by cases z⟩
    · rw [if_neg ht] at p; exact p.elim
theorem je_mut {id : String} {name : Str} {r : V → List V → Hp → VK → Prop} {g : Own → List D → Option (D × Own)} {oo : Opn} {ms : List ME} (pa : PlainAttrs "list") (slot : PySem.Slot "list" name id) (hty : typeOf (.builtin id) = pure (.type "method_descriptor")) (hm : MtR X id r) (hr : MutJ X r g) (ho : JO X W o oo) (ha : JA X W (e :: es) ms)
    (hbase : attributeBase o name X.env (eval o X.env) = eval o X.env := by rfl)
    (hfew : ((backTo pos (starEach (e :: es) X.env)).all (fun x => !x.1) && (backToKw pos (keywordEach [] X.env)).all (fun x => x.1.isSome)
      && decide ((e :: es).length + ([] : List Keyword).length + (if ([] : List Keyword).isEmpty then 0 else 1) < 30)) = true := by rfl)
    (hline : (apos.endLine == pos.line) = true := by rfl) (hs : starEach (e :: es) X.env = (false, eval e X.env) :: starEach es X.env := by rfl) (hplain : (backTo pos (starEach es X.env)).any (·.1) = false := by rfl) :
    JE X W (.Call (.Attribute o name apos) (e :: es) [] pos) (mMut "list" g oo ms) :=
  (pe_bm pa slot hty hm ho ha hbase hfew hline hs hplain).imp (mMut_read rfl hr)
theorem je_mut0 {id : String} {name : Str} {r : V → List V → Hp → VK → Prop} {g : Own → List D → Option (D × Own)} {oo : Opn} (pa : PlainAttrs "list") (slot : PySem.Slot "list" name id) (hty : typeOf (.builtin id) = pure (.type "method_descriptor")) (hm : MtR X id r) (hr : MutJ X r g) (ho : JO X W o oo)
    (hbase : attributeBase o name X.env (eval o X.env) = eval o X.env := by rfl) (hline : (apos.endLine == pos.line) = true := by rfl) :
    JE X W (.Call (.Attribute o name apos) [] [] pos) (mMut "list" g oo []) := by
  refine (pe_bm0 pa slot hty hm ho hbase hline).imp fun σ H Q h => ?_
  obtain ⟨Z, F, ρ, μ, δ, S, q⟩ := mMut_read rfl hr σ H Q h
  refine ⟨Z, F, ρ, μ, δ, S, q.imp fun ra δ1 μ1 H1 F1 ρ1 l lr S1 p x hx => ?_⟩
  obtain ⟨ty, Z2, F2, ρ2, μ2, δ2, S2, q2⟩ := p x hx
  exact ⟨ty, q2 H1 F2 ρ2 .refl .refl S2 [] .nil⟩
def gAppend : Own → List D → Option (D × Own)
  | .lst xs, [d] => if xs.length < 16777216 then some (.non, .lst (xs ++ [d])) else none
  | _, _ => none
theorem RepL.single {F : Hp} {ρ : List Addr} {vs : List V} {d : D} (h : RepL X.K X.mg F ρ vs [d]) : ∃ v, vs = [v] ∧ Rep X.K X.mg F ρ v d := by
  cases h with
  | cons h t => cases t; exact ⟨_, rfl, h⟩
theorem RepL.none_of {F : Hp} {ρ : List Addr} {vs : List V} (h : RepL X.K X.mg F ρ vs []) : vs = [] := by cases h; rfl
theorem j_append : MutJ X rAppend gAppend := by
  intro Z F ρ μ δ σ H p c xs ds d c' Q S ow rx e q
  unfold gAppend at e
  split at e
  · rename_i ys d0
    by_cases hz : ys.length < 16777216
    · rw [if_pos hz] at e
      cases e
      obtain ⟨v, rfl, hv⟩ := rx.single
      obtain ⟨vs, hH, r⟩ := ow
      exact ⟨p, vs, v, rfl, rfl, hH, by rw [r.len, line_eq]; exact hz, q _ _ .non ⟨_, upd_same, r.app (.cons hv .nil)⟩⟩
    · rw [if_neg hz] at e; cases e
  · cases e
def gPop0 : Own → List D → Option (D × Own)
  | .lst xs, [] => match xs[xs.length - 1]? with
    | some d => some (d, .lst xs.dropLast)
    | none => none
  | _, _ => none
theorem RepL.dropLast {F : Hp} {ρ : List Addr} {vs : List V} {ds : List D} (h : RepL X.K X.mg F ρ vs ds) : RepL X.K X.mg F ρ vs.dropLast ds.dropLast := by
  rw [List.dropLast_eq_take, List.dropLast_eq_take, h.len]
  exact h.take _
theorem j_pop0 : MutJ X rPop gPop0 := by
  intro Z F ρ μ δ σ H p c xs ds d c' Q S ow rx e q
  unfold gPop0 at e
  split at e
  · rename_i ys
    cases ex : ys[ys.length - 1]? with
    | none => simp only [ex] at e; cases e
    | some d0 =>
      simp only [ex] at e
      cases e
      obtain ⟨vs, hH, r⟩ := ow
      obtain ⟨v, ev, rv⟩ := r.get ex
      exact ⟨p, vs, v, rfl, rx.none_of, hH, by rw [r.len]; exact ev, q _ _ rv ⟨_, upd_same, r.dropLast⟩⟩
  · cases e
/-- o[i] = v -/
def SetJ (X : Cx) (t : TSet) (g : Own → D → D → Option Own) : Prop := ∀ Z F ρ μ δ σ H p c i v di dv c' Q, Sim X.K X.mg Z F ρ μ δ σ H → OwnR X.K X.mg F ρ H p c → Bor X.K X.mg F ρ H i di → Rep X.K X.mg F ρ v dv → g c di dv = some c' →
  (∀ o, OwnR X.K X.mg F ρ (upd H p o) p c' → Q (upd H p o)) → t (.ref p) i v H Q
def mSetI (g : Own → D → D → Option Own) (oo oi : Opn) (m : ME) : MS := fun δ μ => (m δ μ).thn fun s δ1 μ1 => (oo.ev δ1 μ1).thn fun r δ2 μ2 => (oi.ev δ2 μ2).thn fun ri δ3 μ3 => match recv δ3 μ3 r, ri.at δ3 μ3 with
  | some (c, w), some di => match g c di s.d with
    | some c' => .nx (w c').1 (w c').2
    | none => .bad
  | _, _ => .bad
theorem js_setI {i : Expr} {spos : Pos} {t : TSet} {g : Own → D → D → Option Own} {oo oi : Opn} {m : ME} (hp : PSet X t) (hr : SetJ X t g) (he : JE X W e m) (ho : JO X W o oo) (hi : JO X W i oi)
    (ha : ∀ v, assign (.Subscript o i spos) X.env v = (do
      let ov ← holding [v] (eval o X.env)
      let iv ← holding [v, ov] (eval i X.env)
      standAt spos
      holding [v, ov, iv] (setItem ov iv v)
      release [v, ov, iv] []) := by intro _; rfl)
    (hs : swapsWithSole [.Subscript o i spos] e pos.line X.env = pure false := by rfl) (hw : swappedStores [.Subscript o i spos] e X.env = pure none := by rfl)
    (h1 : (assignEach [.Subscript o i spos] X.env).map (·.2) = [assign (.Subscript o i spos) X.env] := by rfl) : JS X W (.Assign [.Subscript o i spos] e pos) (mSetI g oo oi m) := by
  refine (ps_asg he.locked (L2.pg_sub ho hi hp ha) hs hw h1).imp fun E σ H ⟨Z, F, ρ, μ, δ, S, q⟩ => ⟨Z, F, ρ, μ, δ, S, (FinS.thn q).imp fun s δ1 μ1 H1 F1 ρ1 l1 lr1 S1 ⟨_, p1⟩ v rv => ?_⟩
  refine ⟨Z, F1, ρ1, μ1, δ1, S1, (FinS.thn p1).imp fun r δ2 μ2 H2 F2 ρ2 l2 lr2 S2 ⟨_, p2⟩ x hx => ?_⟩
  refine ⟨Z, F2, ρ2, μ2, δ2, S2, (FinS.thn p2).imp fun ri δ3 μ3 H3 F3 ρ3 l3 lr3 S3 ⟨_, p3⟩ y hy => ?_⟩
  cases e0 : recv δ3 μ3 r with
  | none => simp only [e0] at p3; exact p3.elim
  | some cw =>
    obtain ⟨c, w⟩ := cw
    cases e1 : ri.at δ3 μ3 with
    | none => simp only [e0, e1] at p3; exact p3.elim
    | some di =>
      simp only [e0, e1] at p3
      cases eg : g c di s.d with
      | none => simp only [eg] at p3; exact p3.elim
      | some c' =>
        simp only [eg] at p3
        obtain ⟨pa, rfl, ow, hw'⟩ := recv_ok S3 (hx.up l3 lr3) e0
        exact hr Z F3 ρ3 μ3 δ3 σ H3 pa c y v di s.d c' _ S3 ow (hy.bor S3 e1) ((Rep.up l2.to lr2.to rv).up l3.to lr3.to) eg fun o' ho' => p3.nx (hw' o' c' ho')
def gSetL : Own → D → D → Option Own
  | .lst xs, .int k, d => match ixN xs.length k with
    | some j => some (.lst (xs.set j d))
    | none => none
  | _, _, _ => none
theorem j_setL : SetJ X rSetL gSetL := by
  intro Z F ρ μ δ σ H p c i v di dv c' Q S ow bi rv e q
  unfold gSetL at e
  split at e
  · rename_i xs k
    cases ej : ixN xs.length k with
    | none => simp only [ej] at e; cases e
    | some j =>
      simp only [ej] at e
      cases e
      cases bi.int
      obtain ⟨vs, hH, r⟩ := ow
      exact ⟨p, vs, k, j, rfl, rfl, hH, by rw [r.len]; exact ej, q _ ⟨_, upd_same, r.set rv j⟩⟩
  · cases e
end
end FL

/-! Part H: functions, calls, the context of a derivation. -/
namespace FL
open PySem PySem.Spec PyProof.Rows L2

/-- room for calls, and nothing guarded -/
structure RmG (k : Nat) (A : Around) : Prop where
  r : Room k A
  g : A.guards = some []
theorem RmG.mono {j k : Nat} {A : Around} (r : RmG k A) (h : j ≤ k) : RmG j A := ⟨r.r.mono h, r.g⟩
theorem RmG.deeper {k : Nat} {A : Around} (r : RmG (k + 1) A) (env : Env) : RmG k (A.deeper env) := ⟨r.r.deeper env, r.g⟩
/-- a function's promise -/
structure FnG (P : Program) (w : World) (K : PySem.W.Frag) (mg : Str → Option Value) (base : Heap) (Y : CXT) (k : Nat) (f : Addr) (fd : FuncData) (ps : List Str) (sp : Sp) : Prop where
  len : ∀ vs H Q E, sp vs H Q E → vs.length = ps.length
  run : ∀ (A : Around) (outer : List Env) (s : Shared) (H : Hp) (args : Args) (us : List Value) (vs : List V) (Q : VK) (E : XK), RmG k A → Env0 P w K mg base A outer s H → BindsTo s fd args (ps.zip us) → Vals vs us → sp vs H Q E →
    codeAny (model P w) A (.call (.ref f) args) (CR Y outer P w H s Q E) s
theorem FnG.mono {P : Program} {w : World} {K : PySem.W.Frag} {mg : Str → Option Value} {base : Heap} {Y : CXT} {j k : Nat} {f : Addr} {fd : FuncData} {ps : List Str} {sp : Sp} (h : FnG P w K mg base Y j f fd ps sp) (le : j ≤ k) : FnG P w K mg base Y k f fd ps sp :=
  ⟨h.len, fun A outer s H args us vs Q E hr => h.run A outer s H args us vs Q E (hr.mono le)⟩
/-- a def of the text, as the top has left it; its defaults are dV -/
structure Fd (K : PySem.W.Frag) (x qual : Str) (st : Stmt) (f : Addr) (fd : FuncData) (dV : Value) : Prop where
  ex : ∃ (oc : Value) (od : Option Addr) (kV doc pm : Value) (an : Option Addr) (cdv ct : Value) (osl : Array (Option Value)),
    fd = PySem.W.fnOf x qual (defArgs st) (defBody st) (defScope st) dV kV doc pm an cdv ct ∧ K.lookup f = some { cls := oc, dict := od, data := .func fd, slots := osl } ∧ PySem.W.codeIn K cdv qual = true
theorem fnG_of {Y : CXT} {P : Program} {w : World} {K : PySem.W.Frag} {mg : Str → Option Value} {base : Heap} {k : Nat} {f : Addr} {x qual : Str} {st : Stmt} {fd : FuncData} {N ps : List Str} {sp : Sp} {dV : Value} (F : Fd K x qual st f fd dV) (S : FnScope N ps (defScope st))
    (len : ∀ vs H Q E, sp vs H Q E → vs.length = ps.length)
    (hbody : ∀ (cdv : Value) (A : Around) (outer : List Env) (s : Shared) (H : Hp) (vs : List V) (Q : VK) (E : XK), RmG k (A.deeper (envOfC qual (defScope st) s.heap.objs.size f cdv)) → sp vs H Q E →
      ∃ t, PSs (cxOf Y P w K mg base N qual (defScope st) f cdv A outer s H E) (defBody st) t ∧ t { nx := fun _ H' => Q .non H', rt := Q } (L2.start N vs) H) : FnG P w K mg base Y (k + 1) f fd ps sp := by
  obtain ⟨oc, od, kV, doc, pm, an, cdv, ct, osl, rfl, lk, hcd⟩ := F.ex
  refine ⟨len, fun A outer s H args us vs Q E hr e0 hb r hsp => ?_⟩
  have hlen := len _ _ _ _ hsp
  have inK : K.In s.heap := e0.mod.kin.keeps fun b o e => (e0.bs b o e).1
  have lim : s.heap.NoLimit := e0.mod.nolimit.keeps fun b o e => (e0.bs b o e).1
  have kinds : ∀ y ∈ ps.zip us, (defScope st).names.lookup y.1 = some .local ∨ ((defScope st).names.lookup y.1 = some .cell ∧ ((cellsFrom (s.heap.objs.size + 1) (defScope st).names []).lookup y.1).isSome = true) := fun ⟨n, u⟩ hy => by
    rcases S.par n (List.of_mem_zip hy).1 with q | q
    · exact Or.inl q
    · exact Or.inr ⟨q, PySem.W.cellsFrom_some _ _ _ (Or.inl q)⟩
  refine codeAny_call_function hr.r.depth (inK _ _ lk) rfl S.co S.gen rfl (PySem.W.codeRec_of inK hcd) (hb _ _ _ _ ?_)
  refine wpAny_newFunctionEnv_cells S.kind kinds fun env eenv s1 xx => ?_
  subst eenv
  refine ⟨lim.keeps xx.toInCall.keep, codeAny_func ?_⟩
  obtain ⟨t, ht, hq⟩ := hbody cdv A outer s H vs Q E (hr.deeper _) hsp
  have I : Inv (cxOf Y P w K mg base N qual (defScope st) f cdv A outer s H E) [] (L2.start N vs) H s1 := inv_start S hr.r.hd e0 hlen r xx
  refine wpAny_mono (ht.run [] s1 (L2.start N vs) H _ I hq) (fun fl s' hs => ?_) fun e s' hs => hs
  cases fl with
  | ret u =>
    obtain ⟨v, σ', H', J, rv, q⟩ := hs
    exact ⟨v, H', J.os, J.bare, J.base, J.hok, rv, q⟩
  | next =>
    obtain ⟨σ', H', J, q⟩ := hs
    exact ⟨.non, H', J.os, J.bare, J.base, J.hok, rfl, q⟩
  | brk =>
    obtain ⟨_, _, _, z⟩ := hs
    exact z.elim
  | cont =>
    obtain ⟨_, _, _, z⟩ := hs
    exact z.elim

/-! ### the mirror of a function -/
inductive OutF where
  | ok (s : Slot) (μ : Mem)
  | exc (x : Exc) (μ : Mem)
  | bad
abbrev MF := List D → Mem → OutF
def startD (n : Nat) (ds : List D) : Loc := ds.map (fun d => some (.fr d)) ++ List.replicate (n - ds.length) none
def OutS.fin (r : OutS) : OutF := match r with
  | .nx _ μ => .ok (.fr .non) μ
  | .rt s μ => .ok s μ
  | .exc x _ μ => .exc x μ
  | _ => .bad
def mFn (n : Nat) (m : MS) : MF := fun ds μ => (m (startD n ds) μ).fin
section
variable (K : PySem.W.Frag) (mg : Str → Option Value)
def FinF (Z F : Hp) (ρ : List Addr) (Q : VK) (E : XK) : OutF → Prop
  | .ok s μ => ∀ v H' F' ρ', Le Z F F' → LeR Z ρ ρ' → Sim K mg Z F' ρ' μ [] [] H' → SlotR K mg Z F' ρ' H' v s → Q v H'
  | .exc x μ => ∀ c d H' F' ρ', Le Z F F' → LeR Z ρ ρ' → Sim K mg Z F' ρ' μ [] [] H' → ExcR K mg F' ρ' c d x → E c d H'
  | .bad => False
def spM (m : MF) (n : Nat) : Sp := fun vs H Q E => vs.length = n ∧ ∃ Z F ρ μ ds, Sim K mg Z F ρ μ [] [] H ∧ RepL K mg F ρ vs ds ∧ FinF K mg Z F ρ Q E (m ds μ)
end
theorem start_get {N : List Str} {vs : List V} {i : Nat} (hi : i < vs.length) : (L2.start N vs)[i]? = some (vs[i]?) := by
  unfold L2.start
  rw [List.getElem?_append_left (by simpa using hi), List.getElem?_map]
  rw [List.getElem?_eq_getElem hi]; rfl
theorem Sim.begin {K : PySem.W.Frag} {mg : Str → Option Value} {Z F H : Hp} {ρ : List Addr} {μ : Mem} {N : List Str} {vs : List V} {ds : List D} (S : Sim K mg Z F ρ μ [] [] H) (r : RepL K mg F ρ vs ds) : Sim K mg Z F ρ μ (startD N.length ds) (L2.start N vs) H := by
  have hl := r.len
  have none_own : ∀ (i : Nat) c, (startD N.length ds)[i]? ≠ some (some (.own c)) := by
    intro i c h
    unfold startD at h
    by_cases hi : i < ds.length
    · rw [List.getElem?_append_left (by simpa using hi), List.getElem?_map, List.getElem?_eq_getElem hi] at h
      cases h
    · rw [List.getElem?_append_right (by simpa using hi), List.getElem?_replicate] at h
      split at h <;> cases h
  refine ⟨S.le, S.zk, ?_, fun i s e => ?_, fun i j p s s' e => absurd e (none_own i s), S.mem, S.mlen, S.nod⟩
  · unfold L2.start startD
    rw [List.length_append, List.length_append, List.length_map, List.length_map, List.length_replicate, List.length_replicate, hl]
  · by_cases hi : i < ds.length
    · have hv : i < vs.length := by rw [hl]; exact hi
      unfold startD at e
      rw [List.getElem?_append_left (by simpa using hi), List.getElem?_map, List.getElem?_eq_getElem hi] at e
      cases e
      obtain ⟨v, ev, rv⟩ := r.get (List.getElem?_eq_getElem hi)
      exact ⟨v, by rw [start_get hv, ev], rv⟩
    · unfold startD at e
      rw [List.getElem?_append_right (by simpa using hi), List.getElem?_replicate] at e
      split at e <;> cases e
/-- the context of a derivation: room for k levels of calls, the names, the scope -/
structure Cs (X : Cx) (W : WX) (k : Nat) (N : List Str) (sc : Scope) : Prop where
  calm : X.calm = true
  rm : RmG k X.A
  tk : Takes X W
  hN : X.N = N
  hsc : X.env.scope = sc
  nd : N.Nodup
/-- .. of a def's own body -/
structure Cd (X : Cx) (W : WX) (k : Nat) (N : List Str) (sc : Scope) : Prop extends Cs X W k N sc where
  hp : PassesOwn (model X.prog X.w) X.A X.env X.xe
  fn : ∀ x, X.fn x = true
/-- a def by its mirror -/
theorem fnG_m {P : Program} {w : World} {K : PySem.W.Frag} {mg : Str → Option Value} {base : Heap} {k n : Nat} {f : Addr} {x qual : Str} {st : Stmt} {fd : FuncData} {N ps : List Str} {m : MS} {dV : Value} (F : Fd K x qual st f fd dV) (S : FnScope N ps (defScope st)) (hn : ps.length = n)
    (hbody : ∀ (X : Cx) (W : WX), X.prog = P → X.w = w → X.K = K → X.mg = mg → X.base = base → Cd X W k N (defScope st) → JSs X W (defBody st) m) : FnG P w K mg base (L2.CX P w) (k + 1) f fd ps (spM K mg (mFn N.length m) n) := by
  subst hn
  refine fnG_of F S (fun vs H Q E h => h.1) (fun cdv A outer s H vs Q E hr h => ?_)
  obtain ⟨hl, Z, F0, ρ, μ, ds, S0, r, q⟩ := h
  refine ⟨_, hbody (cxOf (L2.CX P w) P w K mg base N qual (defScope st) f cdv A outer s H E) (fun c d _ H => E c d H) rfl rfl rfl rfl rfl ⟨⟨rfl, hr, takes_of rfl rfl rfl rfl, rfl, rfl, S.nd⟩, passes_of rfl, fun _ => rfl⟩, ?_⟩
  refine ⟨Z, F0, ρ, μ, _, S0.begin r, ?_⟩
  unfold mFn at q
  generalize m (startD N.length ds) μ = o at q
  cases o with
  | nx δ μ' => exact fun σ' H' F' ρ' l lr S' => q .non H' F' ρ' l lr S'.drop .non
  | rt s μ' => exact fun v H' F' ρ' l lr S' rv => q v H' F' ρ' l lr S' rv
  | bk δ μ' => exact q.elim
  | ct δ μ' => exact q.elim
  | exc x δ μ' => exact fun c d σ' H' F' ρ' l lr S' er => q c d H' F' ρ' l lr S'.drop er
  | bad => exact q

section
variable {X : Cx} {W : WX} {k j : Nat} {N : List Str} {sc : Scope} {e : Expr} {es : List Expr} {pos p : Pos} {f : Addr} {fd : FuncData} {ps : List Str} {x : Str}
def mCall (m : MF) (ms : List ME) (dds : List D) : ME := fun δ μ => (evA ms δ μ).bind fun ds δ1 μ1 => match m (ds ++ dds) μ1 with
  | .ok s μ2 => .ok s δ1 μ2
  | .exc x μ2 => .exc x δ1 μ2
  | .bad => .bad
/-- a function that may be called -/
structure Fu (P : Program) (w : World) (K : PySem.W.Frag) (mg : Str → Option Value) (base : Heap) (k : Nat) (x : Str) (m : MF) (n : Nat) (dds : List D) : Prop where
  ex : ∃ (f : Addr) (fd : FuncData) (ps : List Str) (ds : List Value) (dvs : List V), FnG P w K mg base (L2.CX P w) k f fd ps (spM K mg m n) ∧ mg x = some (.ref f) ∧ PySem.W.keepIn K (.ref f) = true ∧ Binds K fd ps ds ∧ Vals dvs ds ∧ ∀ F ρ, RepL K mg F ρ dvs dds
abbrev FuX (X : Cx) (k : Nat) (x : Str) (m : MF) (n : Nat) (dds : List D) : Prop := Fu X.prog X.w X.K X.mg X.base k x m n dds
theorem evA_len : ∀ {ms : List ME} {δ : Loc} {μ : Mem} {ds : List D} {δ' : Loc} {μ' : Mem}, evA ms δ μ = .ok ds δ' μ' → ms.length = ds.length := by
  intro ms
  induction ms with
  | nil => intro δ μ ds δ' μ' e; cases e; rfl
  | cons m ms ih =>
    intro δ μ ds δ' μ' e
    have e : ((m δ μ).bind fun s δ1 μ1 => (evA ms δ1 μ1).bind fun ds δ2 μ2 => Out.ok (s.d :: ds) δ2 μ2) = .ok ds δ' μ' := e
    cases em : m δ μ with
    | ok s δ1 μ1 =>
      rw [em] at e
      have e : ((evA ms δ1 μ1).bind fun ds δ2 μ2 => Out.ok (s.d :: ds) δ2 μ2) = .ok ds δ' μ' := e
      cases er : evA ms δ1 μ1 with
      | ok ds2 δ2 μ2 =>
        rw [er] at e
        cases e
        rw [List.length_cons, List.length_cons, ih er]
      | exc x δ2 μ2 => rw [er] at e; cases e
      | bad => rw [er] at e; cases e
    | exc x δ1 μ1 => rw [em] at e; cases e
    | bad => rw [em] at e; cases e
theorem call_end {m : MF} {n : Nat} {dds : List D} {ms : List ME} {dvs : List V} (hdd : ∀ F ρ, RepL X.K X.mg F ρ dvs dds) (hn : ∀ ds, ms.length = ds.length → (ds ++ dds).length = n) : ∀ σ H Q, rdE X W (mCall m ms dds) σ H Q → tCallSD (spM X.K X.mg m n) dvs (WE W) (rdA X W ms) σ H Q := by
  intro σ H Q ⟨Z, F, ρ, μ, δ, S, q⟩
  refine ⟨Z, F, ρ, μ, δ, S, ?_⟩
  cases ea : evA ms δ μ with
  | bad => unfold mCall at q; rw [ea] at q; exact q
  | exc x δ1 μ1 => unfold mCall at q; rw [ea] at q; exact q
  | ok ds δ1 μ1 =>
    unfold mCall at q
    rw [ea, Out.bind_ok] at q
    intro H1 F1 ρ1 l1 lr1 S1 vs hv
    have q1 := q.mono l1 lr1
    have hvd := hv.app (hdd F1 ρ1)
    refine ⟨by rw [hvd.len]; exact hn ds (evA_len ea), zone Z H1 δ1 σ, F1, ρ1, μ1, ds ++ dds, S1.enter, hvd, ?_⟩
    generalize m (ds ++ dds) μ1 = o at q1
    cases o with
    | ok s μ2 => exact fun v H' F' ρ' l lr S' rv => q1 H' F' ρ' (S1.leLeave l) (S1.leRLeave lr) (S1.leave S' l lr) v (S1.came rv)
    | exc x μ2 => exact fun c d H' F' ρ' l lr S' er => q1 c d H' F' ρ' (S1.leLeave l) (S1.leRLeave lr) (S1.leave S' l lr) er
    | bad => exact q1
theorem run_callG {Y : CXT} {sp : Sp} {dvs : List V} {ds : List Value} {E : L2.St → XK} {pins : List (Addr × Obj)} {σ : L2.St} {H : Hp} {s : Shared} {Q : VK} {us : List Value} {vs : List V} (F : FnG X.prog X.w X.K X.mg X.base Y j f fd ps sp) (hr : RmG j X.A) (hb : Binds X.K fd ps ds) (hd : Vals dvs ds) (hx : PassesAt Y X σ (E σ))
    (I : Inv X pins σ H s) (r : Vals vs us) (h : sp (vs ++ dvs) H Q (E σ)) : wpAny (model X.prog X.w) X.A (call (.ref f) us) (EP X pins σ Q) X.xe s := by
  have r' : Vals (vs ++ dvs) (us ++ ds) := r.append hd
  have hlen : (us ++ ds).length = ps.length := by rw [← r'.length]; exact F.len _ _ _ _ h
  refine wpAny_call (codeAny_mono (F.run X.A X.stack s H ⟨us, []⟩ _ _ Q (E σ) hr I.env0 (hb s us I.kIn hlen) r' h) fun res s' hq => ?_)
  cases res with
  | error e => exact hx pins H s e s' I hq
  | ok fl =>
    cases fl with
    | ret u => exact I.after hq
    | next => exact False.elim hq
    | brk => exact False.elim hq
    | cont => exact False.elim hq
theorem pe_callG {Y : CXT} {sp : Sp} {dvs : List V} {ds : List Value} {E : L2.St → XK} {t : TA} (F : FnG X.prog X.w X.K X.mg X.base Y j f fd ps sp) (hr : RmG j X.A) (hg : Gl X x) (hm : X.mg x = some (.ref f)) (hk : PySem.W.keepIn X.K (.ref f) = true) (hb : Binds X.K fd ps ds) (hd : Vals dvs ds) (hx : ∀ σ, PassesAt Y X σ (E σ))
    (ha : PA X (e :: es) t) (hdb : (x == ("__debug__" : Str)) = false) (he : starEach (e :: es) X.env = (false, eval e X.env) :: starEach es X.env) (hpl : (backTo pos (starEach es X.env)).any (·.1) = false) :
    PE X (.Call (.Name x p) (e :: es) [] pos) (tCallSD sp dvs E t) :=
  ⟨fun pins s σ H Q I h => wpAny_Call_Name_kw (ld_glob I hg hm (PySem.W.callWith_K (h₀ := X.base) I.ok.mod.kin hk (thn (ha.run pos pins s σ H _ I h) fun us s1 ⟨vs, H1, I1, r, q⟩ => ⟨I1.kIn, run_callG F hr hb hd (hx σ) I1 r q⟩) he hpl) hdb)⟩
theorem pe_callG0 {Y : CXT} {sp : Sp} {dvs : List V} {ds : List Value} {E : L2.St → XK} (F : FnG X.prog X.w X.K X.mg X.base Y j f fd ps sp) (hr : RmG j X.A) (hg : Gl X x) (hm : X.mg x = some (.ref f)) (hk : PySem.W.keepIn X.K (.ref f) = true) (hb : Binds X.K fd ps ds) (hd : Vals dvs ds) (hx : ∀ σ, PassesAt Y X σ (E σ))
    (hdb : (x == ("__debug__" : Str)) = false) : PE X (.Call (.Name x p) [] [] pos) (tCallSD sp dvs E tNil) :=
  ⟨fun pins s σ H Q I h => wpAny_Call_Name_kw (ld_glob I hg hm (PySem.W.callWith_K0 I.kIn hk (run_callG (us := []) F hr hb hd (hx σ) I .nil h)) hdb)⟩
/-- a name is global here -/
def glC (sc : Scope) (x : Str) : Bool := decide (sc.names.lookup x = some .globalImplicit) && !(x == ("__debug__" : Str)) && !decide (x = "__name__")
theorem Cs.gl (C : Cs X W k N sc) (h : glC sc x = true) : Gl X x ∧ (x == ("__debug__" : Str)) = false ∧ x ≠ "__name__" := by
  unfold glC at h
  simp only [Bool.and_eq_true, Bool.not_eq_true', decide_eq_true_eq, decide_eq_false_iff_not] at h
  refine ⟨?_, h.1.2, h.2⟩
  show X.env.scope.names.lookup x = _
  rw [C.hsc]; exact h.1.1
theorem je_call {m : MF} {n : Nat} {dds : List D} {ms : List ME} (C : Cs X W k N sc) (F : FuX X j x m n dds) (hjk : j ≤ k) (hg : glC sc x = true) (ha : JA X W (e :: es) ms) (hn : ms.length + dds.length = n)
    (he : starEach (e :: es) X.env = (false, eval e X.env) :: starEach es X.env := by rfl) (hpl : (backTo pos (starEach es X.env)).any (·.1) = false := by rfl) : JE X W (.Call (.Name x p) (e :: es) [] pos) (mCall m ms dds) := by
  obtain ⟨f, fd, ps, ds, dvs, F, hm, hk, hb, hd, hdd⟩ := F.ex
  obtain ⟨g1, g2, g3⟩ := C.gl hg
  exact (pe_callG F (C.rm.mono hjk) g1 hm hk hb hd (passAt C.tk) ha g2 he hpl).imp (call_end (ms := ms) hdd fun ds hl => by rw [List.length_append]; omega)
theorem je_call0 {m : MF} {n : Nat} {dds : List D} (C : Cs X W k N sc) (F : FuX X j x m n dds) (hjk : j ≤ k) (hg : glC sc x = true) (hn : dds.length = n) : JE X W (.Call (.Name x p) [] [] pos) (mCall m [] dds) := by
  obtain ⟨f, fd, ps, ds, dvs, F, hm, hk, hb, hd, hdd⟩ := F.ex
  obtain ⟨g1, g2, g3⟩ := C.gl hg
  refine (pe_callG0 F (C.rm.mono hjk) g1 hm hk hb hd (passAt C.tk) g2).imp fun σ H Q h => ?_
  obtain ⟨Z, F', ρ, μ, δ, S, q⟩ := call_end (W := W) (ms := []) (n := n) hdd (fun ds hl => by rw [List.length_append, ← hl, hn]; exact Nat.zero_add n) σ H Q h
  exact q H F' ρ .refl .refl S [] .nil

/-! ### the rules by the context -/
/-- a local name, seen -/
def varC (N : List Str) (sc : Scope) (i : Nat) (x : Str) : Bool := decide (N[i]? = some x) && (decide (sc.names.lookup x = some .local) || (decide (sc.names.lookup x = some .cell) || decide (sc.names.lookup x = some .free))) && !(x == ("__debug__" : Str)) && !(x == ("__classdict__" : Str))
theorem Cs.var {i : Nat} (C : Cs X W k N sc) (h : varC N sc i x = true) : PE X (.Name x p) (tVar i) := by
  unfold varC at h
  simp only [Bool.and_eq_true, Bool.not_eq_true', decide_eq_true_eq, Bool.or_eq_true] at h
  obtain ⟨⟨⟨h1, h2⟩, h3⟩, h4⟩ := h
  refine pe_var (by rw [C.hN]; exact h1) ?_ h3 h4
  show X.env.scope.names.lookup x = _ ∨ X.env.scope.names.lookup x = _ ∨ X.env.scope.names.lookup x = _
  rw [C.hsc]; exact h2
theorem Cs.v {i : Nat} (C : Cs X W k N sc) (h : varC N sc i x = true) : JE X W (.Name x p) (mV i) := je_v (C.var h)
theorem Cs.ov {i : Nat} (C : Cs X W k N sc) (h : varC N sc i x = true) : JO X W (.Name x p) (.v i) := jo_v (C.var h)
/-- a name that may be stored to -/
def locC (N : List Str) (sc : Scope) (i : Nat) (x : Str) : Bool := decide (N[i]? = some x) && (decide (sc.names.lookup x = some .local) || decide (sc.names.lookup x = some .cell))
theorem Cd.loc {i : Nat} (C : Cd X W k N sc) (h : locC N sc i x = true) : X.N.Nodup ∧ X.N[i]? = some x ∧ L2.Loc X.env.scope x := by
  unfold locC at h
  simp only [Bool.and_eq_true, decide_eq_true_eq, Bool.or_eq_true] at h
  refine ⟨by rw [C.hN]; exact C.nd, by rw [C.hN]; exact h.1, ?_⟩
  show X.env.scope.names.lookup x = _ ∨ X.env.scope.names.lookup x = _
  rw [C.hsc]; exact h.2
theorem Cd.set {i : Nat} {m : ME} {pos' : Pos} (C : Cd X W k N sc) (h : locC N sc i x = true) (he : JE X W e m) (hs : swapsWith e (some (.Name x pos')) pos.line X.env = pure false := by rfl) : JS X W (.Assign [.Name x pos'] e pos) (mSet i m) :=
  let ⟨a, b, c⟩ := C.loc h
  js_set a b c he hs (.inl (C.fn x))
theorem Cd.tg {i : Nat} (C : Cd X W k N sc) (h : locC N sc i x = true) : JG X (.Name x pos) (tgV i) [i] :=
  let ⟨a, b, c⟩ := C.loc h
  jg_v a b c (.inl (C.fn x))
/-- .. a plain local name -/
def ownC (N : List Str) (sc : Scope) (i : Nat) (x : Str) : Bool := decide (N[i]? = some x) && decide (sc.names.lookup x = some .local)
theorem Cs.own {i : Nat} (C : Cs X W k N sc) (h : ownC N sc i x = true) : X.N.Nodup ∧ X.N[i]? = some x ∧ X.env.scope.names.lookup x = some .local := by
  unfold ownC at h
  simp only [Bool.and_eq_true, decide_eq_true_eq] at h
  exact ⟨by rw [C.hN]; exact C.nd, by rw [C.hN]; exact h.1, by rw [C.hsc]; exact h.2⟩
theorem Cs.tg {i : Nat} (C : Cs X W k N sc) (h : ownC N sc i x = true) : JG X (.Name x pos) (tgV i) [i] :=
  let ⟨a, b, c⟩ := C.own h
  jg_v a b (.inl c) (.inr c)
/-- the context of a comprehension's block -/
theorem Cs.blk (C : Cs X W k N sc) (scope : Scope) (s : Shared) (H : Hp) (c : Addr) (cl : List (Str × Addr)) (fp : List Addr) : Cs (X.blk s H scope (compEnvC scope cl c X.env) fp) W0 k N (relS scope sc) :=
  ⟨C.calm, C.rm, fun _ _ ⟨_, _, _, _, _, _, _, _, _, _, _, _, _, _, _, _, z⟩ => z.elim, C.hN, by
    show relabel scope X.env = relS scope sc
    rw [← C.hsc]; rfl, C.nd⟩
theorem Cs.lc {elt tg iter : Expr} {ifs : List Expr} {scope : Scope} {mi : MM (List D)} {f : TgF} {is : List Nat} {tests : MT} {m : ME} {Tx : Program → World → PySem.W.Frag → (Str → Option Value) → Heap → Prop} (C : Cs X W k N sc) (T : Tx X.prog X.w X.K X.mg X.base) (own : List (Str × Nat)) (hi : JI X W tg iter mi) (ok : blkC N sc scope own = true)
    (hb : ∀ (Y : Cx), Tx Y.prog Y.w Y.K Y.mg Y.base → Cs Y W0 k N (relS scope sc) → JG Y tg f is ∧ JTs Y W0 ifs tests ∧ JE Y W0 elt m) (hsub : (is.all fun j => (own.map (·.2)).contains j) = true) (hs : ∀ x, foldedSetIterable iter X.env x = pure x := by intro _; rfl) :
    JE X W (.ListComp elt [⟨tg, iter, ifs, 0⟩] scope pos) (mLc mi f tests m (own.map (·.2))) :=
  je_lc C.calm (by rw [C.hN]; exact C.nd) hi (by rw [C.hN, C.hsc]; exact blkOk_by ok) (fun s H c cl fp => (hb (X.blk s H scope (compEnvC scope cl c X.env) fp) T (C.blk scope s H c cl fp)).1) (fun s H c cl fp => (hb (X.blk s H scope (compEnvC scope cl c X.env) fp) T (C.blk scope s H c cl fp)).2.1)
    (fun s H c cl fp => (hb (X.blk s H scope (compEnvC scope cl c X.env) fp) T (C.blk scope s H c cl fp)).2.2) (fun j hj => by simpa using List.all_eq_true.mp hsub j hj) hs
theorem Cs.setLc {i : Nat} {y : Str} {py : Pos} {elt tg iter : Expr} {ifs : List Expr} {scope : Scope} {spos : Pos} {mi : MM (List D)} {f : TgF} {is : List Nat} {tests : MT} {m : ME} {Tx : Program → World → PySem.W.Frag → (Str → Option Value) → Heap → Prop} (C : Cs X W k N sc) (T : Tx X.prog X.w X.K X.mg X.base) (own : List (Str × Nat)) (hy : ownC N sc i y = true)
    (hl : (py.line == pos.line) = true) (hl2 : spos.line = pos.line) (hk : sc.kind = .function) (hna : (scope.names.any fun (n, k) => n == y && (k == .local || k == .cell)) = false)
    (hi : JI X W tg iter mi) (ok : blkC N sc scope own = true)
    (hb : ∀ (Y : Cx), Tx Y.prog Y.w Y.K Y.mg Y.base → Cs Y W0 k N (relS scope sc) → JG Y tg f is ∧ JTs Y W0 ifs tests ∧ JE Y W0 elt m) (hsub : (is.all fun j => (own.map (·.2)).contains j) = true) (hs : ∀ x, foldedSetIterable iter X.env x = pure x := by intro _; rfl) :
    JS X W (.Assign [.Name y py] (.ListComp elt [⟨tg, iter, ifs, 0⟩] scope pos) spos) (mSet i (mLc mi f tests m (own.map (·.2)))) :=
  let ⟨a, b, c⟩ := C.own hy
  js_setLc C.calm a b c (sw_true (by rw [C.hsc]; exact hk) c hl hna) hi (by rw [C.hN, C.hsc]; exact blkOk_by ok) (fun s H c cl fp => (hb (X.blk s H scope (compEnvC scope cl c X.env) fp) T (C.blk scope s H c cl fp)).1) (fun s H c cl fp => (hb (X.blk s H scope (compEnvC scope cl c X.env) fp) T (C.blk scope s H c cl fp)).2.1)
    (fun s H c cl fp => (hb (X.blk s H scope (compEnvC scope cl c X.env) fp) T (C.blk scope s H c cl fp)).2.2) (fun j hj => by simpa using List.all_eq_true.mp hsub j hj) hs
end
end FL

/-! Part I: the rules as the generator names them. -/
namespace FL
open PySem PySem.Spec PyProof.Rows L2

/-- + .. with a list's repetition -/
def gMulA : D → D → Option Slot := fun x y => (gMul x y).or (gRep x y)
abbrev rMulA : R2 := fun x y H Q => rI CMulW (fun i j => .int (i * j)) x y H Q ∨ rRep x y H Q
section
variable {X : Cx} {W : WX} {k j : Nat} {N : List Str} {sc : Scope} {a b c e o : Expr} {es : List Expr} {pos p apos : Pos} {x : Str} {oa ob : Opn}
theorem o_mulA : OpR X (binaryOp .Mult) rMulA := op_mulW.or op_rep
theorem j_mulA : R2J X rMulA gMulA := R2J.or j_mulI j_rep
theorem Cs.hu (C : Cs X W k N sc) : X.A.units + 64 < cLine := by have := C.rm.r.un; omega
theorem add_ (ha : JO X W a oa) (hb : JO X W b ob) : JE X W (.BinOp a .Add b pos) (m2 gAdd oa ob) := je_bin o_add j_add ha hb
theorem sub_ (ha : JO X W a oa) (hb : JO X W b ob) : JE X W (.BinOp a .Sub b pos) (m2 gSub oa ob) := je_bin o_sub j_sub ha hb
theorem mul_ (ha : JO X W a oa) (hb : JO X W b ob) : JE X W (.BinOp a .Mult b pos) (m2 gMulA oa ob) := je_bin o_mulA j_mulA ha hb
theorem div_ (ha : JO X W a oa) (hb : JO X W b ob) : JE X W (.BinOp a .FloorDiv b pos) (m2 gDiv oa ob) := je_bin op_fdivW j_div ha hb
theorem mod_ (ha : JO X W a oa) (hb : JO X W b ob) : JE X W (.BinOp a .Mod b pos) (m2 gMod oa ob) := je_bin op_mod j_mod ha hb
theorem pow_ (ha : JO X W a oa) (hb : JO X W b ob) : JE X W (.BinOp a .Pow b pos) (m2 gPow oa ob) := je_bin op_pow j_pow ha hb
theorem shl_ (ha : JO X W a oa) (hb : JO X W b ob) : JE X W (.BinOp a .LShift b pos) (m2 gShl oa ob) := je_bin op_shl j_shl ha hb
theorem lt_ (ha : JO X W a oa) (hb : JO X W b ob) : JE X W (.Compare a [.Lt] [b] pos) (m2 gLt oa ob) := je_cmp o_lt j_lt ha hb (nomark _)
theorem le_ (ha : JO X W a oa) (hb : JO X W b ob) : JE X W (.Compare a [.LtE] [b] pos) (m2 gLe oa ob) := je_cmp o_le j_le ha hb (nomark _)
theorem gt_ (ha : JO X W a oa) (hb : JO X W b ob) : JE X W (.Compare a [.Gt] [b] pos) (m2 gGt oa ob) := je_cmp o_gt j_gt ha hb (nomark _)
theorem ge_ (ha : JO X W a oa) (hb : JO X W b ob) : JE X W (.Compare a [.GtE] [b] pos) (m2 gGe oa ob) := je_cmp o_ge j_ge ha hb (nomark _)
theorem Cs.eq (C : Cs X W k N sc) (ha : JO X W a oa) (hb : JO X W b ob) : JE X W (.Compare a [.Eq] [b] pos) (m2 (gEq false) oa ob) := je_cmp (o_eq C.hu) j_eq ha hb (nomark _)
theorem Cs.ne (C : Cs X W k N sc) (ha : JO X W a oa) (hb : JO X W b ob) : JE X W (.Compare a [.NotEq] [b] pos) (m2 (gEq true) oa ob) := je_cmp (o_ne C.hu) j_ne ha hb (nomark _)
theorem in_ (ha : JO X W a oa) (hb : JO X W b ob) (hm : behindInMarks .In b = false := by rfl) : JE X W (.Compare a [.In] [b] pos) (m2 (gIn false) oa ob) := je_cmp o_in (j_in false) ha hb hm
theorem nin_ (ha : JO X W a oa) (hb : JO X W b ob) (hm : behindInMarks .NotIn b = false := by rfl) : JE X W (.Compare a [.NotIn] [b] pos) (m2 (gIn true) oa ob) := je_cmp o_nin (j_in true) ha hb hm
theorem isN_ (ha : JO X W a oa) (hb : JO X W b ob) : JE X W (.Compare a [.Is] [b] pos) (m2 (gIsN false) oa ob) := je_cmp o_isN (j_isN false) ha hb (nomark _)
theorem notN_ (ha : JO X W a oa) (hb : JO X W b ob) : JE X W (.Compare a [.IsNot] [b] pos) (m2 (gIsN true) oa ob) := je_cmp o_notN (j_isN true) ha hb (nomark _)
theorem ltT (ha : JO X W a oa) (hb : JO X W b ob) : JT X W (.Compare a [.Lt] [b] pos) (mTb (m2 gLt oa ob)) := jt_cmp o_lt j_lt ha hb (nomark _)
theorem leT (ha : JO X W a oa) (hb : JO X W b ob) : JT X W (.Compare a [.LtE] [b] pos) (mTb (m2 gLe oa ob)) := jt_cmp o_le j_le ha hb (nomark _)
theorem gtT (ha : JO X W a oa) (hb : JO X W b ob) : JT X W (.Compare a [.Gt] [b] pos) (mTb (m2 gGt oa ob)) := jt_cmp o_gt j_gt ha hb (nomark _)
theorem geT (ha : JO X W a oa) (hb : JO X W b ob) : JT X W (.Compare a [.GtE] [b] pos) (mTb (m2 gGe oa ob)) := jt_cmp o_ge j_ge ha hb (nomark _)
theorem Cs.eqT (C : Cs X W k N sc) (ha : JO X W a oa) (hb : JO X W b ob) : JT X W (.Compare a [.Eq] [b] pos) (mTb (m2 (gEq false) oa ob)) := jt_cmp (o_eq C.hu) j_eq ha hb (nomark _)
theorem Cs.neT (C : Cs X W k N sc) (ha : JO X W a oa) (hb : JO X W b ob) : JT X W (.Compare a [.NotEq] [b] pos) (mTb (m2 (gEq true) oa ob)) := jt_cmp (o_ne C.hu) j_ne ha hb (nomark _)
theorem inT (ha : JO X W a oa) (hb : JO X W b ob) (hm : behindInMarks .In b = false := by rfl) : JT X W (.Compare a [.In] [b] pos) (mTb (m2 (gIn false) oa ob)) := jt_cmp o_in (j_in false) ha hb hm
theorem ninT (ha : JO X W a oa) (hb : JO X W b ob) (hm : behindInMarks .NotIn b = false := by rfl) : JT X W (.Compare a [.NotIn] [b] pos) (mTb (m2 (gIn true) oa ob)) := jt_cmp o_nin (j_in true) ha hb hm
theorem isNT (ha : JO X W a oa) (hb : JO X W b ob) : JT X W (.Compare a [.Is] [b] pos) (mTb (m2 (gIsN false) oa ob)) := jt_cmp o_isN (j_isN false) ha hb (nomark _)
theorem notNT (ha : JO X W a oa) (hb : JO X W b ob) : JT X W (.Compare a [.IsNot] [b] pos) (mTb (m2 (gIsN true) oa ob)) := jt_cmp o_notN (j_isN true) ha hb (nomark _)
theorem ix_ (ha : JO X W a oa) (hb : JO X W b ob) (hs : PlainIx b) : JE X W (.Subscript a b pos) (m2 gIxL oa ob) := je_ix ix_seq j_ix ha hb hs
/-- built-in functions and types -/
theorem Cs.bi {id : String} {r : List V → Hp → VK → Prop} {g : List D → Option Slot} {os : List Opn} (C : Cs X W k N sc) (h : glC sc x = true) (hm : X.mg x = none) (hv : bootBuiltins x = some (.builtin id)) (hc : CallR X (.builtin id) r) (hr : RLJ X r g) (ha : JOs X W (e :: es) os)
    (he : starEach (e :: es) X.env = (false, eval e X.env) :: starEach es X.env := by rfl) (hpl : (backTo pos (starEach es X.env)).any (·.1) = false := by rfl) : JE X W (.Call (.Name x p) (e :: es) [] pos) (mC g os) :=
  let ⟨g1, g2, g3⟩ := C.gl h
  je_callB hc hr g1 hm hv ha g3 g2 he hpl
theorem Cs.bt {T : String} {r : List V → Hp → VK → Prop} {g : List D → Option Slot} {os : List Opn} (C : Cs X W k N sc) (h : glC sc x = true) (hm : X.mg x = none) (hv : bootBuiltins x = some (.type T)) (hc : CallR X (.type T) r) (hr : RLJ X r g) (ha : JOs X W (e :: es) os)
    (he : starEach (e :: es) X.env = (false, eval e X.env) :: starEach es X.env := by rfl) (hpl : (backTo pos (starEach es X.env)).any (·.1) = false := by rfl) : JE X W (.Call (.Name x p) (e :: es) [] pos) (mC g os) :=
  let ⟨g1, g2, g3⟩ := C.gl h
  je_callTy hc hr g1 hm hv ha g3 g2 he hpl
theorem Cs.ty {T : String} (C : Cs X W k N sc) (h : glC sc x = true) (hm : X.mg x = none) (hv : bootBuiltins x = some (.type T)) : JE X W (.Name x pos) (mD (.ty T)) :=
  let ⟨g1, g2, g3⟩ := C.gl h
  je_ty g1 hm hv g3 g2
/-- constants of the module -/
theorem Cs.gInt {i : Int} (C : Cs X W k N sc) (h : glC sc x = true) (hm : ∃ t, X.mg x = some (.int i t)) : JE X W (.Name x pos) (mD (.int i)) :=
  let ⟨g1, g2, g3⟩ := C.gl h
  let ⟨t, hm⟩ := hm
  je_mod g1 hm (v := .int i) ⟨t, rfl⟩ (fun _ _ => .int) g2
theorem Cs.gStr {s : String} (C : Cs X W k N sc) (h : glC sc x = true) (hm : ∃ t, X.mg x = some (.str (Str.ofString s) t)) : JE X W (.Name x pos) (mD (.str (lit s))) :=
  let ⟨g1, g2, g3⟩ := C.gl h
  let ⟨t, hm⟩ := hm
  je_mod g1 hm (v := .str (Str.ofString s)) ⟨t, rfl⟩ (fun _ _ => by rw [ofS_lit]; exact .str) g2
/-- a op b op' c -/
def mChain (g g' : D → D → Option Slot) (oa ob oc : Opn) : ME := fun δ μ => (oa.ev δ μ).bind fun ra δ1 μ1 => (ob.ev δ1 μ1).bind fun rb δ2 μ2 => match ra.at δ2 μ2, rb.at δ2 μ2 with
  | some da, some db => match g da db with
    | some (.fr (.bl true)) => (oc.ev δ2 μ2).bind fun rc δ3 μ3 => match rb.at δ3 μ3, rc.at δ3 μ3 with
      | some db', some dc => lift (g' db' dc) δ3 μ3
      | _, _ => .bad
    | some (.fr (.bl false)) => .ok (.fr (.bl false)) δ2 μ2
    | _ => .bad
  | _, _ => .bad
theorem chain_read {r r' : R2} {g g' : D → D → Option Slot} {oc : Opn} (hr : R2J X r g) (hr' : R2J X r' g') : ∀ σ H Q, rdE X W (mChain g g' oa ob oc) σ H Q → tChain r r' (rdO X W oa) (rdO X W ob) (rdO X W oc) σ H Q := by
  intro σ H Q ⟨Z, F, ρ, μ, δ, S, q⟩
  refine ⟨Z, F, ρ, μ, δ, S, (FinE.bind q).imp fun ra δ1 μ1 H1 F1 ρ1 l1 lr1 S1 ⟨_, _, _, p1⟩ x hx => ?_⟩
  refine ⟨Z, F1, ρ1, μ1, δ1, S1, p1.bind.imp fun rb δ2 μ2 H2 F2 ρ2 l2 lr2 S2 ⟨_, _, _, p2⟩ y hy => ?_⟩
  cases ea : ra.at δ2 μ2 with
  | none => simp only [ea] at p2; exact p2.elim
  | some da =>
    cases eb : rb.at δ2 μ2 with
    | none => simp only [ea, eb] at p2; exact p2.elim
    | some db =>
      simp only [ea, eb] at p2
      cases eg : g da db with
      | none => simp only [eg] at p2; exact p2.elim
      | some s =>
        refine hr Z F2 ρ2 μ2 δ2 σ H2 x y da db s _ S2 ((hx.up l2 lr2).bor S2 ea) (hy.bor S2 eb) eg fun v H3 F3 l3 S3 vr => ?_
        cases s with
        | own o => simp only [eg] at p2; exact p2.elim
        | fr d =>
          cases d with
          | bl kk =>
            cases vr.r
            refine ⟨kk, rfl, ?_⟩
            cases kk with
            | false =>
              simp only [eg] at p2
              rw [if_neg Bool.false_ne_true]
              exact p2 H3 F3 ρ2 l3 .refl S3 _ .bl
            | true =>
              simp only [eg] at p2
              rw [if_pos rfl]
              refine ⟨Z, F3, ρ2, μ2, δ2, S3, (p2.mono l3 .refl).bind.imp fun rc δ4 μ4 H4 F4 ρ4 l4 lr4 S4 ⟨_, _, _, p4⟩ w hw => ?_⟩
              cases eb' : rb.at δ4 μ4 with
              | none => simp only [eb'] at p4; exact p4.elim
              | some db' =>
                cases ec : rc.at δ4 μ4 with
                | none => simp only [eb', ec] at p4; exact p4.elim
                | some dc =>
                  simp only [eb', ec] at p4
                  unfold lift at p4
                  cases eg' : g' db' dc with
                  | none => simp only [eg'] at p4; exact p4.elim
                  | some s' =>
                    simp only [eg'] at p4
                    exact hr' Z F4 ρ4 μ4 δ4 σ H4 y w db' dc s' Q S4 (((hy.up l3 .refl).up l4 lr4).bor S4 eb') (hw.bor S4 ec) eg' fun v H' F' l' S' vr => p4 H' F' ρ4 l' .refl S' v vr
          | _ => simp only [eg] at p2; exact p2.elim
theorem chain_ {op op' : CmpOp} {r r' : R2} {g g' : D → D → Option Slot} {oc : Opn} (ho : OpR X (compareOp op) r) (hr : R2J X r g) (ho' : OpR X (compareOp op') r') (hr' : R2J X r' g') (ha : JO X W a oa) (hb : JO X W b ob) (hc : JO X W c oc)
    (hm : lastMarks [op, op'] [b, c] = false := by with_unfolding_all rfl) : JE X W (.Compare a [op, op'] [b, c] pos) (mChain g g' oa ob oc) := (pe_chain ho ho' ha hb hc hm).imp (chain_read hr hr')
theorem chainT {op op' : CmpOp} {r r' : R2} {g g' : D → D → Option Slot} {oc : Opn} (ho : OpR X (compareOp op) r) (hr : R2J X r g) (ho' : OpR X (compareOp op') r') (hr' : R2J X r' g') (ha : JO X W a oa) (hb : JO X W b ob) (hc : JO X W c oc)
    (hm : lastMarks [op, op'] [b, c] = false := by with_unfolding_all rfl) : JT X W (.Compare a [op, op'] [b, c] pos) (mTb (mChain g g' oa ob oc)) := (pt_chain ho ho' ha hb hc hm).imp (mTb_read (chain_read hr hr'))
/-- a, b = x, y -/
theorem Cs.par {i j : Nat} {x y : Str} {ma mb : ME} {px py pt : Pos} {kt k2 pt2} (C : Cs X W k N sc) (hi : ownC N sc i x = true) (hj : ownC N sc j y = true) (hij : i ≠ j) (ha : JE X W a ma) (hb : JE X W b mb)
    (hw : ∀ env : Env, env.scope = sc → swappedStores [.Tuple [.Name x px, .Name y py] kt pt] (.Tuple [a, b] k2 pt2) env = pure (some [x, y]))
    (hs : swapsWithSole [.Tuple [.Name x px, .Name y py] kt pt] (.Tuple [a, b] k2 pt2) pos.line X.env = pure false := by rfl)
    (h1 : starEach [a, b] X.env = (false, eval a X.env) :: starEach [b] X.env := by rfl) (h2 : starEach [b] X.env = (false, eval b X.env) :: starEach [] X.env := by rfl) :
    JS X W (.Assign [.Tuple [.Name x px, .Name y py] kt pt] (.Tuple [a, b] k2 pt2) pos) (mPar i j ma mb) :=
  let ⟨n, i1, i2⟩ := C.own hi
  let ⟨_, j1, j2⟩ := C.own hj
  js_par C.calm n i1 j1 hij i2 j2 ha hb (hw X.env C.hsc) hs h1 h2
/-- methods -/
theorem join_ {ms : List Opn} {oo : Opn} (ho : JO X W o oo) (ha : JOs X W [e] ms) (hbase : attributeBase o "join" X.env (eval o X.env) = eval o X.env := by rfl)
    (hline : (apos.endLine == pos.line) = true := by rfl) (hs : starEach [e] X.env = (false, eval e X.env) :: starEach [] X.env := by rfl)
    (hfew : ((backTo pos (starEach [e] X.env)).all (fun x => !x.1) && (backToKw pos (keywordEach [] X.env)).all (fun x => x.1.isSome)
      && decide ([e].length + ([] : List Keyword).length + (if ([] : List Keyword).isEmpty then 0 else 1) < 30)) = true := by rfl) : JE X W (.Call (.Attribute o "join" apos) [e] [] pos) (mM "str" gJoin oo ms) :=
  je_bm PySem.F.plainAttrs_str PySem.F.slot_str_join PySem.F.type_str_join mt_join j_join ho ha hbase hfew hline hs
theorem lower_ {oo : Opn} (ho : JO X W o oo) (hbase : attributeBase o "lower" X.env (eval o X.env) = eval o X.env := by rfl) (hline : (apos.endLine == pos.line) = true := by rfl) : JE X W (.Call (.Attribute o "lower" apos) [] [] pos) (mM "str" gLower oo []) :=
  je_bm0 PySem.F.plainAttrs_str PySem.F.slot_str_lower PySem.F.type_str_lower mt_lower j_lower ho hbase hline
theorem upper_ {oo : Opn} (ho : JO X W o oo) (hbase : attributeBase o "upper" X.env (eval o X.env) = eval o X.env := by rfl) (hline : (apos.endLine == pos.line) = true := by rfl) : JE X W (.Call (.Attribute o "upper" apos) [] [] pos) (mM "str" gUpper oo []) :=
  je_bm0 PySem.F.plainAttrs_str PySem.F.slot_str_upper PySem.F.type_str_upper mt_upper j_upper ho hbase hline
theorem append_ {ms : List ME} {oo : Opn} (ho : JO X W o oo) (ha : JA X W [e] ms) (hbase : attributeBase o "append" X.env (eval o X.env) = eval o X.env := by rfl)
    (hline : (apos.endLine == pos.line) = true := by rfl) (hs : starEach [e] X.env = (false, eval e X.env) :: starEach [] X.env := by rfl)
    (hfew : ((backTo pos (starEach [e] X.env)).all (fun x => !x.1) && (backToKw pos (keywordEach [] X.env)).all (fun x => x.1.isSome)
      && decide ([e].length + ([] : List Keyword).length + (if ([] : List Keyword).isEmpty then 0 else 1) < 30)) = true := by rfl) : JE X W (.Call (.Attribute o "append" apos) [e] [] pos) (mMut "list" gAppend oo ms) :=
  je_mut PySem.F.plainAttrs_list PySem.F.slot_list_append PySem.F.type_list_append mt_append j_append ho ha hbase hfew hline hs
theorem range1_ {tg : Expr} {o : Opn} (C : Cs X W k N sc) (h : glC sc "range" = true) (hm : X.mg "range" = none) (ha : JOs X W [a] [o]) (hs : starEach [a] X.env = [(false, eval a X.env)] := by rfl) : JI X W tg (.Call (.Name "range" p) [a] [] pos) (mRange1 o) :=
  ji_range1 (C.gl h).1 hm ha hs
theorem range2_ {tg : Expr} {o o' : Opn} (C : Cs X W k N sc) (h : glC sc "range" = true) (hm : X.mg "range" = none) (ha : JOs X W [a, b] [o, o']) (hs : starEach [a, b] X.env = [(false, eval a X.env), (false, eval b X.env)] := by rfl) (hs2 : starEach [b] X.env = [(false, eval b X.env)] := by rfl) : JI X W tg (.Call (.Name "range" p) [a, b] [] pos) (mRange2 o o') :=
  ji_range2 (C.gl h).1 hm ha hs hs2
theorem slice_ {lo hi : Option Expr} {p2 : Pos} {oo : Opn} {ml mh : MM (Option Int)} (ho : JO X W e oo) (hl : JP X W lo ml) (hh : JP X W hi mh) : JE X W (.Subscript e (.Slice lo hi none p2) pos) (mSl gSl oo ml mh) := je_slice o_slice j_slice ho hl hh
theorem setI_ {i : Expr} {spos : Pos} {oo oi : Opn} {m : ME} (he : JE X W e m) (ho : JO X W o oo) (hi : JO X W i oi)
    (ha : ∀ v, assign (.Subscript o i spos) X.env v = (do
      let ov ← holding [v] (eval o X.env)
      let iv ← holding [v, ov] (eval i X.env)
      standAt spos
      holding [v, ov, iv] (setItem ov iv v)
      release [v, ov, iv] []) := by intro _; rfl)
    (hs : swapsWithSole [.Subscript o i spos] e pos.line X.env = pure false := by rfl) (hw : swappedStores [.Subscript o i spos] e X.env = pure none := by rfl)
    (h1 : (assignEach [.Subscript o i spos] X.env).map (·.2) = [assign (.Subscript o i spos) X.env] := by rfl) : JS X W (.Assign [.Subscript o i spos] e pos) (mSetI gSetL oo oi m) :=
  js_setI set_list j_setL he ho hi ha hs hw h1
def mNeg (m : ME) : ME := fun δ μ => (m δ μ).bind fun s δ1 μ1 => match s with
  | .fr (.int i) => .ok (.fr (.int (-i))) δ1 μ1
  | _ => .bad
theorem neg_ {m : ME} (h : JE X W a m) : JE X W (.UnaryOp .USub a pos) (mNeg m) := by
  refine (pe_un un_neg h).imp fun σ H Q ⟨Z, F, ρ, μ, δ, S, q⟩ => ⟨Z, F, ρ, μ, δ, S, (FinE.bind q).imp fun s δ1 μ1 H1 F1 ρ1 l lr S1 ⟨_, _, _, p⟩ v vr => ?_⟩
  cases s with
  | own o => exact p.elim
  | fr d =>
    cases d with
    | int i =>
      cases vr.r
      exact ⟨i, rfl, p H1 F1 ρ1 .refl .refl S1 _ ⟨.int, fun o p z => by cases z⟩⟩
    | _ => exact p.elim
end
/-- a def may be called -/
theorem Fu.mk0 {P : Program} {w : World} {K : PySem.W.Frag} {mg : Str → Option Value} {base : Heap} {k n : Nat} {x : Str} {m : MF} {f : Addr} {fd : FuncData} {ps : List Str} (F : FnG P w K mg base (L2.CX P w) k f fd ps (spM K mg m n)) (hm : mg x = some (.ref f)) (hk : PySem.W.keepIn K (.ref f) = true)
    (hb : Binds K fd ps []) : Fu P w K mg base k x m n [] := ⟨f, fd, ps, [], [], F, hm, hk, hb, .nil, fun _ _ => .nil⟩
theorem Fd.binds {K : PySem.W.Frag} {x qual : Str} {st : Stmt} {f : Addr} {fd : FuncData} (F : Fd K x qual st f fd .none) {ps : List Str}
    (h : ∀ (kV doc pm : Value) (an : Option Addr) (cdv ct : Value) (us : List Value), us.length = ps.length → bindArgs (PySem.W.fnOf x qual (defArgs st) (defBody st) (defScope st) .none kV doc pm an cdv ct) ⟨us, []⟩ = pure (ps.zip us)) : Binds K fd ps [] := by
  obtain ⟨oc, od, kV, doc, pm, an, cdv, ct, osl, rfl, lk, hcd⟩ := F.ex
  exact .all (h kV doc pm an cdv ct)
theorem fnG_s {P : Program} {w : World} {K : PySem.W.Frag} {mg : Str → Option Value} {base : Heap} {k n : Nat} {f : Addr} {x qual : Str} {st : Stmt} {fd : FuncData} {N ps : List Str} {m : MS} {dV : Value} {sc : Scope} (F : Fd K x qual st f fd dV) (S : FnScope N ps sc) (hsc : defScope st = sc) (hn : ps.length = n)
    (hbody : ∀ (X : Cx) (W : WX), X.prog = P → X.w = w → X.K = K → X.mg = mg → X.base = base → Cd X W k N sc → JSs X W (defBody st) m) : FnG P w K mg base (L2.CX P w) (k + 1) f fd ps (spM K mg (mFn N.length m) n) := by
  subst hsc
  exact fnG_m F S hn hbody
end FL

/-! Part J: from the law's mirror to the row. -/
namespace FL
open PySem PySem.Spec PyProof.Rows L2

/-- the law is called on the script, behind the top -/
theorem lawG {P : Program} {w : World} {K : PySem.W.Frag} {mg mb : Str → Option Value} {k : Nat} {f a : Addr} {fd : FuncData} {x : Str} {m : MF} {t : Shared} {us : List Value} {ns : List Int}
    (hK : K.In t.heap) (hg : t.heap.Ns mainGlobals mg) (hbn : t.heap.Ns builtinsNs mb) (hbb : ∀ x : Str, x ≠ "__name__" → mb x = bootBuiltins x) (hlim : t.heap.NoLimit) (hgen : t.gens = #[])
    (ha : t.heap.get? a = some { cls := .type "list", data := .seq us.toArray }) (hi : IntsAre us ns) (hl : ns.length ≤ sizeLine) (hr : RmG k callerA)
    (F : ∀ base : Heap, K.In base → base.Ns mainGlobals mg → FnG P w K mg base (L2.CX P w) k f fd [x] (spM K mg m 1)) (hbind : ∀ (s : Shared) (u : Value), BindsTo s fd ⟨[u], []⟩ [(x, u)])
    (hm : ∃ μ', m [.ro (ns.map .int)] [] = .ok (.fr (.bl true)) μ') :
    codeAny (model P w) callerA (.call (.ref f) ⟨[.ref a], []⟩) (fun r s' => r = .ok (.ret (.bool true)) ∧ OldK t.heap s'.heap ∧ s'.os = t.os ∧ AllBare s'.gens) t := by
  have vv := vals_ints hi
  have lv := hi.length
  obtain ⟨μ', hm⟩ := hm
  have main : ∀ H : Hp, Only H → SqL K H a (ns.map V.int) → HOk P w H t.heap → (∀ p, H p ≠ none → p = a) → (H a ≠ none → K.lookup a = none) →
      codeAny (model P w) callerA (.call (.ref f) ⟨[.ref a], []⟩) (fun r s' => r = .ok (.ret (.bool true)) ∧ OldK t.heap s'.heap ∧ s'.os = t.os ∧ AllBare s'.gens) t := by
    intro H only sq ok one free
    have noDict : ∀ {p : Addr} {o : Obj} {es : Array DictEntry} {ep : Nat}, t.heap.get? p = some o → o.data = .dict es ep → H p = none := fun {p o es ep} e d => by
      cases q : H p with
      | none => rfl
      | some u =>
        have ep' : p = a := one p (by rw [q]; simp)
        rw [ep', ha] at e
        cases e
        have d' : Data.seq us.toArray _ = Data.dict es ep := d
        cases d'
    have nsB : ∀ {p : Addr} {mm : Str → Option Value}, t.heap.Ns p mm → (hidT t.heap H).Ns p mm := fun {p mm} ⟨o, es, ep, e, d, r⟩ => ⟨o, es, ep, hidT_get e (noDict e d), d, r⟩
    have kB : K.In (hidT t.heap H) := fun p o e => hidT_get (hK p o e) (by
      cases q : H p with
      | none => rfl
      | some u =>
        have ep' : p = a := one p (by rw [q]; simp)
        rw [ep', free (by rw [← ep', q]; simp)] at e
        cases e)
    have mB : Mod K mg (hidT t.heap H) := ⟨kB, nsB hg, ⟨mb, nsB hbn, hbb⟩, let ⟨mc, q1, q2⟩ := hlim; ⟨mc, nsB q1, q2⟩⟩
    have env : Env0 P w K mg (hidT t.heap H) callerA [] t H := ⟨rfl, mB, fun p o e => of_hidT e, Nat.le_of_eq (hidT_size _ _), trivial, fun p hp => absurd (show p ∈ ([] : List Addr) from hp) (by simp), ok, .of_eq hgen⟩
    have S0 : Sim K mg (fun _ => none) H [] [] [] [] H := ⟨fun p o h => .inl h, fun p o h => (nomatch h), rfl, fun i s e => (by simp at e), fun i j p s t e => (by simp at e), fun k c e => (by simp at e), rfl, List.nodup_nil⟩
    have hsp : spM K mg m 1 [.ref a] H (fun v _ => v = .bl true) (fun _ _ _ => False) := by
      refine ⟨rfl, _, H, [], [], [.ro (ns.map .int)], S0, .cons (.ro sq (RepL.ofInts ns)) .nil, ?_⟩
      rw [hm]
      intro v H' F' ρ' _ _ _ rv
      cases rv
      rfl
    refine codeAny_mono ((F _ kB (nsB hg)).run callerA [] t H ⟨[.ref a], []⟩ [.ref a] [.ref a] _ _ hr env (hbind t (.ref a)) (.cons rfl .nil) hsp) fun res s' h => ?_
    cases res with
    | error e =>
      obtain ⟨_, _, _, _, _, _, _, _, _, _, _, _, z⟩ := h
      exact z.elim
    | ok fl =>
      cases fl with
      | next => exact False.elim h
      | brk => exact False.elim h
      | cont => exact False.elim h
      | ret u =>
        obtain ⟨v, H', os, bare, un, ok', rv, q⟩ := h
        have q' : v = .bl true := q
        subst q'
        cases rv
        refine ⟨rfl, OldK.of_keep fun p o e => ?_, os, bare⟩
        cases q : H p with
        | none => exact un.keep p o e q (by intro z; exact absurd (show p ∈ ([] : List Addr) from z) (by simp)) (by simp)
        | some u =>
          rcases only p with z | ⟨ob, xs, z⟩
          · rw [q] at z; cases z
          · obtain ⟨e1, _⟩ := ok p _ z
            obtain ⟨e2, _⟩ := ok' p _ (un.frzs p ob _ z)
            rw [e] at e1; cases e1
            exact e2
  cases hk : K.lookup a with
  | some o =>
    have e := hK a o hk
    rw [ha] at e
    cases e
    exact main (fun _ => none) (fun _ => .inl rfl) (.inr ⟨_, us.toArray, _, hk, rfl, rfl, rfl, by rw [List.size_toArray, lv]; exact hl, by simpa using vv⟩) (fun p u z => nomatch z) (fun p z => absurd rfl z) fun z => absurd rfl z
  | none =>
    let H : Hp := fun p => if p = a then some (.frz { cls := .type "list", data := .seq us.toArray } (.lst (ns.map V.int))) else none
    have Ha : H a = some (.frz { cls := .type "list", data := .seq us.toArray } (.lst (ns.map V.int))) := if_pos rfl
    have Hn : ∀ {p}, p ≠ a → H p = none := fun h => if_neg h
    refine main H (fun p => ?_) (.inl (.inr ⟨_, Ha⟩)) (fun p u z => ?_) (fun p z => Classical.byContradiction fun n => z (Hn n)) fun _ => hk
    · by_cases n : p = a
      · subst n; exact .inr ⟨_, _, Ha⟩
      · exact .inl (Hn n)
    · by_cases n : p = a
      · subst n
        rw [Ha] at z
        cases z
        exact ⟨ha, by rw [List.length_map]; exact hl, us, _, vv, ha⟩
      · rw [Hn n] at z; cases z
theorem walkG {l : PySem.W.OpenLaw} {k : Nat} {q : Program} {loose : List Str} {XP : (Str → Option Value) → Heap → Prop} {YP : World → Heap → Prop} {d : DefRec} {K : Params → PySem.W.Frag} {x : Str} {m : MF}
    (hn : l.most = some 63) (hdf : d.params.defaults = []) (hr : RmG k callerA)
    (hY : ∀ (w : World) (h : Heap), YP w h → (K w.params).In h)
    (F : ∀ (w : World) (mg : Str → Option Value) (fa : Addr) (h : Heap), (K w.params).In h → h.Ns mainGlobals mg → mg d.name = some (.ref fa) →
      ∃ fd : FuncData, (∀ (s : Shared) (u : Value), BindsTo s fd ⟨[u], []⟩ [(x, u)]) ∧
        ∀ base : Heap, (K w.params).In base → base.Ns mainGlobals mg → FnG l.prog w (K w.params) mg base (L2.CX l.prog w) k fa fd [x] (spM (K w.params) mg m 1))
    (hm : ∀ ns : List Int, ns.length ≤ 63 → ∃ μ', m [.ro (ns.map .int)] [] = .ok (.fr (.bl true)) μ') :
    PySem.W.WalkO q loose XP YP l.row.toRowW d [] (fun f vs => PySem.call f vs) := by
  refine Att.attach_call hn hdf fun w s0 s1 mg mb fa o pm cd doc a vs ns G Y ho hd hcd hmg hobj hints hlen hg => ?_
  have hK := hY w _ Y
  obtain ⟨fd, hb, hF⟩ := F w mg fa _ hK G.T.g hmg
  exact lawG hK G.T.g G.T.b G.T.builtins G.T.nolimit hg hobj hints (Nat.le_trans hlen (by rw [line_eq]; decide)) hr hF hb (hm ns hlen)
theorem room_caller : RmG 200 callerA := ⟨⟨rfl, by decide, by decide⟩, rfl⟩
end FL

/-! Part K: pop at a place, insert, sum, repr of data. -/
namespace FL
open PySem PySem.Spec PyProof.Rows L2
section
variable {X : Cx} {W : WX} {k : Nat} {N : List Str} {sc : Scope} {a b e o : Expr} {es : List Expr} {pos p apos : Pos} {x : Str}
def gPopAt : Own → List D → Option (D × Own)
  | .lst xs, [.int i] => if -(2 ^ 63) ≤ i ∧ i < 2 ^ 63 then (match ixN xs.length i with
      | some j => match xs[j]? with
        | some d => some (d, .lst (xs.eraseIdx j))
        | none => none
      | none => none) else none
  | _, _ => none
theorem j_popAt : MutJ X rPopAt gPopAt := by
  intro Z F ρ μ δ σ H p c xs ds d c' Q S ow rx e q
  unfold gPopAt at e
  split at e
  · rename_i ys i
    by_cases hb : -(2 ^ 63) ≤ i ∧ i < 2 ^ 63
    · rw [if_pos hb] at e
      cases ej : ixN ys.length i with
      | none => simp only [ej] at e; cases e
      | some j =>
        cases ex : ys[j]? with
        | none => simp only [ej, ex] at e; cases e
        | some d0 =>
          simp only [ej, ex] at e
          cases e
          obtain ⟨v, rfl, hv⟩ := rx.single
          cases hv
          obtain ⟨vs, hH, r⟩ := ow
          obtain ⟨u, eu, ru⟩ := r.get ex
          exact ⟨p, vs, i, j, u, rfl, rfl, hH, hb.1, hb.2, by rw [r.len]; exact (ixN_seq ej).1, eu, q _ _ ru ⟨_, upd_same, r.erase j⟩⟩
    · rw [if_neg hb] at e; cases e
  · cases e
def gInsert : Own → List D → Option (D × Own)
  | .lst xs, [.int i, d] => if xs.length < 16777216 ∧ 0 ≤ i ∧ i < 2 ^ 63 then some (.non, .lst (xs.take i.toNat ++ [d] ++ xs.drop i.toNat)) else none
  | _, _ => none
abbrev rInsertAt : V → List V → Hp → VK → Prop := fun x vs H Q => ∃ (l : Addr) (xs : List V) (i : Int) (y : V), x = .ref l ∧ vs = [.int i, y] ∧ H l = some (.lst xs) ∧ xs.length < sizeLine ∧ 0 ≤ i ∧ i < 2 ^ 63 ∧ Q .non (upd H l (.lst (xs.take i.toNat ++ [y] ++ xs.drop i.toNat)))
theorem RepL.pair {F : Hp} {ρ : List Addr} {vs : List V} {d d' : D} (h : RepL X.K X.mg F ρ vs [d, d']) : ∃ v w, vs = [v, w] ∧ Rep X.K X.mg F ρ v d ∧ Rep X.K X.mg F ρ w d' := by
  cases h with
  | cons h t => obtain ⟨w, rfl, h'⟩ := t.single; exact ⟨_, w, rfl, h, h'⟩
theorem j_insert : MutJ X rInsertAt gInsert := by
  intro Z F ρ μ δ σ H p c xs ds d c' Q S ow rx e q
  unfold gInsert at e
  split at e
  · rename_i ys i d0
    by_cases hb : ys.length < 16777216 ∧ 0 ≤ i ∧ i < 2 ^ 63
    · rw [if_pos hb] at e
      cases e
      obtain ⟨v, w, rfl, hv, hw⟩ := rx.pair
      cases hv
      obtain ⟨vs, hH, r⟩ := ow
      exact ⟨p, vs, i, w, rfl, rfl, hH, by rw [r.len, line_eq]; exact hb.1, hb.2.1, hb.2.2, q _ _ .non ⟨_, upd_same, ((r.take _).app (.cons hw .nil)).app (r.drop _)⟩⟩
    · rw [if_neg hb] at e; cases e
  · cases e
theorem popAt_ {ms : List ME} {oo : Opn} (ho : JO X W o oo) (ha : JA X W [e] ms) (hbase : attributeBase o "pop" X.env (eval o X.env) = eval o X.env := by rfl)
    (hline : (apos.endLine == pos.line) = true := by rfl) (hs : starEach [e] X.env = (false, eval e X.env) :: starEach [] X.env := by rfl)
    (hfew : ((backTo pos (starEach [e] X.env)).all (fun x => !x.1) && (backToKw pos (keywordEach [] X.env)).all (fun x => x.1.isSome)
      && decide ([e].length + ([] : List Keyword).length + (if ([] : List Keyword).isEmpty then 0 else 1) < 30)) = true := by rfl) : JE X W (.Call (.Attribute o "pop" apos) [e] [] pos) (mMut "list" gPopAt oo ms) :=
  je_mut PySem.F.plainAttrs_list PySem.F.slot_list_pop PySem.F.type_list_pop mt_popAt j_popAt ho ha hbase hfew hline hs
theorem pop0_ {oo : Opn} (ho : JO X W o oo) (hbase : attributeBase o "pop" X.env (eval o X.env) = eval o X.env := by rfl) (hline : (apos.endLine == pos.line) = true := by rfl) : JE X W (.Call (.Attribute o "pop" apos) [] [] pos) (mMut "list" gPop0 oo []) :=
  je_mut0 PySem.F.plainAttrs_list PySem.F.slot_list_pop PySem.F.type_list_pop mt_pop j_pop0 ho hbase hline
theorem insert_ {ms : List ME} {oo : Opn} (ho : JO X W o oo) (ha : JA X W [a, b] ms) (hbase : attributeBase o "insert" X.env (eval o X.env) = eval o X.env := by rfl)
    (hline : (apos.endLine == pos.line) = true := by rfl) (hs : starEach [a, b] X.env = (false, eval a X.env) :: starEach [b] X.env := by rfl) (hpl : (backTo pos (starEach [b] X.env)).any (·.1) = false := by rfl)
    (hfew : ((backTo pos (starEach [a, b] X.env)).all (fun x => !x.1) && (backToKw pos (keywordEach [] X.env)).all (fun x => x.1.isSome)
      && decide ([a, b].length + ([] : List Keyword).length + (if ([] : List Keyword).isEmpty then 0 else 1) < 30)) = true := by rfl) : JE X W (.Call (.Attribute o "insert" apos) [a, b] [] pos) (mMut "list" gInsert oo ms) :=
  je_mut PySem.F.plainAttrs_list PySem.F.slot_list_insert PySem.F.type_list_insert mt_insert j_insert ho ha hbase hfew hline hs hpl
/-- repr of data -/
abbrev rReprD (K : PySem.W.Frag) : List V → Hp → VK → Prop := fun xs H Q => ∃ x d, xs = [x] ∧ Dp K H x d ∧ PyData.showable d = true ∧ PyData.hasDict d = false ∧ d.depth ≤ 64 ∧ (PyData.shown d).length ≤ sizeLine ∧ Q (.str (PyData.shown d)) H
theorem o_repr (hg : X.A.guards = some []) (hu : X.A.units + 70 < cLine) : CallR X (.builtin "repr") (rReprD X.K) := by
  intro pins s σ H xs us Q I rv h
  obtain ⟨x, d, rfl, hd, hs, hn, hdp, hz, q⟩ := h
  obtain ⟨u, rfl, ru⟩ : ∃ u, us = [u] ∧ RelV x u := by
    cases rv with
    | cons r t => cases t; exact ⟨_, rfl, r⟩
  obtain ⟨as, rd⟩ := Dp.reads I d x u hd ru
  have fin : ∀ a, u = .ref a → wpAny (model X.prog X.w) X.A (call (.builtin "repr") [u]) (EP X pins σ Q) X.xe s := by
    intro a ea
    subst ea
    exact repr_of_reads' rd hs (PyData.noDict_hsm hn) hg (by omega) (fun _ _ e => e) (fun h' t tk kk => ⟨.str (PyData.shown d), H, I.kept (t' := tk) kk, ⟨t, rfl⟩, q⟩) hz
  cases hd with
  | non => cases ru; exact PySem.P.repr_of_none ⟨.str _, H, I.tok _, ⟨_, rfl⟩, q⟩
  | bl b => cases ru; exact PySem.P.repr_of_bool ⟨.str _, H, I.tok _, ⟨_, by cases b <;> rfl⟩, q⟩
  | int i =>
    obtain ⟨t, rfl⟩ := ru
    exact PySem.P.repr_of_int (of_decide_eq_true hs) ⟨.str _, H, I.tok _, ⟨_, rfl⟩, q⟩
  | str z =>
    obtain ⟨t, rfl⟩ := ru
    exact PySem.P.repr_of_str ⟨.str _, H, I.tok _, ⟨_, rfl⟩, q⟩ hz
  | lst hq ha => cases ru; exact fin _ rfl
  | tup hq ha => cases ru; exact fin _ rfl
def gRepr : List D → Option Slot := fun ds => match ds with
  | [d] => match D.py d with
    | some q => if (PyData.showable q && (!PyData.hasDict q && (decide (q.depth ≤ 64) && decide ((PyData.shown q).length ≤ 16777216)))) = true then some (.fr (.str (PyData.shown q).cps.toList)) else none
    | none => none
  | _ => none
theorem j_repr : RLJ X (rReprD X.K) gRepr :=
  rl1_flat (g := fun d => match D.py d with
    | some q => if (PyData.showable q && (!PyData.hasDict q && (decide (q.depth ≤ 64) && decide ((PyData.shown q).length ≤ 16777216)))) = true then some (.fr (.str (PyData.shown q).cps.toList)) else none
    | none => none) fun Z F ρ μ δ σ H x dx s Q S b e => by
    cases ep : D.py dx with
    | none => simp only [ep] at e; cases e
    | some q =>
      simp only [ep] at e
      split at e
      · rename_i hc
        simp only [Bool.and_eq_true, Bool.not_eq_true', decide_eq_true_eq] at hc
        cases e
        exact ⟨.str (PyData.shown q), fun qq => ⟨x, q, rfl, b.dp S ep, hc.1, hc.2.1, hc.2.2.1, by rw [line_eq]; exact hc.2.2.2, qq⟩, _, rfl, by
          have := @Rep.str X.K X.mg F ρ (PyData.shown q).cps.toList
          rwa [toS_of] at this⟩
      · cases e
theorem Cs.hg (C : Cs X W k N sc) : X.A.guards = some [] := C.rm.g
theorem Cs.hu70 (C : Cs X W k N sc) : X.A.units + 70 < cLine := by have := C.rm.r.un; omega
end
end FL

/-! Part S: the source of draws that all laws share, in plain words. -/
namespace FL
open PySem L2

noncomputable def bSource : MS := (mSeq (mSet 2 (mIf (mTb (m2 (gEq true) (.v 0) (.e (mLst [])))) (m2 gIxL (.v 0) (.e (m2 gMod (.v 1) (.e (mC gLen [(.v 0)]))))) (mD (.int 1))))
    (mRet (mShare (mLst [(mV 2), (m2 gMulA (.e (mD (.int 3))) (.v 1)), (mIf (mTb (m2 gGe (.v 2) (.e (m2 gPow (.e (mD (.int 10))) (.e (mD (.int 18))))))) (m2 gDiv (.v 2) (.e (m2 gPow (.e (mD (.int 10))) (.e (mD (.int 18)))))) (mD (.int 0)))]))))
noncomputable def bNext : MS := (mSeq (mIfS (mTb (m2 gGt (.e (m2 gIxL (.v 0) (.e (mD (.int 2))))) (.e (mD (.int 0))))) (mSeq (mSet 2 (m2 gMod (.e (m2 gIxL (.v 0) (.e (mD (.int 2))))) (.v 1)))
    (mSeq (mSetI gSetL (.v 0) (.e (mD (.int 2))) (m2 gDiv (.e (m2 gIxL (.v 0) (.e (mD (.int 2))))) (.v 1)))
    (mRet (mV 2))))
    mPass)
    (mSeq (mSetI gSetL (.v 0) (.e (mD (.int 1))) (m2 gAdd (.e (m2 gIxL (.v 0) (.e (mD (.int 1))))) (.e (mD (.int 1)))))
    (mSeq (mSet 3 (mLst [(mD (.int 2147483647)), (mD (.int 2147483629)), (mD (.int 2147483587)), (mD (.int 2147483579)), (mD (.int 2147483563)), (mD (.int 2147483549)), (mD (.int 2147483543)), (mD (.int 2147483497))]))
    (mSeq (mSet 4 (m2 gIxL (.e (m2 gAdd (.v 3) (.e (mLst [(mD (.int 2147483489)), (mD (.int 2147483477)), (mD (.int 2147483423))])))) (.e (m2 gMod (.e (m2 gIxL (.v 0) (.e (mD (.int 1))))) (.e (mD (.int 11)))))))
    (mRet (m2 gMod (.e (m2 gDiv (.e (m2 gMod (.e (m2 gPow (.e (m2 gAdd (.e (m2 gAdd (.e (m2 gMod (.e (m2 gIxL (.v 0) (.e (mD (.int 0))))) (.v 4))) (.e (m2 gMulA (.e (mD (.int 7919))) (.e (m2 gIxL (.v 0) (.e (mD (.int 1))))))))) (.e (mD (.int 1))))) (.e (mD (.int 5))))) (.v 4))) (.e (mD (.int 13))))) (.v 1)))))))
noncomputable def mNext : MF := mFn 5 bNext
noncomputable def mSource : MF := mFn 3 bSource
noncomputable def bPick : MS := (mRet (m2 gIxL (.v 1) (.e (mCall mNext [(mV 0), (mC gLen [(.v 1)])] []))))
noncomputable def mPick : MF := mFn 2 bPick

/-- the source stands at j, at most B drawn -/
def Src (μ : Mem) (j : Nat) (B : Int) : Prop := ∃ c i g : Int, μ[j]? = some (.lst [.int c, .int i, .int g]) ∧ 0 ≤ i ∧ i ≤ B ∧ 0 ≤ g
theorem Src.mono {μ : Mem} {j : Nat} {B B' : Int} (h : Src μ j B) (hb : B ≤ B') : Src μ j B' := by
  obtain ⟨c, i, g, h1, h2, h3, h4⟩ := h
  exact ⟨c, i, g, h1, h2, by omega, h4⟩
/-- nothing but j changes -/
def Fr (j : Nat) (μ μ' : Mem) : Prop := μ'.length = μ.length ∧ ∀ k : Nat, k ≠ j → μ'[k]? = μ[k]?
theorem Fr.refl {j : Nat} {μ : Mem} : Fr j μ μ := ⟨rfl, fun _ _ => rfl⟩
theorem Fr.trans {j : Nat} {μ μ1 μ2 : Mem} (a : Fr j μ μ1) (b : Fr j μ1 μ2) : Fr j μ μ2 := ⟨b.1.trans a.1, fun k h => (b.2 k h).trans (a.2 k h)⟩
theorem Fr.set {j : Nat} {μ : Mem} {c : Own} : Fr j μ (μ.set j c) := ⟨by simp, fun k h => List.getElem?_set_ne (Ne.symm h)⟩

theorem ix0 {a b c : D} : L2.atI [a, b, c] 0 = some a := rfl
theorem ix1 {a b c : D} : L2.atI [a, b, c] 1 = some b := rfl
theorem ix2 {a b c : D} : L2.atI [a, b, c] 2 = some c := rfl
theorem ixn1 : ixN 3 1 = some 1 := rfl
theorem ixn2 : ixN 3 2 = some 2 := rfl
def primes : List Int := [2147483647, 2147483629, 2147483587, 2147483579, 2147483563, 2147483549, 2147483543, 2147483497, 2147483489, 2147483477, 2147483423]
theorem primes_at (r : Int) (h0 : 0 ≤ r) (h1 : r < 11) : ∃ p : Int, L2.atI (primes.map D.int) r = some (.int p) ∧ 2147483423 ≤ p ∧ p ≤ 2147483647 := by
  have e : r = 0 ∨ r = 1 ∨ r = 2 ∨ r = 3 ∨ r = 4 ∨ r = 5 ∨ r = 6 ∨ r = 7 ∨ r = 8 ∨ r = 9 ∨ r = 10 := by omega
  rcases e with rfl | rfl | rfl | rfl | rfl | rfl | rfl | rfl | rfl | rfl | rfl <;> exact ⟨_, rfl, by decide, by decide⟩
theorem next_spec {μ : Mem} {j : Nat} {n B : Int} (h : Src μ j B) (hB : B ≤ 2 ^ 40) (h0 : 0 < n) (hn : n ≤ 2 ^ 63) :
    ∃ r μ', mNext [.obj j, .int n] μ = .ok (.fr (.int r)) μ' ∧ 0 ≤ r ∧ r < n ∧ Src μ' j (B + 1) ∧ Fr j μ μ' := by
  obtain ⟨c, i, g, hm, i0, iB, g0⟩ := h
  have hj : j < μ.length := (List.getElem?_eq_some_iff.mp hm).1
  have hlog : n.natAbs.log2 < 9000 := by
    have : n.natAbs < 2 ^ 64 := by omega
    have := (Nat.log2_lt (by omega)).mpr this
    omega
  by_cases hg : 0 < g
  · refine ⟨g % n, μ.set j (.lst [.int c, .int i, .int (g / n)]), ?_, Int.emod_nonneg _ (by omega), Int.emod_lt_of_pos _ h0, ⟨c, i, g / n, by simp [hj], i0, by omega, Int.ediv_nonneg g0 (by omega)⟩, .set⟩
    simp [mNext, bNext, mFn, mSeq, mIfS, mTb, m2, Opn.ev, mSet, mRet, mV, mD, mSetI, OR.at, look, startD, Out.bind, Out.thn, OutS.seq, OutS.fin, Slot.d, Own.d, lift, hm, gGt, gGtI, gTx, gInt, gMod, gDiv, gIxL, ix2, hg, h0, hlog, recv, gSetL, ixn2]
  · have e0 : g = 0 := by omega
    subst e0
    have hr0 : 0 ≤ (i + 1) % 11 := Int.emod_nonneg _ (by decide)
    have hr1 : (i + 1) % 11 < 11 := Int.emod_lt_of_pos _ (by decide)
    obtain ⟨p, ep, p0, p1⟩ := primes_at _ hr0 hr1
    have hc0 : 0 ≤ c % p := Int.emod_nonneg _ (by omega)
    have hc1 : c % p < p := Int.emod_lt_of_pos _ (by omega)
    have hbase : (c % p + 7919 * (i + 1) + 1).natAbs < 2 ^ 64 := by omega
    have hmul : Nat.log2 7919 + (i + 1).natAbs.log2 < 1000000 := by
      have h1 : Nat.log2 7919 = 12 := by decide +kernel
      have h2 : (i + 1).natAbs.log2 < 64 := (Nat.log2_lt (by omega)).mpr (by omega)
      omega
    have hp9 : 0 < p := by omega
    refine ⟨(c % p + 7919 * (i + 1) + 1) ^ 5 % p / 13 % n, μ.set j (.lst [.int c, .int (i + 1), .int 0]), ?_, Int.emod_nonneg _ (by omega), Int.emod_lt_of_pos _ h0, ⟨c, i + 1, 0, by simp [hj], by omega, by omega, by omega⟩, .set⟩
    have ep' : L2.atI [D.int 2147483647, .int 2147483629, .int 2147483587, .int 2147483579, .int 2147483563, .int 2147483549, .int 2147483543, .int 2147483497, .int 2147483489, .int 2147483477, .int 2147483423] ((i + 1) % 11) = some (.int p) := ep
    have hs : ∀ c : Own, (μ.set j c)[j]? = some c := fun c => List.getElem?_set_self hj
    have l13 : Nat.log2 13 < 9000 := by decide +kernel
    simp [mNext, bNext, mFn, mSeq, mIfS, mTb, m2, Opn.ev, mSet, mRet, mV, mD, mSetI, mLst, evA, mPass, OR.at, look, startD, Out.bind, Out.thn, OutS.seq, OutS.fin, Slot.d, Own.d, lift, hm, hs, gGt, gGtI, gTx, gInt, gMod, gDiv, gPow, gMulA, gMul, gAdd, gAddS, gAddL, gAddT, gIxL, ix0, ix1, ix2, h0, hlog, recv, gSetL, ixn1, ep', hp9, hbase, hmul, l13]
theorem atI_nat {α : Type} {xs : List α} {r : Int} (h0 : 0 ≤ r) (h1 : r < xs.length) : ∃ x, L2.atI xs r = some x ∧ x ∈ xs := by
  have hr : r.toNat < xs.length := by omega
  refine ⟨xs[r.toNat], ?_, List.getElem_mem hr⟩
  unfold L2.atI ixN
  simp [h0, h1, hr]
theorem pick_lst {μ : Mem} {j : Nat} {B : Int} {xs : List D} (h : Src μ j B) (hB : B ≤ 2 ^ 40) (h0 : xs ≠ []) (hn : xs.length ≤ 2 ^ 24) :
    ∃ x μ', x ∈ xs ∧ mPick [.obj j, .lst xs] μ = .ok (.fr x) μ' ∧ Src μ' j (B + 1) ∧ Fr j μ μ' := by
  have hl : 0 < xs.length := List.length_pos_iff.mpr h0
  obtain ⟨r, μ', e, r0, r1, hs, hf⟩ := next_spec (n := xs.length) h hB (by omega) (by omega)
  obtain ⟨x, ex, hx⟩ := atI_nat r0 r1
  refine ⟨x, μ', hx, ?_, hs, hf⟩
  simp [mPick, bPick, mFn, mRet, m2, Opn.ev, mCall, evA, mV, mC, evs, OR.ats, OR.at, look, startD, Out.bind, Out.thn, OutS.fin, Slot.d, gLen, gLen1, lift, e, gIxL, ex]
theorem pick_str {μ : Mem} {j : Nat} {B : Int} {xs : Tx} (h : Src μ j B) (hB : B ≤ 2 ^ 40) (h0 : xs ≠ []) (hn : xs.length ≤ 2 ^ 24) :
    ∃ x μ', x ∈ xs ∧ mPick [.obj j, .str xs] μ = .ok (.fr (.str [x])) μ' ∧ Src μ' j (B + 1) ∧ Fr j μ μ' := by
  have hl : 0 < xs.length := List.length_pos_iff.mpr h0
  obtain ⟨r, μ', e, r0, r1, hs, hf⟩ := next_spec (n := xs.length) h hB (by omega) (by omega)
  obtain ⟨x, ex, hx⟩ := atI_nat r0 r1
  refine ⟨x, μ', hx, ?_, hs, hf⟩
  have hn' : xs.length ≤ 16777216 := hn
  simp [mPick, bPick, mFn, mRet, m2, Opn.ev, mCall, evA, mV, mC, evs, OR.ats, OR.at, look, startD, Out.bind, Out.thn, OutS.fin, Slot.d, gLen, gLen1, lift, e, gIxL, ex, hn']
/-- lists of whole numbers -/
theorem pys_ints (ns : List Int) : D.pys (ns.map D.int) = some (ns.map PyData.int) := by
  induction ns with
  | nil => rfl
  | cons n ns ih => simp [D.pys, D.py, ih]
theorem canLay_ints (ns : List Int) : PyData.canLayAll0 (ns.map PyData.int) = true := by
  induction ns with
  | nil => simp [PyData.canLayAll0]
  | cons n ns ih => simp [PyData.canLayAll0, PyData.canLay0, ih]
theorem depth_ints (ns : List Int) : PyData.depthAll (ns.map PyData.int) = 0 := by
  induction ns with
  | nil => simp [PyData.depthAll]
  | cons n ns ih => simp [PyData.depthAll, PyData.depth, ih]
theorem shaped_ints (ns : List Int) : SeqAt.shaped (.list (ns.map PyData.int)) = true := by
  simp [SeqAt.shaped, PyData.canLay0, PyData.depth, canLay_ints, depth_ints]
theorem eq_ints_nil (neg : Bool) (ns : List Int) : gEq neg (.ro (ns.map .int)) (.lst []) = some (tb (decide (ns = []) != neg)) := by
  have h := shaped_ints ns
  have h0 := shaped_ints []
  have e : PyData.eqvAll (ns.map PyData.int) [] = decide (ns = []) := by cases ns <;> simp [PyData.eqvAll]
  simp only [List.map_nil] at h0
  simp [gEq, eqS, eqP, D.py, pys_ints, D.pys, h, h0, PyData.eqv, e]
theorem source_spec {ns : List Int} {k : Int} {μ : Mem} (hl : ns.length ≤ 63) (h0 : 0 ≤ k) (hk : k ≤ 2 ^ 40) :
    ∃ c g, 0 ≤ g ∧ mSource [.ro (ns.map .int), .int k] μ = .ok (.fr (.obj μ.length)) (μ ++ [.lst [.int c, .int (3 * k), .int g]]) := by
  have hmul : Nat.log2 3 + k.natAbs.log2 < 1000000 := by
    have h1 : Nat.log2 3 = 1 := by decide +kernel
    by_cases hz : k.natAbs = 0
    · rw [hz, h1]; decide +kernel
    · have h2 : k.natAbs.log2 < 64 := (Nat.log2_lt hz).mpr (by omega)
      omega
  have l10 : Nat.log2 1000000000000000000 < 9000 := by decide +kernel
  have core : ∀ c : Int, (ns = [] ∧ c = 1 ∨ ns ≠ [] ∧ L2.atI (ns.map D.int) (k % (ns.length : Int)) = some (.int c)) →
      ∃ g, 0 ≤ g ∧ mSource [.ro (ns.map .int), .int k] μ = .ok (.fr (.obj μ.length)) (μ ++ [.lst [.int c, .int (3 * k), .int g]]) := by
    intro c hc
    by_cases hb : 1000000000000000000 ≤ c
    · refine ⟨c / 1000000000000000000, Int.ediv_nonneg (by omega) (by decide), ?_⟩
      rcases hc with ⟨rfl, rfl⟩ | ⟨hne, hat⟩
      · omega
      · have hp := List.length_pos_iff.mpr hne
        simp [mSource, bSource, mFn, mSeq, mIf, mTb, m2, Opn.ev, mSet, mRet, mV, mD, mLst, mShare, mC, evs, evA, OR.at, OR.ats, look, startD, Out.bind, Out.thn, OutS.seq, OutS.fin, Slot.d, Own.d, lift, eq_ints_nil, hne, gLen, gLen1, gMod, gInt, hp, gIxL, hat, gMulA, gMul, hmul, gGe, gGeI, gPow, gDiv, l10, hb]
    · refine ⟨0, by decide, ?_⟩
      rcases hc with ⟨rfl, rfl⟩ | ⟨hne, hat⟩
      · have e0 : gEq true (.ro []) (.lst []) = some (tb false) := eq_ints_nil true []
        simp [mSource, bSource, mFn, mSeq, mIf, mTb, m2, Opn.ev, mSet, mRet, mV, mD, mLst, mShare, mC, evs, evA, OR.at, OR.ats, look, startD, Out.bind, Out.thn, OutS.seq, OutS.fin, Slot.d, Own.d, lift, e0, gLen, gLen1, gMod, gInt, gIxL, gMulA, gMul, hmul, gGe, gGeI, gPow, gDiv, l10, hb]
      · have hp := List.length_pos_iff.mpr hne
        simp [mSource, bSource, mFn, mSeq, mIf, mTb, m2, Opn.ev, mSet, mRet, mV, mD, mLst, mShare, mC, evs, evA, OR.at, OR.ats, look, startD, Out.bind, Out.thn, OutS.seq, OutS.fin, Slot.d, Own.d, lift, eq_ints_nil, hne, gLen, gLen1, gMod, gInt, hp, gIxL, hat, gMulA, gMul, hmul, gGe, gGeI, gPow, gDiv, l10, hb]
  by_cases hne : ns = []
  · obtain ⟨g, g0, e⟩ := core 1 (.inl ⟨hne, rfl⟩)
    exact ⟨1, g, g0, e⟩
  · have hp : 0 < (ns.length : Int) := by have := List.length_pos_iff.mpr hne; omega
    obtain ⟨x, ex, hx⟩ := atI_nat (xs := ns.map D.int) (r := k % (ns.length : Int)) (Int.emod_nonneg _ (by omega)) (by rw [List.length_map]; exact Int.emod_lt_of_pos _ hp)
    obtain ⟨c, _, rfl⟩ := List.mem_map.mp hx
    obtain ⟨g, g0, e⟩ := core c (.inr ⟨hne, ex⟩)
    exact ⟨c, g, g0, e⟩
end FL

/-! Part W: a text cut into words, in plain words. -/
namespace FL
open PySem L2
abbrev lo1 := PyProof.Rows.lo1
abbrev up1 := PyProof.Rows.up1
def WS : Tx := lit "abcdefghijklmnopqrstuvwxyz0123456789"
theorem ws_eq : lit "abcdefghijklmnopqrstuvwxyz0123456789" = WS := rfl
theorem lit_nil : lit "" = [] := rfl
def stepW (st : List Tx × Tx) (c : Nat) : List Tx × Tx :=
  if c ∈ WS then (if (st.2 ++ [c]).length = 20 then (st.1 ++ [st.2 ++ [c]], []) else (st.1, st.2 ++ [c]))
  else if st.2 = [] then (st.1, []) else (st.1 ++ [st.2], [])
def finW (st : List Tx × Tx) : List Tx := if st.2 = [] then st.1 else st.1 ++ [st.2]
/-- the words of a text in small letters -/
def wordsL (y : Tx) : List Tx := finW (y.foldl stepW ([], []))
def wordsT (x : Tx) : List Tx := wordsL (x.map lo1)

noncomputable def bSplitLoop : MS := (mSeq (mIfS (mTb (m2 (gIn false) (.v 3) (.e (mD (.str (lit "abcdefghijklmnopqrstuvwxyz0123456789")))))) (mSet 2 (m2 gAdd (.v 2) (.v 3)))
    mPass)
    (mIfS (mAnd (mTb (m2 (gEq true) (.v 2) (.e (mD (.str (lit "")))))) (mOr (mTb (m2 (gIn true) (.v 3) (.e (mD (.str (lit "abcdefghijklmnopqrstuvwxyz0123456789")))))) (mTb (m2 (gEq false) (.e (mC gLen [(.v 2)])) (.e (mD (.int 20))))))) (mSeq (mEx (mMut "list" gAppend (.v 1) [(mV 2)]))
    (mSet 2 (mD (.str (lit "")))))
    mPass))
noncomputable def bSplit : MS := (mSeq (mPar 1 2 (mLst []) (mD (.str (lit ""))))
    (mSeq (mFor (mIt (mM "str" gLower (.v 0) [])) (tgV 3) bSplitLoop)
    (mRet (mIf (mTb (m2 (gEq true) (.v 2) (.e (mD (.str (lit "")))))) (m2 gAdd (.v 1) (.e (mLst [(mV 2)]))) (mV 1)))))
noncomputable def mSplit : MF := mFn 4 bSplit
def stW (t : D) (st : List Tx × Tx) (s : Option Slot) : Loc := [some (.fr t), some (.own (.lst (st.1.map .str))), some (.fr (.str st.2)), s]
theorem split_step {t : D} {st : List Tx × Tx} {c : Nat} {s : Option Slot} {μ : Mem} (h1 : st.1.length < 16777216) (h2 : st.2.length < 16777216) :
    turnD (tgV 3) bSplitLoop (.str [c]) (stW t st s) μ = .nx (stW t (stepW st c) (some (.fr (.str [c])))) μ := by
  obtain ⟨f, r⟩ := st
  have h1' : f.length < 16777216 := h1
  have h2' : r.length + 1 ≤ 16777216 := h2
  have h2'' : r.length ≤ 16777216 := by omega
  by_cases hc : c ∈ WS
  · by_cases hl : r.length + 1 = 20
    · have hl' : (r.length : Int) + 1 = 20 := by omega
      simp [turnD, tgV, bSplitLoop, stW, stepW, mSeq, mIfS, mTb, m2, Opn.ev, mD, OR.at, OR.ats, look, Out.bind, Out.thn, OutS.seq, Slot.d, Own.d, lift, gIn, gInS, ws_eq, lit_nil, hc, hl, mSet, gAdd, gInt, gAddS, h2', mAnd, mOr, gEq, eqS, mC, evs, gLen, gLen1, mEx, mMut, recv, ownTy, evA, mV, gAppend, h1', mPass, hl']
    · have hl' : ¬ (r.length : Int) + 1 = 20 := by omega
      simp [turnD, tgV, bSplitLoop, stW, stepW, mSeq, mIfS, mTb, m2, Opn.ev, mD, OR.at, OR.ats, look, Out.bind, Out.thn, OutS.seq, Slot.d, Own.d, lift, gIn, gInS, ws_eq, lit_nil, hc, hl, mSet, gAdd, gInt, gAddS, h2', mAnd, mOr, gEq, eqS, mC, evs, gLen, gLen1, mEx, mMut, recv, ownTy, evA, mV, gAppend, h1', mPass, hl']
  · by_cases hr : r = []
    · simp [turnD, tgV, bSplitLoop, stW, stepW, mSeq, mIfS, mTb, m2, Opn.ev, mD, OR.at, OR.ats, look, Out.bind, Out.thn, OutS.seq, Slot.d, Own.d, lift, gIn, gInS, ws_eq, lit_nil, hc, hr, mSet, gAdd, gInt, gAddS, h2', mAnd, mOr, gEq, eqS, mC, evs, gLen, gLen1, mEx, mMut, recv, ownTy, evA, mV, gAppend, h1', mPass]
    · simp [turnD, tgV, bSplitLoop, stW, stepW, mSeq, mIfS, mTb, m2, Opn.ev, mD, OR.at, OR.ats, look, Out.bind, Out.thn, OutS.seq, Slot.d, Own.d, lift, gIn, gInS, ws_eq, lit_nil, hc, hr, mSet, gAdd, gInt, gAddS, h2', mAnd, mOr, gEq, eqS, mC, evs, gLen, gLen1, mEx, mMut, recv, ownTy, evA, mV, gAppend, h1', mPass]
theorem stepW_len (st : List Tx × Tx) (c : Nat) : (stepW st c).1.length ≤ st.1.length + 1 ∧ (stepW st c).2.length ≤ st.2.length + 1 := by
  unfold stepW
  split
  · split <;> simp
  · split <;> simp
theorem split_loop {t : D} {μ : Mem} : ∀ (y : Tx) (st : List Tx × Tx) (s : Option Slot), st.1.length + y.length < 16777216 → st.2.length + y.length < 16777216 →
    ∃ s', forD (turnD (tgV 3) bSplitLoop) (chars y) (stW t st s) μ = .nx (stW t (y.foldl stepW st) s') μ
  | [], st, s, _, _ => ⟨s, rfl⟩
  | c :: y, st, s, h1, h2 => by
    have hl := stepW_len st c
    rw [List.length_cons] at h1 h2
    obtain ⟨s', e⟩ := split_loop y (stepW st c) (some (.fr (.str [c]))) (by omega) (by omega)
    refine ⟨s', ?_⟩
    show (turnD (tgV 3) bSplitLoop (.str [c]) (stW t st s) μ).loop (forD (turnD (tgV 3) bSplitLoop) (chars y)) = _
    rw [split_step (by omega) (by omega)]
    exact e
theorem foldW_len (y : Tx) : ∀ st : List Tx × Tx, (y.foldl stepW st).1.length ≤ st.1.length + y.length := by
  induction y with
  | nil => intro st; simp
  | cons c y ih =>
    intro st
    have h1 := ih (stepW st c)
    have h2 := (stepW_len st c).1
    rw [List.foldl_cons, List.length_cons]
    omega
/-- split_words, where it is called -/
theorem split_spec {x : Tx} {μ : Mem} (ha : x.all (· < 128) = true) (hl : x.length ≤ 1000) : ∃ s, mSplit [.str x] μ = .ok s μ ∧ s.d = .lst ((wordsT x).map .str) := by
  have hl2 : x.length ≤ 5592405 := by omega
  obtain ⟨s', e⟩ := split_loop (t := .str x) (μ := μ) (x.map lo1) ([], []) none (by simp; omega) (by simp; omega)
  have hlen := foldW_len (x.map lo1) ([], [])
  generalize hw : (x.map lo1).foldl stepW ([], []) = w at e hlen
  obtain ⟨f, r⟩ := w
  have hf : f.length + 1 ≤ 16777216 := by simp at hlen; omega
  have e0 : (stW (.str x) ([], []) none) = [some (.fr (.str x)), some (.own (.lst [])), some (.fr (.str [])), none] := rfl
  rw [e0] at e
  have hW : wordsT x = finW (f, r) := by unfold wordsT wordsL; rw [hw]
  have he : (List.map lo1 x) = List.map PyProof.Rows.lo1 x := rfl
  rw [he] at e
  rw [hW]
  by_cases hr : r = []
  · subst hr
    refine ⟨.fr (.lst (f.map .str)), ?_, by simp [finW, Slot.d]⟩
    simp [mSplit, bSplit, mFn, mSeq, mPar, mLst, evA, mD, lit_nil, mFor, mIt, mM, Opn.ev, OR.at, OR.ats, look, startD, Out.bind, Out.thn, OutS.seq, OutS.fin, Slot.d, Own.d, lift, isTy, evs, gLower, ha, hl2, itA, e, stW, mRet, mIf, mTb, m2, gEq, eqS, mV]
  · refine ⟨.own (.lst (f.map .str ++ [.str r])), ?_, by simp [finW, hr, Slot.d, Own.d]⟩
    simp [mSplit, bSplit, mFn, mSeq, mPar, mLst, evA, mD, lit_nil, mFor, mIt, mM, Opn.ev, OR.at, OR.ats, look, startD, Out.bind, Out.thn, OutS.seq, OutS.fin, Slot.d, Own.d, lift, isTy, evs, gLower, ha, hl2, itA, e, stW, mRet, mIf, mTb, m2, gEq, eqS, mV, hr, gAdd, gInt, gAddS, gAddL, hf]
end FL

/-! Part V: laws of words. -/
namespace FL
open PySem L2
theorem lcD_cons {f : TgF} {t : MT} {m : ME} {vs : List Nat} {d : D} {ds acc : List D} {δ : FL.Loc} {μ : Mem} : lcD f t m vs (d :: ds) acc δ μ = (match f d δ with
    | none => .bad
    | some δ' => (t δ' μ).cut.bind fun b δ2 μ2 => if b = true then (m δ2 μ2).cut.bind fun s δ3 μ3 => if acc.length < 16777216 then lcD f t m vs ds (acc ++ [s.d]) (wipeD δ3 vs) μ3 else .bad
      else lcD f t m vs ds acc (wipeD δ2 vs) μ2) := rfl
theorem forD_cons {g : D → MS} {d : D} {ds : List D} {δ : FL.Loc} {μ : Mem} : forD g (d :: ds) δ μ = (g d δ μ).loop (forD g ds) := rfl
/-- a loop that comes to its end each time -/
theorem forD_ix {g : D → MS} (I : Nat → FL.Loc → Mem → Prop) (N : Nat) : ∀ (ds : List D) (n : Nat), n + ds.length ≤ N → (∀ d ∈ ds, ∀ i δ μ, i < N → I i δ μ → ∃ δ' μ', g d δ μ = .nx δ' μ' ∧ I (i + 1) δ' μ') → ∀ δ μ, I n δ μ → ∃ δ' μ', forD g ds δ μ = .nx δ' μ' ∧ I (n + ds.length) δ' μ'
  | [], n, _, _, δ, μ, h => ⟨δ, μ, rfl, h⟩
  | d :: ds, n, hN, hs, δ, μ, h => by
    rw [List.length_cons] at hN
    obtain ⟨δ1, μ1, e, h1⟩ := hs d (List.mem_cons_self ..) n δ μ (by omega) h
    obtain ⟨δ2, μ2, e2, h2⟩ := forD_ix I N ds (n + 1) (by omega) (fun d hd => hs d (List.mem_cons_of_mem _ hd)) δ1 μ1 h1
    refine ⟨δ2, μ2, ?_, by rw [List.length_cons, show n + (ds.length + 1) = n + 1 + ds.length by omega]; exact h2⟩
    rw [forD_cons, e]
    exact e2
theorem seq_nx {m n : MS} {δ δ1 : FL.Loc} {μ μ1 : Mem} (h : m δ μ = .nx δ1 μ1) : mSeq m n δ μ = n δ1 μ1 := by unfold mSeq; rw [h]; rfl
theorem seq_rt {m n : MS} {δ : FL.Loc} {μ μ1 : Mem} {s : FL.Slot} (h : m δ μ = .rt s μ1) : mSeq m n δ μ = .rt s μ1 := by unfold mSeq; rw [h]; rfl
theorem fn_rt {n : Nat} {b : MS} {ds : List D} {μ μ1 : Mem} {s : FL.Slot} (h : b (startD n ds) μ = .rt s μ1) : mFn n b ds μ = .ok s μ1 := by unfold mFn; rw [h]; rfl
theorem for_of {mi : MM (List D)} {f : TgF} {m : MS} {δ δ1 : FL.Loc} {μ μ1 : Mem} {ds : List D} {r : OutS} (h : mi δ μ = .ok ds δ1 μ1) (h2 : forD (turnD f m) ds δ1 μ1 = r) : mFor mi f m δ μ = r := by unfold mFor; rw [h]; exact h2
theorem set_of {i : Nat} {m : ME} {δ δ1 : FL.Loc} {μ μ1 : Mem} {s : FL.Slot} (h : m δ μ = .ok s δ1 μ1) : mSet i m δ μ = .nx (δ1.set i (some s)) μ1 := by unfold mSet; rw [h]; rfl
theorem ret_of {m : ME} {δ δ1 : FL.Loc} {μ μ1 : Mem} {s : FL.Slot} (h : m δ μ = .ok s δ1 μ1) : mRet m δ μ = .rt s μ1 := by unfold mRet; rw [h]; rfl
theorem if_t {t : MT} {m n : MS} {δ δ1 : FL.Loc} {μ μ1 : Mem} (h : t δ μ = .ok true δ1 μ1) : mIfS t m n δ μ = m δ1 μ1 := by unfold mIfS; rw [h]; rfl
theorem if_f {t : MT} {m n : MS} {δ δ1 : FL.Loc} {μ μ1 : Mem} (h : t δ μ = .ok false δ1 μ1) : mIfS t m n δ μ = n δ1 μ1 := by unfold mIfS; rw [h]; rfl
theorem if_fp {t : MT} {m : MS} {δ δ1 : FL.Loc} {μ μ1 : Mem} (h : t δ μ = .ok false δ1 μ1) : mIfS t m mPass δ μ = .nx δ1 μ1 := if_f h
theorem slot_lst {s : FL.Slot} {xs : List D} (h : s.d = .lst xs) : s = .fr (.lst xs) ∨ s = .own (.lst xs) := by
  cases s with
  | fr d => exact .inl (by rw [← h]; rfl)
  | own o =>
    cases o with
    | lst ys =>
      have h' : D.lst ys = .lst xs := h
      cases h'
      exact .inr rfl
    | dct ks ys =>
      have h' : D.dct ks ys = .lst xs := h
      cases h'
theorem dfr {d : D} : (FL.Slot.fr d).d = d := rfl
theorem down {xs : List D} : (FL.Slot.own (.lst xs)).d = .lst xs := rfl
theorem owd {xs : List D} : (Own.lst xs).d = .lst xs := rfl
theorem or_ff {m n : MT} {δ δ1 δ2 : FL.Loc} {μ μ1 μ2 : Mem} (h1 : m δ μ = .ok false δ1 μ1) (h2 : n δ1 μ1 = .ok false δ2 μ2) : mOr m n δ μ = .ok false δ2 μ2 := by unfold mOr; rw [h1, Out.bind_ok, if_neg Bool.false_ne_true, h2]
theorem and_f {m n : MT} {δ δ1 : FL.Loc} {μ μ1 : Mem} (h1 : m δ μ = .ok false δ1 μ1) : mAnd m n δ μ = .ok false δ1 μ1 := by unfold mAnd; rw [h1, Out.bind_ok, if_neg Bool.false_ne_true]
theorem and_t {m n : MT} {δ δ1 : FL.Loc} {μ μ1 : Mem} {r : Out Bool} (h1 : m δ μ = .ok true δ1 μ1) (h2 : n δ1 μ1 = r) : mAnd m n δ μ = r := by unfold mAnd; rw [h1, Out.bind_ok, if_pos rfl, h2]
theorem sum_ones (cs : Tx) : ((cs.map fun c => [c]).map List.length).sum = cs.length := by
  induction cs with
  | nil => rfl
  | cons c cs ih => simp only [List.map_cons, List.sum_cons, List.length_cons, ih, List.length_nil]; omega
theorem flat_ones (cs : Tx) : (cs.map fun c => [c]).flatten = cs := by
  induction cs with
  | nil => rfl
  | cons c cs ih => rw [List.map_cons, List.flatten_cons, ih]; rfl
theorem kitB_ss : kitB "str" "str" = some true := by kernel_rfl
theorem stepW_pre (f f' : List Tx) (r : Tx) (c : Nat) : stepW (f ++ f', r) c = (f ++ (stepW (f', r) c).1, (stepW (f', r) c).2) := by
  unfold stepW
  dsimp only
  split
  · split <;> simp
  · split <;> simp
theorem foldW_pre (y : Tx) : ∀ (f f' : List Tx) (r : Tx), y.foldl stepW (f ++ f', r) = (f ++ (y.foldl stepW (f', r)).1, (y.foldl stepW (f', r)).2) := by
  induction y with
  | nil => intro f f' r; rfl
  | cons c y ih =>
    intro f f' r
    rw [List.foldl_cons, List.foldl_cons, stepW_pre]
    exact ih f _ _
theorem finW_pre (f : List Tx) (st : List Tx × Tx) : finW (f ++ st.1, st.2) = f ++ finW st := by
  unfold finW
  dsimp only
  split <;> simp
theorem foldW_gap {g : Tx} (hg : ∀ c ∈ g, c ∉ WS) (h0 : g ≠ []) : ∀ st : List Tx × Tx, g.foldl stepW st = (finW st, []) := by
  have key : ∀ (g : Tx), (∀ c ∈ g, c ∉ WS) → ∀ f : List Tx, g.foldl stepW (f, []) = (f, []) := by
    intro g
    induction g with
    | nil => intro _ f; rfl
    | cons c g ih =>
      intro h f
      have hc : c ∉ WS := h c (List.mem_cons_self ..)
      rw [List.foldl_cons]
      have e : stepW (f, []) c = (f, []) := by unfold stepW; simp [hc]
      rw [e]
      exact ih (fun d hd => h d (List.mem_cons_of_mem _ hd)) f
  cases g with
  | nil => exact absurd rfl h0
  | cons c g =>
    intro st
    have hc : c ∉ WS := hg c (List.mem_cons_self ..)
    rw [List.foldl_cons]
    have e : stepW st c = (finW st, []) := by
      unfold stepW finW
      rw [if_neg hc]
      split <;> rfl
    rw [e]
    exact key g (fun d hd => hg d (List.mem_cons_of_mem _ hd)) _
theorem wordsL_gap {x g y : Tx} (hg : ∀ c ∈ g, c ∉ WS) (h0 : g ≠ []) : wordsL (x ++ g ++ y) = wordsL x ++ wordsL y := by
  unfold wordsL
  rw [List.foldl_append, List.foldl_append, foldW_gap hg h0]
  generalize finW (x.foldl stepW ([], [])) = f
  have := foldW_pre y f [] []
  rw [List.append_nil] at this
  rw [this, finW_pre]
theorem wordsL_nil : wordsL [] = [] := rfl
theorem wordsL_gap0 {g y : Tx} (hg : ∀ c ∈ g, c ∉ WS) (h0 : g ≠ []) : wordsL (g ++ y) = wordsL y := by
  have := wordsL_gap (x := []) (y := y) hg h0
  simpa [wordsL_nil] using this
theorem wordsL_gap1 {x g : Tx} (hg : ∀ c ∈ g, c ∉ WS) (h0 : g ≠ []) : wordsL (x ++ g) = wordsL x := by
  have := wordsL_gap (x := x) (y := []) hg h0
  simpa [wordsL_nil] using this
/-- a run without a gap -/
theorem foldW_run {x : Tx} (hx : ∀ c ∈ x, c ∈ WS) : ∀ (f : List Tx) (r : Tx), r.length < 20 → (∀ p ∈ f, p.length = 20) →
    ∃ f' r', x.foldl stepW (f, r) = (f', r') ∧ f'.flatten ++ r' = f.flatten ++ r ++ x ∧ (∀ p ∈ f', p.length = 20) ∧ r'.length < 20 := by
  induction x with
  | nil => intro f r hr hf; exact ⟨f, r, rfl, by simp, hf, hr⟩
  | cons c x ih =>
    intro f r hr hf
    have hc : c ∈ WS := hx c (List.mem_cons_self ..)
    have ih := ih fun d hd => hx d (List.mem_cons_of_mem _ hd)
    rw [List.foldl_cons]
    unfold stepW
    rw [if_pos hc]
    by_cases hl : (r ++ [c]).length = 20
    · rw [if_pos hl]
      obtain ⟨f', r', e, h1, h2, h3⟩ := ih (f ++ [r ++ [c]]) [] (by simp) (fun p hp => by
        rcases List.mem_append.mp hp with hp | hp
        · exact hf p hp
        · rw [List.mem_singleton.mp hp]; exact hl)
      exact ⟨f', r', e, by rw [h1]; simp, h2, h3⟩
    · rw [if_neg hl]
      have hl' : (r ++ [c]).length < 20 := by simp at hl ⊢; omega
      obtain ⟨f', r', e, h1, h2, h3⟩ := ih f (r ++ [c]) hl' hf
      exact ⟨f', r', e, by rw [h1]; simp, h2, h3⟩
theorem flat_len {f : List Tx} (h : ∀ p ∈ f, p.length = 20) : f.flatten.length = 20 * f.length := by
  induction f with
  | nil => rfl
  | cons p f ih =>
    rw [List.flatten_cons, List.length_append, List.length_cons, h p (List.mem_cons_self ..), ih fun q hq => h q (List.mem_cons_of_mem _ hq)]
    omega
/-- what the pieces of a run are -/
theorem wordsL_run {x : Tx} (hx : ∀ c ∈ x, c ∈ WS) (h0 : x ≠ []) : ∃ f l, wordsL x = f ++ [l] ∧ (f ++ [l]).flatten = x ∧ (∀ p ∈ f, p.length = 20) ∧ 1 ≤ l.length ∧ l.length ≤ 20 ∧ (f.length + 1) = (x.length + 19) / 20 := by
  obtain ⟨f, r, e, h1, h2, h3⟩ := foldW_run hx [] [] (by simp) (by simp)
  have hlen := congrArg List.length h1
  simp only [List.flatten_nil, List.nil_append, List.length_append, flat_len h2] at hlen
  have hx0 := List.length_pos_iff.mpr h0
  unfold wordsL
  rw [e]
  unfold finW
  by_cases hr : r = []
  · subst hr
    rw [if_pos rfl]
    simp only [List.length_nil, Nat.add_zero] at hlen
    have hf : f ≠ [] := by rintro rfl; simp at hlen; omega
    have ef := (List.dropLast_concat_getLast hf).symm
    refine ⟨f.dropLast, f.getLast hf, ef, by rw [← ef]; simpa using h1, fun p hp => h2 p ((List.dropLast_sublist f).subset hp), by rw [h2 _ (List.getLast_mem hf)]; decide, by rw [h2 _ (List.getLast_mem hf)]; decide, ?_⟩
    have := List.length_pos_iff.mpr hf
    rw [List.length_dropLast]
    omega
  · rw [if_neg hr]
    have hr0 := List.length_pos_iff.mpr hr
    exact ⟨f, r, rfl, by rw [List.flatten_append]; simpa using h1, h2, hr0, by omega, by omega⟩
theorem wordsL_word {w : Tx} (hw : ∀ c ∈ w, c ∈ WS) (h0 : w ≠ []) (hl : w.length ≤ 20) : wordsL w = [w] := by
  obtain ⟨f, l, e, h1, h2, h3, h4, h5⟩ := wordsL_run hw h0
  have hw0 := List.length_pos_iff.mpr h0
  have hf : f = [] := List.length_eq_zero_iff.mp (by omega)
  subst hf
  rw [e]
  simp at h1
  rw [h1]; rfl
theorem wordsL_row {g : Tx} (hg : ∀ c ∈ g, c ∉ WS) (h0 : g ≠ []) : ∀ ws : List Tx, (∀ w ∈ ws, (∀ c ∈ w, c ∈ WS) ∧ w ≠ [] ∧ w.length ≤ 20) → wordsL (joinT g ws) = ws
  | [], _ => rfl
  | [w], h => by
    obtain ⟨h1, h2, h3⟩ := h w (List.mem_cons_self ..)
    exact wordsL_word h1 h2 h3
  | w :: v :: r, h => by
    obtain ⟨h1, h2, h3⟩ := h w (List.mem_cons_self ..)
    show wordsL (w ++ g ++ joinT g (v :: r)) = _
    rw [wordsL_gap hg h0, wordsL_word h1 h2 h3, wordsL_row hg h0 (v :: r) fun u hu => h u (List.mem_cons_of_mem _ hu)]
    rfl
theorem joinT_nil : ∀ ws : List Tx, joinT [] ws = ws.flatten
  | [] => rfl
  | [w] => by simp [joinT]
  | w :: v :: r => by
    show w ++ [] ++ joinT [] (v :: r) = _
    rw [joinT_nil (v :: r)]; simp
theorem joinT_len (g : Tx) : ∀ ws : List Tx, (joinT g ws).length ≤ (ws.map List.length).sum + g.length * ws.length
  | [] => by simp [joinT]
  | [w] => by simp [joinT]
  | w :: v :: r => by
    have ih := joinT_len g (v :: r)
    show (w ++ g ++ joinT g (v :: r)).length ≤ _
    simp only [List.length_append, List.map_cons, List.sum_cons, List.length_cons] at ih ⊢
    have : g.length * (r.length + 1 + 1) = g.length * (r.length + 1) + g.length := by rw [Nat.mul_add, Nat.mul_one]
    omega
theorem lo_lo (c : Nat) : lo1 (lo1 c) = lo1 c := by
  unfold lo1 PyProof.Rows.lo1
  split
  · rw [if_neg (by omega)]
  · rfl
theorem lo_up (c : Nat) : lo1 (up1 c) = lo1 c := by
  unfold lo1 up1 PyProof.Rows.lo1 PyProof.Rows.up1
  split
  · split <;> split <;> omega
  · rfl
theorem lo_ascii {c : Nat} (h : c < 128) : lo1 c < 128 := by
  unfold lo1 PyProof.Rows.lo1
  split <;> omega
theorem up_ascii {c : Nat} (h : c < 128) : up1 c < 128 := by
  unfold up1 PyProof.Rows.up1
  split <;> omega
theorem map_lo_lo (x : Tx) : (x.map lo1).map lo1 = x.map lo1 := by rw [List.map_map]; exact List.map_congr_left fun c _ => lo_lo c
theorem map_lo_up (x : Tx) : (x.map up1).map lo1 = x.map lo1 := by rw [List.map_map]; exact List.map_congr_left fun c _ => lo_up c
theorem words_lo (x : Tx) : wordsT (x.map lo1) = wordsT x := by unfold wordsT; rw [map_lo_lo]
theorem words_up (x : Tx) : wordsT (x.map up1) = wordsT x := by unfold wordsT; rw [map_lo_up]
theorem ws_ascii : ∀ c ∈ WS, c < 128 := by decide +kernel
/-! ### lists of texts compared -/
theorem pys_strs (xs : List Tx) : D.pys (xs.map D.str) = some (xs.map fun x => PyData.str (toS x)) := by
  induction xs with
  | nil => rfl
  | cons n ns ih => simp [D.pys, D.py, ih]
theorem strOk_ascii {x : Tx} (h : ∀ c ∈ x, c < 128) : PyData.canLay0 (.str (toS x)) = true := by
  simp only [PyData.canLay0, PyData.strOk, toS]
  simp only [List.all_toArray, List.all_eq_true, decide_eq_true_eq]
  intro c hc
  have := h c hc
  omega
theorem shaped_strs {xs : List Tx} (h : ∀ x ∈ xs, ∀ c ∈ x, c < 128) : SeqAt.shaped (.list (xs.map fun x => PyData.str (toS x))) = true := by
  have h1 : PyData.canLayAll0 (xs.map fun x => PyData.str (toS x)) = true := by
    induction xs with
    | nil => simp [PyData.canLayAll0]
    | cons x xs ih =>
      rw [List.map_cons]
      simp only [PyData.canLayAll0, strOk_ascii (h x (List.mem_cons_self ..)), ih fun y hy => h y (List.mem_cons_of_mem _ hy), Bool.and_self]
  have h2 : PyData.depthAll (xs.map fun x => PyData.str (toS x)) = 0 := by
    clear h h1
    induction xs with
    | nil => simp [PyData.depthAll]
    | cons x xs ih => rw [List.map_cons]; simp [PyData.depthAll, PyData.depth, ih]
  simp [SeqAt.shaped, PyData.canLay0, PyData.depth, h1, h2]
theorem eqv_strs : ∀ xs ys : List Tx, PyData.eqvAll (xs.map fun x => PyData.str (toS x)) (ys.map fun x => PyData.str (toS x)) = decide (xs = ys)
  | [], [] => by simp [PyData.eqvAll]
  | [], _ :: _ => by simp [PyData.eqvAll]
  | _ :: _, [] => by simp [PyData.eqvAll]
  | x :: xs, y :: ys => by
    rw [List.map_cons, List.map_cons]
    simp only [PyData.eqvAll, PyData.eqv, eqv_strs xs ys]
    by_cases e : x = y
    · subst e; simp
    · have n : ¬ toS x = toS y := fun z => e (toS_inj z)
      simp [e, n]
theorem eq_strs (neg : Bool) {xs ys : List Tx} (hx : ∀ x ∈ xs, ∀ c ∈ x, c < 128) (hy : ∀ x ∈ ys, ∀ c ∈ x, c < 128) :
    gEq neg (.lst (xs.map .str)) (.lst (ys.map .str)) = some (tb (decide (xs = ys) != neg)) := by
  simp [gEq, eqS, eqP, D.py, pys_strs, shaped_strs hx, shaped_strs hy, PyData.eqv, eqv_strs]
theorem wordsL_mem {y : Tx} : ∀ w ∈ wordsL y, ∀ c ∈ w, c ∈ WS := by
  have key : ∀ (y : Tx) (st : List Tx × Tx), (∀ w ∈ st.1, ∀ c ∈ w, c ∈ WS) → (∀ c ∈ st.2, c ∈ WS) → (∀ w ∈ (y.foldl stepW st).1, ∀ c ∈ w, c ∈ WS) ∧ ∀ c ∈ (y.foldl stepW st).2, c ∈ WS := by
    intro y
    induction y with
    | nil => intro st h1 h2; exact ⟨h1, h2⟩
    | cons c y ih =>
      intro st h1 h2
      rw [List.foldl_cons]
      have app : ∀ d ∈ st.2 ++ [c], c ∈ WS → d ∈ WS := fun d hd hc => by
        rcases List.mem_append.mp hd with hd | hd
        · exact h2 d hd
        · rw [List.mem_singleton.mp hd]; exact hc
      refine ih _ ?_ ?_
      · unfold stepW
        split
        · rename_i hc
          split
          · intro w hw
            rcases List.mem_append.mp hw with hw | hw
            · exact h1 w hw
            · rw [List.mem_singleton.mp hw]; exact fun d hd => app d hd hc
          · exact h1
        · split
          · exact h1
          · intro w hw
            rcases List.mem_append.mp hw with hw | hw
            · exact h1 w hw
            · rw [List.mem_singleton.mp hw]; exact h2
      · unfold stepW
        split
        · rename_i hc
          split
          · simp
          · exact fun d hd => app d hd hc
        · split <;> simp
  obtain ⟨h1, h2⟩ := key y ([], []) (by simp) (by simp)
  intro w hw
  unfold wordsL finW at hw
  split at hw
  · exact h1 w hw
  · rcases List.mem_append.mp hw with hw | hw
    · exact h1 w hw
    · rw [List.mem_singleton.mp hw]; exact h2
theorem words_ascii {x : Tx} : ∀ w ∈ wordsT x, ∀ c ∈ w, c < 128 := fun w hw c hc => ws_ascii c (wordsL_mem w hw c hc)
theorem joinT_mem {g : Tx} {c : Nat} : ∀ {ws : List Tx}, c ∈ joinT g ws → c ∈ g ∨ ∃ w ∈ ws, c ∈ w
  | [], h => by simp [joinT] at h
  | [w], h => .inr ⟨w, by simp, h⟩
  | w :: v :: r, h => by
    have h : c ∈ w ++ g ++ joinT g (v :: r) := h
    rcases List.mem_append.mp h with h | h
    · rcases List.mem_append.mp h with h | h
      · exact .inr ⟨w, by simp, h⟩
      · exact .inl h
    · rcases joinT_mem h with h | ⟨u, hu, h⟩
      · exact .inl h
      · exact .inr ⟨u, List.mem_cons_of_mem _ hu, h⟩
theorem ws_lo : ∀ c ∈ WS, lo1 c = c := by decide +kernel
theorem map_id_of {x : Tx} {f : Nat → Nat} (h : ∀ c ∈ x, f c = c) : x.map f = x := by
  induction x with
  | nil => rfl
  | cons c x ih => rw [List.map_cons, h c (List.mem_cons_self ..), ih fun d hd => h d (List.mem_cons_of_mem _ hd)]
theorem words_len (x : Tx) : (wordsT x).length ≤ x.length + 1 := by
  have h := foldW_len (x.map lo1) ([], [])
  unfold wordsT wordsL finW
  rw [List.length_map] at h
  simp only [List.length_nil, Nat.zero_add] at h
  split
  · omega
  · rw [List.length_append, List.length_singleton]; omega
theorem cut_last {α : Type} (f : List α) (l : α) : cutD (f ++ [l]) none (some (-1)) = f := by
  unfold cutD HT.sIx
  simp only [List.length_append, List.length_singleton]
  have : ((-1 : Int) + ((f.length + 1 : Nat) : Int)).toNat = f.length := by omega
  rw [if_pos (by decide), this]
  simp
theorem atI_last {α : Type} (f : List α) (l : α) : L2.atI (f ++ [l]) (-1) = some l := by
  unfold L2.atI ixN
  have h1 : ¬ (0 : Int) ≤ -1 := by decide
  have h2 : -(((f ++ [l]).length : Nat) : Int) ≤ -1 := by simp; omega
  rw [if_neg h1, if_pos h2]
  have : (-1 + (((f ++ [l]).length : Nat) : Int)).toNat = f.length := by simp; omega
  rw [this]
  simp
end FL

/-! Part Q: fractions, in plain words. R: what stands where an exception is raised. -/
namespace FL
open PySem L2
theorem kitB_ii : kitB "int" "int" = some true := by kernel_rfl
theorem kitB_ib : kitB "int" "bool" = some false := by kernel_rfl
theorem kitB_tt : kitB "tuple" "tuple" = some true := by kernel_rfl
noncomputable def bIsInt : MS := (mSeq (mIfS (mOr (mNot (mTb (mC gIsi [(.v 0), (.e (mD (.ty "int")))]))) (mTb (mC gIsi [(.v 0), (.e (mD (.ty "bool")))]))) (mRet (mD (.bl false)))
    mPass)
    (mRet (mAndV (mOrV (m2 (gIsN false) (.v 1) (.e (mD .non))) (m2 gLe (.v 1) (.v 0))) (mOrV (m2 (gIsN false) (.v 2) (.e (mD .non))) (m2 gLe (.v 0) (.v 2))))))
noncomputable def mIsInt : MF := mFn 3 bIsInt
noncomputable def bGcd : MS := (mSeq (mWhile (mTb (m2 gGt (.v 1) (.e (mD (.int 0))))) (mPar 0 1 (mV 1) (m2 gMod (.v 0) (.v 1))))
    (mRet (mV 0)))
noncomputable def mGcd : MF := mFn 2 bGcd
noncomputable def bReduced : MS := (mSeq (mIfS (mTb (m2 gLt (.v 1) (.e (mD (.int 0))))) (mPar 0 1 (m2 gSub (.e (mD (.int 0))) (.v 0)) (m2 gSub (.e (mD (.int 0))) (.v 1)))
    mPass)
    (mSeq (mSet 2 (mCall mGcd [(mC gAbs [(.v 0)]), (mV 1)] []))
    (mRet (mTup [(m2 gDiv (.v 0) (.v 2)), (m2 gDiv (.v 1) (.v 2))]))))
noncomputable def mReduced : MF := mFn 3 bReduced
noncomputable def bIsFr : MS := (mSeq (mIfS (mOr (mNot (mTb (mC gIsi [(.v 0), (.e (mD (.ty "tuple")))]))) (mTb (m2 (gEq true) (.e (mC gLen [(.v 0)])) (.e (mD (.int 2)))))) (mRet (mD (.bl false)))
    mPass)
    (mSeq (mIfS (mOr (mNot (mTb (mCall mIsInt [(m2 gIxL (.v 0) (.e (mD (.int 0)))), (mD .non), (mD .non)] []))) (mNot (mTb (mCall mIsInt [(m2 gIxL (.v 0) (.e (mD (.int 1)))), (mD (.int 1)), (mD .non)] [])))) (mRet (mD (.bl false)))
    mPass)
    (mRet (m2 (gEq false) (.e (mCall mGcd [(mC gAbs [(.e (m2 gIxL (.v 0) (.e (mD (.int 0)))))]), (m2 gIxL (.v 0) (.e (mD (.int 1))))] [])) (.e (mD (.int 1)))))))
noncomputable def mIsFr : MF := mFn 1 bIsFr
noncomputable def bNeed (R : MS) : MS := (mIfS (mNot (mTb (mCall mIsFr [(mV 0)] []))) R
    mPass)
noncomputable def mNeed (R : MS) : MF := mFn 1 (bNeed R)
noncomputable def bFraction (R R' : MS) : MS := (mSeq (mIfS (mOr (mNot (mTb (mCall mIsInt [(mV 0), (mD .non), (mD .non)] []))) (mNot (mTb (mCall mIsInt [(mV 1), (mD .non), (mD .non)] [])))) R
    mPass)
    (mSeq (mIfS (mTb (m2 (gEq false) (.v 1) (.e (mD (.int 0))))) R'
    mPass)
    (mRet (mCall mReduced [(mV 0), (mV 1)] []))))
noncomputable def mFraction (R R' : MS) : MF := mFn 2 (bFraction R R')
noncomputable def bAddF (R : MS) : MS := (mSeq (mEx (mCall (mNeed R) [(mV 0)] []))
    (mSeq (mEx (mCall (mNeed R) [(mV 1)] []))
    (mRet (mCall mReduced [(m2 gAdd (.e (m2 gMulA (.e (m2 gIxL (.v 0) (.e (mD (.int 0))))) (.e (m2 gIxL (.v 1) (.e (mD (.int 1))))))) (.e (m2 gMulA (.e (m2 gIxL (.v 1) (.e (mD (.int 0))))) (.e (m2 gIxL (.v 0) (.e (mD (.int 1)))))))), (m2 gMulA (.e (m2 gIxL (.v 0) (.e (mD (.int 1))))) (.e (m2 gIxL (.v 1) (.e (mD (.int 1))))))] []))))
noncomputable def mAddF (R : MS) : MF := mFn 2 (bAddF R)
noncomputable def bMulF (R : MS) : MS := (mSeq (mEx (mCall (mNeed R) [(mV 0)] []))
    (mSeq (mEx (mCall (mNeed R) [(mV 1)] []))
    (mRet (mCall mReduced [(m2 gMulA (.e (m2 gIxL (.v 0) (.e (mD (.int 0))))) (.e (m2 gIxL (.v 1) (.e (mD (.int 0)))))), (m2 gMulA (.e (m2 gIxL (.v 0) (.e (mD (.int 1))))) (.e (m2 gIxL (.v 1) (.e (mD (.int 1))))))] []))))
noncomputable def mMulF (R : MS) : MF := mFn 2 (bMulF R)
noncomputable def bDivF (R R' : MS) : MS := (mSeq (mEx (mCall (mNeed R) [(mV 0)] []))
    (mSeq (mEx (mCall (mNeed R) [(mV 1)] []))
    (mSeq (mIfS (mTb (m2 (gEq false) (.e (m2 gIxL (.v 1) (.e (mD (.int 0))))) (.e (mD (.int 0))))) R'
    mPass)
    (mRet (mCall mReduced [(m2 gMulA (.e (m2 gIxL (.v 0) (.e (mD (.int 0))))) (.e (m2 gIxL (.v 1) (.e (mD (.int 1)))))), (m2 gMulA (.e (m2 gIxL (.v 0) (.e (mD (.int 1))))) (.e (m2 gIxL (.v 1) (.e (mD (.int 0))))))] [])))))
noncomputable def mDivF (R R' : MS) : MF := mFn 2 (bDivF R R')
noncomputable def bLessF (R : MS) : MS := (mSeq (mEx (mCall (mNeed R) [(mV 0)] []))
    (mSeq (mEx (mCall (mNeed R) [(mV 1)] []))
    (mRet (m2 gLt (.e (m2 gMulA (.e (m2 gIxL (.v 0) (.e (mD (.int 0))))) (.e (m2 gIxL (.v 1) (.e (mD (.int 1))))))) (.e (m2 gMulA (.e (m2 gIxL (.v 1) (.e (mD (.int 0))))) (.e (m2 gIxL (.v 0) (.e (mD (.int 1)))))))))))
noncomputable def mLessF (R : MS) : MF := mFn 2 (bLessF R)

def frD (q : Rat) : D := .tup [.int q.num, .int (q.den : Int)]
def Sz (k : Nat) (q : Rat) : Prop := q.num.natAbs < 2 ^ k ∧ q.den < 2 ^ k
theorem log_lt {n : Int} {k : Nat} (hk : 0 < k) (h : n.natAbs < 2 ^ k) : n.natAbs.log2 < k := by
  by_cases hz : n.natAbs = 0
  · rw [hz]; simpa using hk
  · exact (Nat.log2_lt hz).mpr h
theorem gcd_loop (μ : Mem) : ∀ (b a : Nat), mWhile (mTb (m2 gGt (.v 1) (.e (mD (.int 0))))) (mPar 0 1 (mV 1) (m2 gMod (.v 0) (.v 1))) [some (.fr (.int a)), some (.fr (.int b))] μ = .nx [some (.fr (.int (Nat.gcd b a : Nat))), some (.fr (.int 0))] μ := by
  intro b
  induction b using Nat.strongRecOn with
  | _ b ih =>
    intro a
    rw [mWhile_eq]
    by_cases hb : b = 0
    · subst hb
      simp [mTb, m2, Opn.ev, mD, OR.at, look, Out.bind, Out.thn, dfr, gGt, gGtI, gInt, lift]
    · have h0 : 0 < b := by omega
      have e1 := ih (a % b) (Nat.mod_lt _ h0) b
      have e2 : ((a : Int) % (b : Int)) = ((a % b : Nat) : Int) := by omega
      rw [Nat.gcd_rec b a]
      simp [mTb, m2, Opn.ev, mD, OR.at, look, Out.bind, Out.thn, dfr, gGt, gGtI, gInt, lift, h0, mPar, mV, gMod, OutS.loop]
      rw [e2]
      exact e1
theorem gcd_spec {a b : Nat} {μ : Mem} : mGcd [.int a, .int b] μ = .ok (.fr (.int (Nat.gcd b a : Nat))) μ := by
  refine fn_rt ?_
  unfold bGcd
  have := gcd_loop μ b a
  have e : startD 2 [D.int a, .int b] = [some (.fr (.int a)), some (.fr (.int b))] := rfl
  rw [e, seq_nx this]
  simp [mRet, mV, Out.thn, dfr]
theorem isInt_n {n : Int} {μ : Mem} : mIsInt [.int n, .non, .non] μ = .ok (.fr (.bl true)) μ := by
  simp [mIsInt, bIsInt, mFn, mSeq, mIfS, mOr, mNot, mTb, mC, evs, Opn.ev, mD, OR.at, OR.ats, look, startD, Out.bind, Out.thn, OutS.seq, OutS.fin, dfr, gIsi, tyN, kitB_ii, kitB_ib, lift, mPass, mRet, mAndV, mOrV, m2, gIsN]
theorem isInt_1 {n : Int} {μ : Mem} (h : 1 ≤ n) : mIsInt [.int n, .int 1, .non] μ = .ok (.fr (.bl true)) μ := by
  simp [mIsInt, bIsInt, mFn, mSeq, mIfS, mOr, mNot, mTb, mC, evs, Opn.ev, mD, OR.at, OR.ats, look, startD, Out.bind, Out.thn, OutS.seq, OutS.fin, dfr, gIsi, tyN, kitB_ii, kitB_ib, lift, mPass, mRet, mAndV, mOrV, m2, gIsN, gLe, gLeI, gInt, h]
theorem at20 {a b : D} : L2.atI [a, b] 0 = some a := rfl
theorem at21 {a b : D} : L2.atI [a, b] 1 = some b := rfl
theorem abs_nat (n : Int) : (if n < 0 then -n else n) = (n.natAbs : Int) := by split <;> omega
theorem isFr_spec {q : Rat} {μ : Mem} : mIsFr [frD q] μ = .ok (.fr (.bl true)) μ := by
  have hd : 1 ≤ (q.den : Int) := by have := q.den_pos; omega
  have hg : Nat.gcd q.den q.num.natAbs = 1 := by rw [Nat.gcd_comm]; exact q.reduced
  have e := gcd_spec (a := q.num.natAbs) (b := q.den) (μ := μ)
  rw [hg] at e
  simp [mIsFr, bIsFr, frD, mFn, mSeq, mIfS, mOr, mNot, mTb, mC, evs, Opn.ev, mD, OR.at, OR.ats, look, startD, Out.bind, Out.thn, OutS.seq, OutS.fin, dfr, gIsi, tyN, kitB_tt, lift, m2, gLen, gLen1, gEq, eqS, mPass, mCall, evA, gIxL, at20, at21, isInt_n, isInt_1 hd, mRet, gAbs, abs_nat, e]
theorem need_spec {R : MS} {q : Rat} {μ : Mem} : mNeed R [frD q] μ = .ok (.fr .non) μ := by
  simp [mNeed, bNeed, mFn, mIfS, mNot, mTb, mCall, evA, mV, startD, Out.bind, Out.thn, OutS.fin, dfr, isFr_spec, mPass]
theorem reduced_spec {n d : Int} {μ : Mem} (hd : d ≠ 0) (hl : d.natAbs < 2 ^ 9000) : mReduced [.int n, .int d] μ = .ok (.fr (frD (Rat.divInt n d))) μ := by
  have key : ∀ (n d : Int), 0 < d → d.natAbs < 2 ^ 9000 → (mSeq (mSet 2 (mCall mGcd [(mC gAbs [(.v 0)]), (mV 1)] []))
    (mRet (mTup [(m2 gDiv (.v 0) (.v 2)), (m2 gDiv (.v 1) (.v 2))]))) [some (.fr (.int n)), some (.fr (.int d)), none] μ = .rt (.fr (frD (Rat.divInt n d))) μ := by
    intro n d h0 hl
    have ed : d = (d.toNat : Int) := by omega
    have e := gcd_spec (a := n.natAbs) (b := d.toNat) (μ := μ)
    have hg0 : 0 < Nat.gcd d.toNat n.natAbs := Nat.gcd_pos_of_pos_left _ (by omega)
    have hgl : Nat.gcd d.toNat n.natAbs ≤ d.natAbs := by
      have := Nat.gcd_le_left n.natAbs (show 0 < d.toNat by omega)
      omega
    have hgi : (0 : Int) < (Nat.gcd d.toNat n.natAbs : Nat) := by omega
    have hlog : (Nat.gcd d.toNat n.natAbs).log2 < 9000 := (Nat.log2_lt (by omega)).mpr (by omega)
    have h1 : mSet 2 (mCall mGcd [(mC gAbs [(.v 0)]), (mV 1)] []) [some (.fr (.int n)), some (.fr (.int d)), none] μ = .nx [some (.fr (.int n)), some (.fr (.int d)), some (.fr (.int (Nat.gcd d.toNat n.natAbs : Nat)))] μ := by
      rw [← ed] at e
      simp [mSet, mCall, evA, mC, evs, Opn.ev, OR.at, OR.ats, look, mV, Out.bind, Out.thn, dfr, gAbs, abs_nat, lift, e]
    rw [seq_nx h1]
    have hnum : (Rat.divInt n d).num = n / ((Nat.gcd d.toNat n.natAbs : Nat) : Int) := by
      rw [Rat.num_divInt, Int.sign_eq_one_of_pos h0, Int.one_mul]
      congr 2
      unfold Int.gcd
      congr 1
      omega
    have hden : ((Rat.divInt n d).den : Int) = d / ((Nat.gcd d.toNat n.natAbs : Nat) : Int) := by
      rw [Rat.den_divInt, if_neg (by omega)]
      have e3 : d.gcd n = Nat.gcd d.toNat n.natAbs := by unfold Int.gcd; congr 1; omega
      rw [e3, Int.natCast_ediv]
      congr 1
      omega
    unfold frD
    rw [hnum, hden]
    generalize Nat.gcd d.toNat n.natAbs = g at hg0 hlog
    simp [mRet, mTup, evA, m2, Opn.ev, OR.at, look, Out.bind, Out.thn, dfr, gDiv, gInt, hg0, hlog, lift]
  refine fn_rt ?_
  unfold bReduced
  have e : startD 3 [D.int n, .int d] = [some (.fr (.int n)), some (.fr (.int d)), none] := rfl
  rw [e]
  by_cases hn : d < 0
  · have h1 : mIfS (mTb (m2 gLt (.v 1) (.e (mD (.int 0))))) (mPar 0 1 (m2 gSub (.e (mD (.int 0))) (.v 0)) (m2 gSub (.e (mD (.int 0))) (.v 1))) mPass [some (.fr (.int n)), some (.fr (.int d)), none] μ = .nx [some (.fr (.int (-n))), some (.fr (.int (-d))), none] μ := by
      simp [mIfS, mTb, m2, Opn.ev, mD, OR.at, look, Out.bind, Out.thn, dfr, gLt, gLtI, gInt, lift, hn, mPar, gSub]
    rw [seq_nx h1, key (-n) (-d) (by omega) (by omega), Rat.neg_divInt_neg]
  · have h1 : mIfS (mTb (m2 gLt (.v 1) (.e (mD (.int 0))))) (mPar 0 1 (m2 gSub (.e (mD (.int 0))) (.v 0)) (m2 gSub (.e (mD (.int 0))) (.v 1))) mPass [some (.fr (.int n)), some (.fr (.int d)), none] μ = .nx [some (.fr (.int n)), some (.fr (.int d)), none] μ := by
      simp [mIfS, mTb, m2, Opn.ev, mD, OR.at, look, Out.bind, Out.thn, dfr, gLt, gLtI, gInt, lift, hn, mPass]
    rw [seq_nx h1, key n d (by omega) hl]
theorem divInt_num {n d : Int} (hd : d ≠ 0) : (Rat.divInt n d).num.natAbs ≤ n.natAbs ∧ (Rat.divInt n d).den ≤ d.natAbs := by
  constructor
  · rw [Rat.num_divInt]
    have h1 : (d.sign * n / (d.gcd n : Int)).natAbs ≤ (d.sign * n).natAbs := by
      have := Int.natAbs_ediv_le_natAbs (d.sign * n) (d.gcd n : Int)
      exact this
    have h2 : (d.sign * n).natAbs ≤ n.natAbs := by
      rw [Int.natAbs_mul, Int.natAbs_sign]
      split <;> simp
    exact Nat.le_trans h1 h2
  · rw [Rat.den_divInt, if_neg hd]
    exact Nat.div_le_self _ _
theorem mul_lt_pow {a b j k : Nat} (ha : a < 2 ^ j) (hb : b < 2 ^ k) : a * b < 2 ^ (j + k) := by
  rw [Nat.pow_add]
  exact Nat.mul_lt_mul'' ha hb
theorem Sz.mono {j k : Nat} {q : Rat} (h : Sz j q) (hl : j ≤ k) : Sz k q :=
  ⟨Nat.lt_of_lt_of_le h.1 (Nat.pow_le_pow_right (by decide) hl), Nat.lt_of_lt_of_le h.2 (Nat.pow_le_pow_right (by decide) hl)⟩
theorem add_eq (p q : Rat) : Rat.divInt (p.num * q.den + q.num * p.den) (p.den * q.den) = p + q := by
  have h := Rat.divInt_add_divInt p.num q.num (d₁ := (p.den : Int)) (d₂ := (q.den : Int)) (by have := p.den_pos; omega) (by have := q.den_pos; omega)
  rw [Rat.num_divInt_den, Rat.num_divInt_den] at h
  exact h.symm
theorem mul_eq (p q : Rat) : Rat.divInt (p.num * q.num) (p.den * q.den) = p * q := by
  have h := Rat.divInt_mul_divInt p.num q.num (d₁ := (p.den : Int)) (d₂ := (q.den : Int))
  rw [Rat.num_divInt_den, Rat.num_divInt_den] at h
  exact h.symm
theorem div_eq {p q : Rat} : Rat.divInt (p.num * q.den) (p.den * q.num) = p / q := by
  have h := Rat.divInt_mul_divInt p.num (q.den : Int) (d₁ := (p.den : Int)) (d₂ := q.num)
  rw [Rat.num_divInt_den] at h
  rw [← h, Rat.div_def]
  congr 1
  rw [← Rat.inv_divInt, Rat.num_divInt_den]
theorem Sz.add {j k : Nat} {p q : Rat} (hp : Sz j p) (hq : Sz k q) : Sz (j + k + 1) (p + q) := by
  have h := divInt_num (n := p.num * q.den + q.num * p.den) (d := p.den * q.den) (by have := p.den_pos; have := q.den_pos; exact Int.mul_ne_zero (by omega) (by omega))
  rw [add_eq] at h
  have h1 : (p.num * (q.den : Int)).natAbs < 2 ^ (j + k) := by rw [Int.natAbs_mul]; exact mul_lt_pow hp.1 (by simpa using hq.2)
  have h2 : (q.num * (p.den : Int)).natAbs < 2 ^ (j + k) := by rw [Int.natAbs_mul, Nat.add_comm j k]; exact mul_lt_pow hq.1 (by simpa using hp.2)
  have h3 : ((p.den : Int) * (q.den : Int)).natAbs < 2 ^ (j + k) := by rw [Int.natAbs_mul]; exact mul_lt_pow (by simpa using hp.2) (by simpa using hq.2)
  have h4 : 2 ^ (j + k + 1) = 2 ^ (j + k) + 2 ^ (j + k) := by rw [Nat.pow_succ]; omega
  refine ⟨?_, by omega⟩
  have := Int.natAbs_add_le (p.num * (q.den : Int)) (q.num * (p.den : Int))
  omega
theorem Sz.mul {j k : Nat} {p q : Rat} (hp : Sz j p) (hq : Sz k q) : Sz (j + k) (p * q) := by
  have h := divInt_num (n := p.num * q.num) (d := p.den * q.den) (by have := p.den_pos; have := q.den_pos; exact Int.mul_ne_zero (by omega) (by omega))
  rw [mul_eq] at h
  have h1 : (p.num * q.num).natAbs < 2 ^ (j + k) := by rw [Int.natAbs_mul]; exact mul_lt_pow hp.1 hq.1
  have h3 : ((p.den : Int) * (q.den : Int)).natAbs < 2 ^ (j + k) := by rw [Int.natAbs_mul]; exact mul_lt_pow (by simpa using hp.2) (by simpa using hq.2)
  exact ⟨by omega, by omega⟩
theorem Sz.div {j k : Nat} {p q : Rat} (hp : Sz j p) (hq : Sz k q) (h0 : q.num ≠ 0) : Sz (j + k) (p / q) := by
  have h := divInt_num (n := p.num * q.den) (d := p.den * q.num) (by have := p.den_pos; exact Int.mul_ne_zero (by omega) h0)
  rw [div_eq] at h
  have h1 : (p.num * (q.den : Int)).natAbs < 2 ^ (j + k) := by rw [Int.natAbs_mul]; exact mul_lt_pow hp.1 (by simpa using hq.2)
  have h3 : ((p.den : Int) * q.num).natAbs < 2 ^ (j + k) := by rw [Int.natAbs_mul]; exact mul_lt_pow (by simpa using hp.2) hq.1
  exact ⟨by omega, by omega⟩
theorem log_pos {n : Int} {k : Nat} (h : n.natAbs < 2 ^ k) (hk : k ≤ 4000) : n.natAbs.log2 < 4001 := log_lt (by decide) (Nat.lt_of_lt_of_le h (Nat.pow_le_pow_right (by decide) (by omega)))
theorem log_den {q : Rat} {k : Nat} (h : Sz k q) (hk : k ≤ 4000) : q.den.log2 < 4001 := by
  have := log_pos (n := (q.den : Int)) (k := k) (by simpa using h.2) hk
  simpa using this
theorem add_spec {R : MS} {j k : Nat} {p q : Rat} {μ : Mem} (hp : Sz j p) (hq : Sz k q) (hj : j ≤ 4000) (hk : k ≤ 4000) : mAddF R [frD p, frD q] μ = .ok (.fr (frD (p + q))) μ := by
  have d0 : ((p.den : Int) * (q.den : Int)) ≠ 0 := by have := p.den_pos; have := q.den_pos; exact Int.mul_ne_zero (by omega) (by omega)
  have hs : ((p.den : Int) * (q.den : Int)).natAbs < 2 ^ 9000 := by
    rw [Int.natAbs_mul]
    exact Nat.lt_of_lt_of_le (mul_lt_pow (by simpa using hp.2) (by simpa using hq.2)) (Nat.pow_le_pow_right (by decide) (by omega))
  have e := reduced_spec (μ := μ) (n := p.num * q.den + q.num * p.den) d0 hs
  rw [add_eq] at e
  have l1 := log_pos hp.1 hj
  have l2 := log_den hp hj
  have l3 := log_pos hq.1 hk
  have l4 := log_den hq hk
  have m1 : p.num.natAbs.log2 + q.den.log2 < 1000000 := by omega
  have m2' : q.num.natAbs.log2 + p.den.log2 < 1000000 := by omega
  have m3 : p.den.log2 + q.den.log2 < 1000000 := by omega
  have e0 : startD 2 [frD p, frD q] = [some (.fr (frD p)), some (.fr (frD q))] := rfl
  refine fn_rt ?_
  unfold bAddF
  rw [e0]
  have n1 : mEx (mCall (mNeed R) [(mV 0)] []) [some (.fr (frD p)), some (.fr (frD q))] μ = .nx [some (.fr (frD p)), some (.fr (frD q))] μ := by
    simp [mEx, mCall, evA, mV, Out.bind, Out.thn, dfr, need_spec]
  have n2 : mEx (mCall (mNeed R) [(mV 1)] []) [some (.fr (frD p)), some (.fr (frD q))] μ = .nx [some (.fr (frD p)), some (.fr (frD q))] μ := by
    simp [mEx, mCall, evA, mV, Out.bind, Out.thn, dfr, need_spec]
  rw [seq_nx n1, seq_nx n2]
  simp [mRet, mCall, evA, m2, Opn.ev, mD, OR.at, look, Out.bind, Out.thn, dfr, frD, gIxL, at20, at21, gMulA, gMul, gAdd, gInt, lift, m1, m2', m3, e]
theorem mul_spec {R : MS} {j k : Nat} {p q : Rat} {μ : Mem} (hp : Sz j p) (hq : Sz k q) (hj : j ≤ 4000) (hk : k ≤ 4000) : mMulF R [frD p, frD q] μ = .ok (.fr (frD (p * q))) μ := by
  have d0 : ((p.den : Int) * (q.den : Int)) ≠ 0 := by have := p.den_pos; have := q.den_pos; exact Int.mul_ne_zero (by omega) (by omega)
  have hs : ((p.den : Int) * (q.den : Int)).natAbs < 2 ^ 9000 := by
    rw [Int.natAbs_mul]
    exact Nat.lt_of_lt_of_le (mul_lt_pow (by simpa using hp.2) (by simpa using hq.2)) (Nat.pow_le_pow_right (by decide) (by omega))
  have e := reduced_spec (μ := μ) (n := p.num * q.num) d0 hs
  rw [mul_eq] at e
  have l1 := log_pos hp.1 hj
  have l2 := log_den hp hj
  have l3 := log_pos hq.1 hk
  have l4 := log_den hq hk
  have m1 : p.num.natAbs.log2 + q.num.natAbs.log2 < 1000000 := by omega
  have m3 : p.den.log2 + q.den.log2 < 1000000 := by omega
  have e0 : startD 2 [frD p, frD q] = [some (.fr (frD p)), some (.fr (frD q))] := rfl
  refine fn_rt ?_
  unfold bMulF
  rw [e0]
  have n1 : mEx (mCall (mNeed R) [(mV 0)] []) [some (.fr (frD p)), some (.fr (frD q))] μ = .nx [some (.fr (frD p)), some (.fr (frD q))] μ := by
    simp [mEx, mCall, evA, mV, Out.bind, Out.thn, dfr, need_spec]
  have n2 : mEx (mCall (mNeed R) [(mV 1)] []) [some (.fr (frD p)), some (.fr (frD q))] μ = .nx [some (.fr (frD p)), some (.fr (frD q))] μ := by
    simp [mEx, mCall, evA, mV, Out.bind, Out.thn, dfr, need_spec]
  rw [seq_nx n1, seq_nx n2]
  simp [mRet, mCall, evA, m2, Opn.ev, mD, OR.at, look, Out.bind, Out.thn, dfr, frD, gIxL, at20, at21, gMulA, gMul, gInt, lift, m1, m3, e]
theorem div_spec {R R' : MS} {j k : Nat} {p q : Rat} {μ : Mem} (hp : Sz j p) (hq : Sz k q) (h0 : q.num ≠ 0) (hj : j ≤ 4000) (hk : k ≤ 4000) : mDivF R R' [frD p, frD q] μ = .ok (.fr (frD (p / q))) μ := by
  have d0 : ((p.den : Int) * q.num) ≠ 0 := by have := p.den_pos; exact Int.mul_ne_zero (by omega) h0
  have hs : ((p.den : Int) * q.num).natAbs < 2 ^ 9000 := by
    rw [Int.natAbs_mul]
    exact Nat.lt_of_lt_of_le (mul_lt_pow (by simpa using hp.2) hq.1) (Nat.pow_le_pow_right (by decide) (by omega))
  have e := reduced_spec (μ := μ) (n := p.num * q.den) d0 hs
  rw [div_eq] at e
  have l1 := log_pos hp.1 hj
  have l2 := log_den hp hj
  have l3 := log_pos hq.1 hk
  have l4 := log_den hq hk
  have m1 : p.num.natAbs.log2 + q.den.log2 < 1000000 := by omega
  have m3 : p.den.log2 + q.num.natAbs.log2 < 1000000 := by omega
  have e0 : startD 2 [frD p, frD q] = [some (.fr (frD p)), some (.fr (frD q))] := rfl
  refine fn_rt ?_
  unfold bDivF
  rw [e0]
  have n1 : mEx (mCall (mNeed R) [(mV 0)] []) [some (.fr (frD p)), some (.fr (frD q))] μ = .nx [some (.fr (frD p)), some (.fr (frD q))] μ := by
    simp [mEx, mCall, evA, mV, Out.bind, Out.thn, dfr, need_spec]
  have n2 : mEx (mCall (mNeed R) [(mV 1)] []) [some (.fr (frD p)), some (.fr (frD q))] μ = .nx [some (.fr (frD p)), some (.fr (frD q))] μ := by
    simp [mEx, mCall, evA, mV, Out.bind, Out.thn, dfr, need_spec]
  have n3 : mIfS (mTb (m2 (gEq false) (.e (m2 gIxL (.v 1) (.e (mD (.int 0))))) (.e (mD (.int 0))))) R' mPass [some (.fr (frD p)), some (.fr (frD q))] μ = .nx [some (.fr (frD p)), some (.fr (frD q))] μ := by
    refine if_fp ?_
    simp [mTb, m2, Opn.ev, mD, OR.at, look, Out.bind, dfr, frD, gIxL, at20, gEq, eqS, lift]
    exact fun z => h0 (by rw [z]; rfl)
  rw [seq_nx n1, seq_nx n2, seq_nx n3]
  simp [mRet, mCall, evA, m2, Opn.ev, mD, OR.at, look, Out.bind, Out.thn, dfr, frD, gIxL, at20, at21, gMulA, gMul, gInt, lift, m1, m3, e]
theorem less_spec {R : MS} {j k : Nat} {p q : Rat} {μ : Mem} (hp : Sz j p) (hq : Sz k q) (hj : j ≤ 4000) (hk : k ≤ 4000) : mLessF R [frD p, frD q] μ = .ok (.fr (.bl (decide (p < q)))) μ := by
  have l1 := log_pos hp.1 hj
  have l2 := log_den hp hj
  have l3 := log_pos hq.1 hk
  have l4 := log_den hq hk
  have m1 : p.num.natAbs.log2 + q.den.log2 < 1000000 := by omega
  have m3 : q.num.natAbs.log2 + p.den.log2 < 1000000 := by omega
  have e0 : startD 2 [frD p, frD q] = [some (.fr (frD p)), some (.fr (frD q))] := rfl
  refine fn_rt ?_
  unfold bLessF
  rw [e0]
  have n1 : mEx (mCall (mNeed R) [(mV 0)] []) [some (.fr (frD p)), some (.fr (frD q))] μ = .nx [some (.fr (frD p)), some (.fr (frD q))] μ := by
    simp [mEx, mCall, evA, mV, Out.bind, Out.thn, dfr, need_spec]
  have n2 : mEx (mCall (mNeed R) [(mV 1)] []) [some (.fr (frD p)), some (.fr (frD q))] μ = .nx [some (.fr (frD p)), some (.fr (frD q))] μ := by
    simp [mEx, mCall, evA, mV, Out.bind, Out.thn, dfr, need_spec]
  have hd : decide (p < q) = decide (p.num * (q.den : Int) < q.num * (p.den : Int)) := by
    by_cases h : p < q
    · rw [decide_eq_true h, decide_eq_true ((Rat.lt_iff p q).mp h)]
    · rw [decide_eq_false h, decide_eq_false fun z => h ((Rat.lt_iff p q).mpr z)]
  rw [seq_nx n1, seq_nx n2, hd]
  simp [mRet, mCall, evA, m2, Opn.ev, mD, OR.at, look, Out.bind, Out.thn, dfr, frD, gIxL, at20, at21, gMulA, gMul, gInt, lift, m1, m3, gLt, gLtI]
theorem fraction_spec {R R' : MS} {n d : Int} {μ : Mem} (hd : d ≠ 0) (hl : d.natAbs < 2 ^ 9000) : mFraction R R' [.int n, .int d] μ = .ok (.fr (frD (Rat.divInt n d))) μ := by
  have e := reduced_spec (μ := μ) (n := n) hd hl
  have e0 : startD 2 [D.int n, .int d] = [some (.fr (.int n)), some (.fr (.int d))] := rfl
  refine fn_rt ?_
  unfold bFraction
  rw [e0]
  have n1 : mIfS (mOr (mNot (mTb (mCall mIsInt [(mV 0), (mD .non), (mD .non)] []))) (mNot (mTb (mCall mIsInt [(mV 1), (mD .non), (mD .non)] [])))) R mPass [some (.fr (.int n)), some (.fr (.int d))] μ = .nx [some (.fr (.int n)), some (.fr (.int d))] μ := by
    refine if_fp ?_
    simp [mOr, mNot, mTb, mCall, evA, mV, mD, Out.bind, dfr, isInt_n]
  have n2 : mIfS (mTb (m2 (gEq false) (.v 1) (.e (mD (.int 0))))) R' mPass [some (.fr (.int n)), some (.fr (.int d))] μ = .nx [some (.fr (.int n)), some (.fr (.int d))] μ := by
    refine if_fp ?_
    simp [mTb, m2, Opn.ev, mD, OR.at, look, Out.bind, dfr, gEq, eqS, lift, hd]
  rw [seq_nx n1, seq_nx n2]
  simp [mRet, mCall, evA, mV, Out.bind, Out.thn, dfr, e]
/-! ### fractions, and lists of them, compared -/
def pyFr (q : Rat) : PyData := .tuple [.int q.num, .int (q.den : Int)]
theorem py_fr (q : Rat) : D.py (frD q) = some (pyFr q) := by simp [frD, D.py, D.pys, pyFr]
theorem eqv_fr (p q : Rat) : PyData.eqv (pyFr p) (pyFr q) = decide (p = q) := by
  have h : (p = q) ↔ (p.num = q.num ∧ (p.den : Int) = q.den) := by
    constructor
    · rintro rfl; exact ⟨rfl, rfl⟩
    · rintro ⟨h1, h2⟩; exact Rat.ext h1 (by omega)
  simp only [pyFr, PyData.eqv, PyData.eqvAll]
  by_cases e : p = q
  · subst e; simp
  · have : ¬ (p.num = q.num ∧ (p.den : Int) = q.den) := fun z => e (h.mpr z)
    rw [decide_eq_false e]
    by_cases e1 : p.num = q.num
    · have e2 : ¬ (p.den : Int) = q.den := fun z => this ⟨e1, z⟩
      simp [e1]
      omega
    · simp [e1]
theorem shaped_fr (q : Rat) : SeqAt.shaped (pyFr q) = true := by simp [SeqAt.shaped, pyFr, PyData.canLay0, PyData.canLayAll0, PyData.depth, PyData.depthAll]
theorem eq_fr (neg : Bool) (p q : Rat) : gEq neg (frD p) (frD q) = some (tb (decide (p = q) != neg)) := by
  have h : eqS (frD p) (frD q) = none := rfl
  simp [gEq, h, eqP, py_fr, shaped_fr, eqv_fr]
theorem pys_frs (qs : List Rat) : D.pys (qs.map frD) = some (qs.map pyFr) := by
  induction qs with
  | nil => rfl
  | cons q qs ih => simp [D.pys, py_fr, ih]
theorem shaped_frs (qs : List Rat) : SeqAt.shaped (.list (qs.map pyFr)) = true := by
  have h1 : PyData.canLayAll0 (qs.map pyFr) = true := by
    induction qs with
    | nil => simp [PyData.canLayAll0]
    | cons q qs ih => simp [PyData.canLayAll0, pyFr, PyData.canLay0, ih]
  have h2 : PyData.depthAll (qs.map pyFr) ≤ 1 := by
    clear h1
    induction qs with
    | nil => simp [PyData.depthAll]
    | cons q qs ih => simp [PyData.depthAll, pyFr, PyData.depth, ih]
  have h3 : PyData.depth (.list (qs.map pyFr)) ≤ 64 := by simp only [PyData.depth]; omega
  simp [SeqAt.shaped, PyData.canLay0, h1, h3]
theorem eq_frs_nil (neg : Bool) (qs : List Rat) : gEq neg (.lst (qs.map frD)) (.lst []) = some (tb (decide (qs = []) != neg)) := by
  have h := shaped_frs qs
  have h0 := shaped_frs []
  simp only [List.map_nil] at h0
  have e : PyData.eqvAll (qs.map pyFr) [] = decide (qs = []) := by cases qs <;> simp [PyData.eqvAll]
  simp [gEq, eqS, eqP, D.py, pys_frs, D.pys, h, h0, PyData.eqv, e]
end FL

namespace L08
open PySem PySem.Spec PyProof.Rows L2 FL

abbrev tp (i : Nat) : Stmt := PySem.Challenge.pw_findlang_k08_whole_rows_of_fractions.main.body.getD i (.Pass ⟨0, 0, 0, 0⟩)
structure Txt (P : Program) (w : World) (K : PySem.W.Frag) (mg : Str → Option Value) (base : Heap) : Prop where
  n_abs : mg "abs" = none
  n_bool : mg "bool" = none
  n_int : mg "int" = none
  n_isinstance : mg "isinstance" = none
  n_len : mg "len" = none
  n_list : mg "list" = none
  n_max : mg "max" = none
  n_min : mg "min" = none
  n_range : mg "range" = none
  n_repr : mg "repr" = none
  n_sum : mg "sum" = none
  n_tuple : mg "tuple" = none
  d__law_source : ∃ f fd, Fd K "_law_source" "_law_source" (tp 16) f fd .none ∧ mg "_law_source" = some (.ref f) ∧ PySem.W.keepIn K (.ref f) = true
  d__law_next : ∃ f fd, Fd K "_law_next" "_law_next" (tp 17) f fd .none ∧ mg "_law_next" = some (.ref f) ∧ PySem.W.keepIn K (.ref f) = true
  d__law_pick : ∃ f fd, Fd K "_law_pick" "_law_pick" (tp 18) f fd .none ∧ mg "_law_pick" = some (.ref f) ∧ PySem.W.keepIn K (.ref f) = true
  d__law_product : ∃ f fd, Fd K "_law_product" "_law_product" (tp 19) f fd .none ∧ mg "_law_product" = some (.ref f) ∧ PySem.W.keepIn K (.ref f) = true
  d__law_fraction : ∃ f fd, Fd K "_law_fraction" "_law_fraction" (tp 20) f fd .none ∧ mg "_law_fraction" = some (.ref f) ∧ PySem.W.keepIn K (.ref f) = true
  d_is_integer : ∃ f fd, Fd K "is_integer" "is_integer" (tp 4) f fd .none ∧ mg "is_integer" = some (.ref f) ∧ PySem.W.keepIn K (.ref f) = true
  d_common_divisor : ∃ f fd, Fd K "common_divisor" "common_divisor" (tp 5) f fd .none ∧ mg "common_divisor" = some (.ref f) ∧ PySem.W.keepIn K (.ref f) = true
  d_reduced : ∃ f fd, Fd K "reduced" "reduced" (tp 8) f fd .none ∧ mg "reduced" = some (.ref f) ∧ PySem.W.keepIn K (.ref f) = true
  d_fraction : ∃ f fd, Fd K "fraction" "fraction" (tp 10) f fd .none ∧ mg "fraction" = some (.ref f) ∧ PySem.W.keepIn K (.ref f) = true
  d_is_fraction : ∃ f fd, Fd K "is_fraction" "is_fraction" (tp 6) f fd .none ∧ mg "is_fraction" = some (.ref f) ∧ PySem.W.keepIn K (.ref f) = true
  d_need_fraction : ∃ f fd, Fd K "need_fraction" "need_fraction" (tp 9) f fd .none ∧ mg "need_fraction" = some (.ref f) ∧ PySem.W.keepIn K (.ref f) = true
  d_divide : ∃ f fd, Fd K "divide" "divide" (tp 13) f fd .none ∧ mg "divide" = some (.ref f) ∧ PySem.W.keepIn K (.ref f) = true
  d_add : ∃ f fd, Fd K "add" "add" (tp 11) f fd .none ∧ mg "add" = some (.ref f) ∧ PySem.W.keepIn K (.ref f) = true
  d_multiply : ∃ f fd, Fd K "multiply" "multiply" (tp 12) f fd .none ∧ mg "multiply" = some (.ref f) ∧ PySem.W.keepIn K (.ref f) = true
  d__law_score_right : ∃ f fd, Fd K "_law_score_right" "_law_score_right" (tp 26) f fd .none ∧ mg "_law_score_right" = some (.ref f) ∧ PySem.W.keepIn K (.ref f) = true
  d__law_shared : ∃ f fd, Fd K "_law_shared" "_law_shared" (tp 21) f fd .none ∧ mg "_law_shared" = some (.ref f) ∧ PySem.W.keepIn K (.ref f) = true
  d__law_sum : ∃ f fd, Fd K "_law_sum" "_law_sum" (tp 23) f fd .none ∧ mg "_law_sum" = some (.ref f) ∧ PySem.W.keepIn K (.ref f) = true
  d__law_turned : ∃ f fd, Fd K "_law_turned" "_law_turned" (tp 22) f fd .none ∧ mg "_law_turned" = some (.ref f) ∧ PySem.W.keepIn K (.ref f) = true
  d__law_all_product : ∃ f fd, Fd K "_law_all_product" "_law_all_product" (tp 24) f fd .none ∧ mg "_law_all_product" = some (.ref f) ∧ PySem.W.keepIn K (.ref f) = true
  d_is_less : ∃ f fd, Fd K "is_less" "is_less" (tp 14) f fd .none ∧ mg "is_less" = some (.ref f) ∧ PySem.W.keepIn K (.ref f) = true
  d__law_row_right : ∃ f fd, Fd K "_law_row_right" "_law_row_right" (tp 25) f fd .none ∧ mg "_law_row_right" = some (.ref f) ∧ PySem.W.keepIn K (.ref f) = true
/-! _law_source -/
def sc__law_source : Scope := { kind := .function, names := [("_law_script", .local), ("_law_k", .local), ("_law_cell", .local), ("len", .globalImplicit)], isGenerator := false, isCoroutine := false, more := [] }
theorem scf__law_source : FnScope ["_law_script", "_law_k", "_law_cell"] ["_law_script", "_law_k"] sc__law_source := ⟨rfl, rfl, rfl, by decide +kernel, rfl, by decide +kernel, by decide +kernel⟩
noncomputable def b__law_source : MS := (mSeq (mSet 2 (mIf (mTb (m2 (gEq true) (.v 0) (.e (mLst [])))) (m2 gIxL (.v 0) (.e (m2 gMod (.v 1) (.e (mC gLen [(.v 0)]))))) (mD (.int 1))))
    (mRet (mShare (mLst [(mV 2), (m2 gMulA (.e (mD (.int 3))) (.v 1)), (mIf (mTb (m2 gGe (.v 2) (.e (m2 gPow (.e (mD (.int 10))) (.e (mD (.int 18))))))) (m2 gDiv (.v 2) (.e (m2 gPow (.e (mD (.int 10))) (.e (mD (.int 18)))))) (mD (.int 0)))]))))
noncomputable def m__law_source : MF := mFn 3 b__law_source
theorem g__law_source {P : Program} {w : World} {K : PySem.W.Frag} {mg : Str → Option Value} {base : Heap} {f : Addr} {fd : FuncData} (F : Fd K "_law_source" "_law_source" (tp 16) f fd .none) (T : Txt P w K mg base) : FnG P w K mg base (L2.CX P w) (0 + 1) f fd ["_law_script", "_law_k"] (spM K mg (mFn 3 b__law_source) 2) := by
  refine fnG_s (N := ["_law_script", "_law_k", "_law_cell"]) (sc := sc__law_source) F scf__law_source (by kernel_rfl) rfl ?_
  intro X W hP hw hK hM hB C
  subst hP hw hK hM hB
  exact (jss_cons (C.set (by decide +kernel) (je_if (C.neT (C.ov (by decide +kernel)) (jo_e (je_lst ja_nil))) (ix_ (C.ov (by decide +kernel)) (jo_e (mod_ (C.ov (by decide +kernel)) (jo_e (C.bi (by decide +kernel) T.n_len PySem.boot_len o_len j_len (jos_cons (C.ov (by decide +kernel)) jos_nil))))) (by intro _ _; rfl)) je_int))
    (jss_one (js_ret (je_share (je_lst (ja_cons (C.v (by decide +kernel)) (ja_cons (mul_ (jo_e je_int) (C.ov (by decide +kernel))) (ja_cons (je_if (geT (C.ov (by decide +kernel)) (jo_e (pow_ (jo_e je_int) (jo_e je_int)))) (div_ (C.ov (by decide +kernel)) (jo_e (pow_ (jo_e je_int) (jo_e je_int)))) je_int) ja_nil))))))))
theorem bd__law_source {K : PySem.W.Frag} {f : Addr} {fd : FuncData} (F : Fd K "_law_source" "_law_source" (tp 16) f fd .none) : Binds K fd ["_law_script", "_law_k"] [] :=
  F.binds fun _ _ _ _ _ _ us hl => match us, hl with | [_, _], _ => by kernel_rfl
theorem ok__law_source {P : Program} {w : World} {K : PySem.W.Frag} {mg : Str → Option Value} {base : Heap} (T : Txt P w K mg base) : Fu P w K mg base 1 "_law_source" m__law_source 2 [] := by
  obtain ⟨f, fd, F, hm, hk⟩ := T.d__law_source
  exact Fu.mk0 (g__law_source F T) hm hk (bd__law_source F)

/-! _law_next -/
def sc__law_next : Scope := { kind := .function, names := [("_law_source_here", .local), ("_law_many", .local), ("_law_found", .local), ("_law_primes", .local), ("_law_prime", .local)], isGenerator := false, isCoroutine := false, more := [] }
theorem scf__law_next : FnScope ["_law_source_here", "_law_many", "_law_found", "_law_primes", "_law_prime"] ["_law_source_here", "_law_many"] sc__law_next := ⟨rfl, rfl, rfl, by decide +kernel, rfl, by decide +kernel, by decide +kernel⟩
noncomputable def b__law_next : MS := (mSeq (mIfS (mTb (m2 gGt (.e (m2 gIxL (.v 0) (.e (mD (.int 2))))) (.e (mD (.int 0))))) (mSeq (mSet 2 (m2 gMod (.e (m2 gIxL (.v 0) (.e (mD (.int 2))))) (.v 1)))
    (mSeq (mSetI gSetL (.v 0) (.e (mD (.int 2))) (m2 gDiv (.e (m2 gIxL (.v 0) (.e (mD (.int 2))))) (.v 1)))
    (mRet (mV 2))))
    mPass)
    (mSeq (mSetI gSetL (.v 0) (.e (mD (.int 1))) (m2 gAdd (.e (m2 gIxL (.v 0) (.e (mD (.int 1))))) (.e (mD (.int 1)))))
    (mSeq (mSet 3 (mLst [(mD (.int 2147483647)), (mD (.int 2147483629)), (mD (.int 2147483587)), (mD (.int 2147483579)), (mD (.int 2147483563)), (mD (.int 2147483549)), (mD (.int 2147483543)), (mD (.int 2147483497))]))
    (mSeq (mSet 4 (m2 gIxL (.e (m2 gAdd (.v 3) (.e (mLst [(mD (.int 2147483489)), (mD (.int 2147483477)), (mD (.int 2147483423))])))) (.e (m2 gMod (.e (m2 gIxL (.v 0) (.e (mD (.int 1))))) (.e (mD (.int 11)))))))
    (mRet (m2 gMod (.e (m2 gDiv (.e (m2 gMod (.e (m2 gPow (.e (m2 gAdd (.e (m2 gAdd (.e (m2 gMod (.e (m2 gIxL (.v 0) (.e (mD (.int 0))))) (.v 4))) (.e (m2 gMulA (.e (mD (.int 7919))) (.e (m2 gIxL (.v 0) (.e (mD (.int 1))))))))) (.e (mD (.int 1))))) (.e (mD (.int 5))))) (.v 4))) (.e (mD (.int 13))))) (.v 1)))))))
noncomputable def m__law_next : MF := mFn 5 b__law_next
theorem g__law_next {P : Program} {w : World} {K : PySem.W.Frag} {mg : Str → Option Value} {base : Heap} {f : Addr} {fd : FuncData} (F : Fd K "_law_next" "_law_next" (tp 17) f fd .none) (T : Txt P w K mg base) : FnG P w K mg base (L2.CX P w) (0 + 1) f fd ["_law_source_here", "_law_many"] (spM K mg (mFn 5 b__law_next) 2) := by
  refine fnG_s (N := ["_law_source_here", "_law_many", "_law_found", "_law_primes", "_law_prime"]) (sc := sc__law_next) F scf__law_next (by kernel_rfl) rfl ?_
  intro X W hP hw hK hM hB C
  subst hP hw hK hM hB
  exact (jss_cons (js_if (gtT (jo_e (ix_ (C.ov (by decide +kernel)) (jo_e je_int) (by intro _ _; rfl))) (jo_e je_int)) (jss_cons (C.set (by decide +kernel) (mod_ (jo_e (ix_ (C.ov (by decide +kernel)) (jo_e je_int) (by intro _ _; rfl))) (C.ov (by decide +kernel))))
    (jss_cons (setI_ (div_ (jo_e (ix_ (C.ov (by decide +kernel)) (jo_e je_int) (by intro _ _; rfl))) (C.ov (by decide +kernel))) (C.ov (by decide +kernel)) (jo_e je_int))
    (jss_one (js_ret (C.v (by decide +kernel))))))
    jss_nil)
    (jss_cons (setI_ (add_ (jo_e (ix_ (C.ov (by decide +kernel)) (jo_e je_int) (by intro _ _; rfl))) (jo_e je_int)) (C.ov (by decide +kernel)) (jo_e je_int))
    (jss_cons (C.set (by decide +kernel) (je_lst (ja_cons je_int (ja_cons je_int (ja_cons je_int (ja_cons je_int (ja_cons je_int (ja_cons je_int (ja_cons je_int (ja_cons je_int ja_nil))))))))))
    (jss_cons (C.set (by decide +kernel) (ix_ (jo_e (add_ (C.ov (by decide +kernel)) (jo_e (je_lst (ja_cons je_int (ja_cons je_int (ja_cons je_int ja_nil))))))) (jo_e (mod_ (jo_e (ix_ (C.ov (by decide +kernel)) (jo_e je_int) (by intro _ _; rfl))) (jo_e je_int))) (by intro _ _; rfl)))
    (jss_one (js_ret (mod_ (jo_e (div_ (jo_e (mod_ (jo_e (pow_ (jo_e (add_ (jo_e (add_ (jo_e (mod_ (jo_e (ix_ (C.ov (by decide +kernel)) (jo_e je_int) (by intro _ _; rfl))) (C.ov (by decide +kernel)))) (jo_e (mul_ (jo_e je_int) (jo_e (ix_ (C.ov (by decide +kernel)) (jo_e je_int) (by intro _ _; rfl))))))) (jo_e je_int))) (jo_e je_int))) (C.ov (by decide +kernel)))) (jo_e je_int))) (C.ov (by decide +kernel)))))))))
theorem bd__law_next {K : PySem.W.Frag} {f : Addr} {fd : FuncData} (F : Fd K "_law_next" "_law_next" (tp 17) f fd .none) : Binds K fd ["_law_source_here", "_law_many"] [] :=
  F.binds fun _ _ _ _ _ _ us hl => match us, hl with | [_, _], _ => by kernel_rfl
theorem ok__law_next {P : Program} {w : World} {K : PySem.W.Frag} {mg : Str → Option Value} {base : Heap} (T : Txt P w K mg base) : Fu P w K mg base 1 "_law_next" m__law_next 2 [] := by
  obtain ⟨f, fd, F, hm, hk⟩ := T.d__law_next
  exact Fu.mk0 (g__law_next F T) hm hk (bd__law_next F)

/-! _law_pick -/
def sc__law_pick : Scope := { kind := .function, names := [("_law_source_here", .local), ("_law_items", .local), ("_law_next", .globalImplicit), ("len", .globalImplicit)], isGenerator := false, isCoroutine := false, more := [] }
theorem scf__law_pick : FnScope ["_law_source_here", "_law_items"] ["_law_source_here", "_law_items"] sc__law_pick := ⟨rfl, rfl, rfl, by decide +kernel, rfl, by decide +kernel, by decide +kernel⟩
noncomputable def b__law_pick : MS := (mRet (m2 gIxL (.v 1) (.e (mCall m__law_next [(mV 0), (mC gLen [(.v 1)])] []))))
noncomputable def m__law_pick : MF := mFn 2 b__law_pick
theorem g__law_pick {P : Program} {w : World} {K : PySem.W.Frag} {mg : Str → Option Value} {base : Heap} {f : Addr} {fd : FuncData} (F : Fd K "_law_pick" "_law_pick" (tp 18) f fd .none) (T : Txt P w K mg base) : FnG P w K mg base (L2.CX P w) (1 + 1) f fd ["_law_source_here", "_law_items"] (spM K mg (mFn 2 b__law_pick) 2) := by
  refine fnG_s (N := ["_law_source_here", "_law_items"]) (sc := sc__law_pick) F scf__law_pick (by kernel_rfl) rfl ?_
  intro X W hP hw hK hM hB C
  subst hP hw hK hM hB
  exact (jss_one (js_ret (ix_ (C.ov (by decide +kernel)) (jo_e (je_call C.toCs (ok__law_next T) (by decide +kernel) (by decide +kernel) (ja_cons (C.v (by decide +kernel)) (ja_cons (C.bi (by decide +kernel) T.n_len PySem.boot_len o_len j_len (jos_cons (C.ov (by decide +kernel)) jos_nil)) ja_nil)) rfl)) (by intro _ _; rfl))))
theorem bd__law_pick {K : PySem.W.Frag} {f : Addr} {fd : FuncData} (F : Fd K "_law_pick" "_law_pick" (tp 18) f fd .none) : Binds K fd ["_law_source_here", "_law_items"] [] :=
  F.binds fun _ _ _ _ _ _ us hl => match us, hl with | [_, _], _ => by kernel_rfl
theorem ok__law_pick {P : Program} {w : World} {K : PySem.W.Frag} {mg : Str → Option Value} {base : Heap} (T : Txt P w K mg base) : Fu P w K mg base 2 "_law_pick" m__law_pick 2 [] := by
  obtain ⟨f, fd, F, hm, hk⟩ := T.d__law_pick
  exact Fu.mk0 (g__law_pick F T) hm hk (bd__law_pick F)

/-! _law_product -/
def sc__law_product : Scope := { kind := .function, names := [("_law_source_here", .local), ("_law_primes", .local), ("_law_found", .local), ("_law_prime", .local), ("_law_turn", .local), ("range", .globalImplicit), ("_law_pick", .globalImplicit)], isGenerator := false, isCoroutine := false, more := [] }
theorem scf__law_product : FnScope ["_law_source_here", "_law_primes", "_law_found", "_law_prime", "_law_turn"] ["_law_source_here", "_law_primes"] sc__law_product := ⟨rfl, rfl, rfl, by decide +kernel, rfl, by decide +kernel, by decide +kernel⟩
noncomputable def b__law_product : MS := (mSeq (mSet 2 (mD (.int 1)))
    (mSeq (mFor (mIt (mV 1)) (tgV 3) (mFor (mRange1 (.e (mCall m__law_pick [(mV 0), (mLst [(mD (.int 0)), (mD (.int 0)), (mD (.int 1)), (mD (.int 1)), (mD (.int 2)), (mD (.int 3)), (mD (.int 9))])] []))) (tgV 4) (mSet 2 (m2 gMulA (.v 2) (.v 3)))))
    (mRet (mV 2))))
noncomputable def m__law_product : MF := mFn 5 b__law_product
theorem g__law_product {P : Program} {w : World} {K : PySem.W.Frag} {mg : Str → Option Value} {base : Heap} {f : Addr} {fd : FuncData} (F : Fd K "_law_product" "_law_product" (tp 19) f fd .none) (T : Txt P w K mg base) : FnG P w K mg base (L2.CX P w) (2 + 1) f fd ["_law_source_here", "_law_primes"] (spM K mg (mFn 5 b__law_product) 2) := by
  refine fnG_s (N := ["_law_source_here", "_law_primes", "_law_found", "_law_prime", "_law_turn"]) (sc := sc__law_product) F scf__law_product (by kernel_rfl) rfl ?_
  intro X W hP hw hK hM hB C
  subst hP hw hK hM hB
  exact (jss_cons (C.set (by decide +kernel) je_int)
    (jss_cons (js_for C.hp C.calm (ji_any (C.v (by decide +kernel))) (C.tg (by decide +kernel)) (jss_one (js_for C.hp C.calm (range1_ C.toCs (by decide +kernel) T.n_range (jos_cons (jo_e (je_call C.toCs (ok__law_pick T) (by decide +kernel) (by decide +kernel) (ja_cons (C.v (by decide +kernel)) (ja_cons (je_lst (ja_cons je_int (ja_cons je_int (ja_cons je_int (ja_cons je_int (ja_cons je_int (ja_cons je_int (ja_cons je_int ja_nil)))))))) ja_nil)) rfl)) jos_nil)) (C.tg (by decide +kernel)) (jss_one (C.set (by decide +kernel) (mul_ (C.ov (by decide +kernel)) (C.ov (by decide +kernel))))))))
    (jss_one (js_ret (C.v (by decide +kernel))))))
theorem bd__law_product {K : PySem.W.Frag} {f : Addr} {fd : FuncData} (F : Fd K "_law_product" "_law_product" (tp 19) f fd .none) : Binds K fd ["_law_source_here", "_law_primes"] [] :=
  F.binds fun _ _ _ _ _ _ us hl => match us, hl with | [_, _], _ => by kernel_rfl
theorem ok__law_product {P : Program} {w : World} {K : PySem.W.Frag} {mg : Str → Option Value} {base : Heap} (T : Txt P w K mg base) : Fu P w K mg base 3 "_law_product" m__law_product 2 [] := by
  obtain ⟨f, fd, F, hm, hk⟩ := T.d__law_product
  exact Fu.mk0 (g__law_product F T) hm hk (bd__law_product F)

/-! _law_fraction -/
def sc__law_fraction : Scope := { kind := .function, names := [("_law_source_here", .local), ("_law_way", .local), ("_law_above", .local), ("_law_below", .local), ("_law_next", .globalImplicit), ("_law_pick", .globalImplicit), ("_law_product", .globalImplicit)], isGenerator := false, isCoroutine := false, more := [] }
theorem scf__law_fraction : FnScope ["_law_source_here", "_law_way", "_law_above", "_law_below"] ["_law_source_here"] sc__law_fraction := ⟨rfl, rfl, rfl, by decide +kernel, rfl, by decide +kernel, by decide +kernel⟩
noncomputable def b__law_fraction : MS := (mSeq (mSet 1 (mCall m__law_next [(mV 0), (mD (.int 6))] []))
    (mSeq (mIfS (mTb (m2 (gEq false) (.v 1) (.e (mD (.int 0))))) (mRet (mCall m__law_pick [(mV 0), (mLst [(mTup [(mD (.int 0)), (mD (.int 1))]), (mTup [(mD (.int 1)), (mD (.int 1))]), (mTup [(mNeg (mD (.int 1))), (mD (.int 1))]), (mTup [(mD (.int 1)), (mD (.int 2))]), (mTup [(mD (.int 2)), (mD (.int 3))]), (mTup [(mNeg (mD (.int 3))), (mD (.int 2))]), (mTup [(mD (.int 5)), (mD (.int 1))])])] []))
    mPass)
    (mSeq (mPar 2 3 (mCall m__law_product [(mV 0), (mLst [(mD (.int 2)), (mD (.int 5)), (mD (.int 11)), (mD (.int 31))])] []) (mCall m__law_product [(mV 0), (mLst [(mD (.int 3)), (mD (.int 7)), (mD (.int 13)), (mD (.int 29))])] []))
    (mSeq (mIfS (mTb (m2 (gEq false) (.v 1) (.e (mD (.int 1))))) (mPar 2 3 (mV 3) (mV 2))
    mPass)
    (mRet (mTup [(mIf (mTb (m2 (gEq false) (.e (mCall m__law_next [(mV 0), (mD (.int 3))] [])) (.e (mD (.int 0))))) (m2 gSub (.e (mD (.int 0))) (.v 2)) (mV 2)), (mV 3)]))))))
noncomputable def m__law_fraction : MF := mFn 4 b__law_fraction
theorem g__law_fraction {P : Program} {w : World} {K : PySem.W.Frag} {mg : Str → Option Value} {base : Heap} {f : Addr} {fd : FuncData} (F : Fd K "_law_fraction" "_law_fraction" (tp 20) f fd .none) (T : Txt P w K mg base) : FnG P w K mg base (L2.CX P w) (3 + 1) f fd ["_law_source_here"] (spM K mg (mFn 4 b__law_fraction) 1) := by
  refine fnG_s (N := ["_law_source_here", "_law_way", "_law_above", "_law_below"]) (sc := sc__law_fraction) F scf__law_fraction (by kernel_rfl) rfl ?_
  intro X W hP hw hK hM hB C
  subst hP hw hK hM hB
  exact (jss_cons (C.set (by decide +kernel) (je_call C.toCs (ok__law_next T) (by decide +kernel) (by decide +kernel) (ja_cons (C.v (by decide +kernel)) (ja_cons je_int ja_nil)) rfl))
    (jss_cons (js_if (C.eqT (C.ov (by decide +kernel)) (jo_e je_int)) (jss_one (js_ret (je_call C.toCs (ok__law_pick T) (by decide +kernel) (by decide +kernel) (ja_cons (C.v (by decide +kernel)) (ja_cons (je_lst (ja_cons (je_tup (ja_cons je_int (ja_cons je_int ja_nil))) (ja_cons (je_tup (ja_cons je_int (ja_cons je_int ja_nil))) (ja_cons (je_tup (ja_cons (neg_ je_int) (ja_cons je_int ja_nil))) (ja_cons (je_tup (ja_cons je_int (ja_cons je_int ja_nil))) (ja_cons (je_tup (ja_cons je_int (ja_cons je_int ja_nil))) (ja_cons (je_tup (ja_cons (neg_ je_int) (ja_cons je_int ja_nil))) (ja_cons (je_tup (ja_cons je_int (ja_cons je_int ja_nil))) ja_nil)))))))) ja_nil)) rfl)))
    jss_nil)
    (jss_cons (C.par (by decide +kernel) (by decide +kernel) (by decide) (je_call C.toCs (ok__law_product T) (by decide +kernel) (by decide +kernel) (ja_cons (C.v (by decide +kernel)) (ja_cons (je_lst (ja_cons je_int (ja_cons je_int (ja_cons je_int (ja_cons je_int ja_nil))))) ja_nil)) rfl) (je_call C.toCs (ok__law_product T) (by decide +kernel) (by decide +kernel) (ja_cons (C.v (by decide +kernel)) (ja_cons (je_lst (ja_cons je_int (ja_cons je_int (ja_cons je_int (ja_cons je_int ja_nil))))) ja_nil)) rfl) (by intro env he; simp only [swappedStores, Env.blockKind, Env.kindOf, he]; rfl))
    (jss_cons (js_if (C.eqT (C.ov (by decide +kernel)) (jo_e je_int)) (jss_one (C.par (by decide +kernel) (by decide +kernel) (by decide) (C.v (by decide +kernel)) (C.v (by decide +kernel)) (by intro env he; simp only [swappedStores, Env.blockKind, Env.kindOf, he]; rfl)))
    jss_nil)
    (jss_one (js_ret (je_tup (ja_cons (je_if (C.eqT (jo_e (je_call C.toCs (ok__law_next T) (by decide +kernel) (by decide +kernel) (ja_cons (C.v (by decide +kernel)) (ja_cons je_int ja_nil)) rfl)) (jo_e je_int)) (sub_ (jo_e je_int) (C.ov (by decide +kernel))) (C.v (by decide +kernel))) (ja_cons (C.v (by decide +kernel)) ja_nil)))))))))
theorem bd__law_fraction {K : PySem.W.Frag} {f : Addr} {fd : FuncData} (F : Fd K "_law_fraction" "_law_fraction" (tp 20) f fd .none) : Binds K fd ["_law_source_here"] [] :=
  F.binds fun _ _ _ _ _ _ us hl => match us, hl with | [_], _ => by kernel_rfl
theorem ok__law_fraction {P : Program} {w : World} {K : PySem.W.Frag} {mg : Str → Option Value} {base : Heap} (T : Txt P w K mg base) : Fu P w K mg base 4 "_law_fraction" m__law_fraction 1 [] := by
  obtain ⟨f, fd, F, hm, hk⟩ := T.d__law_fraction
  exact Fu.mk0 (g__law_fraction F T) hm hk (bd__law_fraction F)

/-! is_integer -/
def sc_is_integer : Scope := { kind := .function, names := [("value", .local), ("low", .local), ("high", .local), ("isinstance", .globalImplicit), ("int", .globalImplicit), ("bool", .globalImplicit)], isGenerator := false, isCoroutine := false, more := [] }
theorem scf_is_integer : FnScope ["value", "low", "high"] ["value", "low", "high"] sc_is_integer := ⟨rfl, rfl, rfl, by decide +kernel, rfl, by decide +kernel, by decide +kernel⟩
noncomputable def b_is_integer : MS := (mSeq (mIfS (mOr (mNot (mTb (mC gIsi [(.v 0), (.e (mD (.ty "int")))]))) (mTb (mC gIsi [(.v 0), (.e (mD (.ty "bool")))]))) (mRet (mD (.bl false)))
    mPass)
    (mRet (mAndV (mOrV (m2 (gIsN false) (.v 1) (.e (mD .non))) (m2 gLe (.v 1) (.v 0))) (mOrV (m2 (gIsN false) (.v 2) (.e (mD .non))) (m2 gLe (.v 0) (.v 2))))))
noncomputable def m_is_integer : MF := mFn 3 b_is_integer
theorem g_is_integer {P : Program} {w : World} {K : PySem.W.Frag} {mg : Str → Option Value} {base : Heap} {f : Addr} {fd : FuncData} (F : Fd K "is_integer" "is_integer" (tp 4) f fd .none) (T : Txt P w K mg base) : FnG P w K mg base (L2.CX P w) (0 + 1) f fd ["value", "low", "high"] (spM K mg (mFn 3 b_is_integer) 3) := by
  refine fnG_s (N := ["value", "low", "high"]) (sc := sc_is_integer) F scf_is_integer (by kernel_rfl) rfl ?_
  intro X W hP hw hK hM hB C
  subst hP hw hK hM hB
  exact (jss_cons (js_if (jt_w (jw_or (jt_not (jt_e (C.bi (by decide +kernel) T.n_isinstance (by decide +kernel) call_isi j_isi (jos_cons (C.ov (by decide +kernel)) (jos_cons (jo_e (C.ty (by decide +kernel) T.n_int (by decide +kernel))) jos_nil))))) (jw_or1 (jt_e (C.bi (by decide +kernel) T.n_isinstance (by decide +kernel) call_isi j_isi (jos_cons (C.ov (by decide +kernel)) (jos_cons (jo_e (C.ty (by decide +kernel) T.n_bool (by decide +kernel))) jos_nil))))))) (jss_one (js_ret je_bl))
    jss_nil)
    (jss_one (js_ret (je_and (je_or (isN_ (C.ov (by decide +kernel)) (jo_e je_non)) (je_one (le_ (C.ov (by decide +kernel)) (C.ov (by decide +kernel))))) (je_one (je_or (isN_ (C.ov (by decide +kernel)) (jo_e je_non)) (je_one (le_ (C.ov (by decide +kernel)) (C.ov (by decide +kernel))))))))))
theorem bd_is_integer {K : PySem.W.Frag} {f : Addr} {fd : FuncData} (F : Fd K "is_integer" "is_integer" (tp 4) f fd .none) : Binds K fd ["value", "low", "high"] [] :=
  F.binds fun _ _ _ _ _ _ us hl => match us, hl with | [_, _, _], _ => by kernel_rfl
theorem ok_is_integer {P : Program} {w : World} {K : PySem.W.Frag} {mg : Str → Option Value} {base : Heap} (T : Txt P w K mg base) : Fu P w K mg base 1 "is_integer" m_is_integer 3 [] := by
  obtain ⟨f, fd, F, hm, hk⟩ := T.d_is_integer
  exact Fu.mk0 (g_is_integer F T) hm hk (bd_is_integer F)

/-! common_divisor -/
def sc_common_divisor : Scope := { kind := .function, names := [("one", .local), ("other", .local)], isGenerator := false, isCoroutine := false, more := [] }
theorem scf_common_divisor : FnScope ["one", "other"] ["one", "other"] sc_common_divisor := ⟨rfl, rfl, rfl, by decide +kernel, rfl, by decide +kernel, by decide +kernel⟩
noncomputable def b_common_divisor : MS := (mSeq (mWhile (mTb (m2 gGt (.v 1) (.e (mD (.int 0))))) (mPar 0 1 (mV 1) (m2 gMod (.v 0) (.v 1))))
    (mRet (mV 0)))
noncomputable def m_common_divisor : MF := mFn 2 b_common_divisor
theorem g_common_divisor {P : Program} {w : World} {K : PySem.W.Frag} {mg : Str → Option Value} {base : Heap} {f : Addr} {fd : FuncData} (F : Fd K "common_divisor" "common_divisor" (tp 5) f fd .none) (T : Txt P w K mg base) : FnG P w K mg base (L2.CX P w) (0 + 1) f fd ["one", "other"] (spM K mg (mFn 2 b_common_divisor) 2) := by
  refine fnG_s (N := ["one", "other"]) (sc := sc_common_divisor) F scf_common_divisor (by kernel_rfl) rfl ?_
  intro X W hP hw hK hM hB C
  subst hP hw hK hM hB
  exact (jss_cons (js_while C.hp (gtT (C.ov (by decide +kernel)) (jo_e je_int)) (jss_one (C.par (by decide +kernel) (by decide +kernel) (by decide) (C.v (by decide +kernel)) (mod_ (C.ov (by decide +kernel)) (C.ov (by decide +kernel))) (by intro env he; simp only [swappedStores, Env.blockKind, Env.kindOf, he]; rfl))))
    (jss_one (js_ret (C.v (by decide +kernel)))))
theorem bd_common_divisor {K : PySem.W.Frag} {f : Addr} {fd : FuncData} (F : Fd K "common_divisor" "common_divisor" (tp 5) f fd .none) : Binds K fd ["one", "other"] [] :=
  F.binds fun _ _ _ _ _ _ us hl => match us, hl with | [_, _], _ => by kernel_rfl
theorem ok_common_divisor {P : Program} {w : World} {K : PySem.W.Frag} {mg : Str → Option Value} {base : Heap} (T : Txt P w K mg base) : Fu P w K mg base 1 "common_divisor" m_common_divisor 2 [] := by
  obtain ⟨f, fd, F, hm, hk⟩ := T.d_common_divisor
  exact Fu.mk0 (g_common_divisor F T) hm hk (bd_common_divisor F)

/-! reduced -/
def sc_reduced : Scope := { kind := .function, names := [("numerator", .local), ("denominator", .local), ("divisor", .local), ("common_divisor", .globalImplicit), ("abs", .globalImplicit)], isGenerator := false, isCoroutine := false, more := [] }
theorem scf_reduced : FnScope ["numerator", "denominator", "divisor"] ["numerator", "denominator"] sc_reduced := ⟨rfl, rfl, rfl, by decide +kernel, rfl, by decide +kernel, by decide +kernel⟩
noncomputable def b_reduced : MS := (mSeq (mIfS (mTb (m2 gLt (.v 1) (.e (mD (.int 0))))) (mPar 0 1 (m2 gSub (.e (mD (.int 0))) (.v 0)) (m2 gSub (.e (mD (.int 0))) (.v 1)))
    mPass)
    (mSeq (mSet 2 (mCall m_common_divisor [(mC gAbs [(.v 0)]), (mV 1)] []))
    (mRet (mTup [(m2 gDiv (.v 0) (.v 2)), (m2 gDiv (.v 1) (.v 2))]))))
noncomputable def m_reduced : MF := mFn 3 b_reduced
theorem g_reduced {P : Program} {w : World} {K : PySem.W.Frag} {mg : Str → Option Value} {base : Heap} {f : Addr} {fd : FuncData} (F : Fd K "reduced" "reduced" (tp 8) f fd .none) (T : Txt P w K mg base) : FnG P w K mg base (L2.CX P w) (1 + 1) f fd ["numerator", "denominator"] (spM K mg (mFn 3 b_reduced) 2) := by
  refine fnG_s (N := ["numerator", "denominator", "divisor"]) (sc := sc_reduced) F scf_reduced (by kernel_rfl) rfl ?_
  intro X W hP hw hK hM hB C
  subst hP hw hK hM hB
  exact (jss_cons (js_if (ltT (C.ov (by decide +kernel)) (jo_e je_int)) (jss_one (C.par (by decide +kernel) (by decide +kernel) (by decide) (sub_ (jo_e je_int) (C.ov (by decide +kernel))) (sub_ (jo_e je_int) (C.ov (by decide +kernel))) (by intro env he; simp only [swappedStores, Env.blockKind, Env.kindOf, he]; rfl)))
    jss_nil)
    (jss_cons (C.set (by decide +kernel) (je_call C.toCs (ok_common_divisor T) (by decide +kernel) (by decide +kernel) (ja_cons (C.bi (by decide +kernel) T.n_abs (by decide +kernel) call_abs j_abs (jos_cons (C.ov (by decide +kernel)) jos_nil)) (ja_cons (C.v (by decide +kernel)) ja_nil)) rfl))
    (jss_one (js_ret (je_tup (ja_cons (div_ (C.ov (by decide +kernel)) (C.ov (by decide +kernel))) (ja_cons (div_ (C.ov (by decide +kernel)) (C.ov (by decide +kernel))) ja_nil)))))))
theorem bd_reduced {K : PySem.W.Frag} {f : Addr} {fd : FuncData} (F : Fd K "reduced" "reduced" (tp 8) f fd .none) : Binds K fd ["numerator", "denominator"] [] :=
  F.binds fun _ _ _ _ _ _ us hl => match us, hl with | [_, _], _ => by kernel_rfl
theorem ok_reduced {P : Program} {w : World} {K : PySem.W.Frag} {mg : Str → Option Value} {base : Heap} (T : Txt P w K mg base) : Fu P w K mg base 2 "reduced" m_reduced 2 [] := by
  obtain ⟨f, fd, F, hm, hk⟩ := T.d_reduced
  exact Fu.mk0 (g_reduced F T) hm hk (bd_reduced F)

/-! fraction -/
def sc_fraction : Scope := { kind := .function, names := [("numerator", .local), ("denominator", .local), ("is_integer", .globalImplicit), ("BadNumber", .globalImplicit), ("reduced", .globalImplicit)], isGenerator := false, isCoroutine := false, more := [] }
theorem scf_fraction : FnScope ["numerator", "denominator"] ["numerator", "denominator"] sc_fraction := ⟨rfl, rfl, rfl, by decide +kernel, rfl, by decide +kernel, by decide +kernel⟩
noncomputable def b_fraction : MS := (mSeq (mIfS (mOr (mNot (mTb (mCall m_is_integer [(mV 0), (mD .non), (mD .non)] []))) (mNot (mTb (mCall m_is_integer [(mV 1), (mD .non), (mD .non)] [])))) mBad
    mPass)
    (mSeq (mIfS (mTb (m2 (gEq false) (.v 1) (.e (mD (.int 0))))) mBad
    mPass)
    (mRet (mCall m_reduced [(mV 0), (mV 1)] []))))
noncomputable def m_fraction : MF := mFn 2 b_fraction
theorem g_fraction {P : Program} {w : World} {K : PySem.W.Frag} {mg : Str → Option Value} {base : Heap} {f : Addr} {fd : FuncData} (F : Fd K "fraction" "fraction" (tp 10) f fd .none) (T : Txt P w K mg base) : FnG P w K mg base (L2.CX P w) (2 + 1) f fd ["numerator", "denominator"] (spM K mg (mFn 2 b_fraction) 2) := by
  refine fnG_s (N := ["numerator", "denominator"]) (sc := sc_fraction) F scf_fraction (by kernel_rfl) rfl ?_
  intro X W hP hw hK hM hB C
  subst hP hw hK hM hB
  exact (jss_cons (js_if (jt_w (jw_or (jt_not (jt_e (je_call C.toCs (ok_is_integer T) (by decide +kernel) (by decide +kernel) (ja_cons (C.v (by decide +kernel)) (ja_cons je_non (ja_cons je_non ja_nil))) rfl))) (jw_or1 (jt_not (jt_e (je_call C.toCs (ok_is_integer T) (by decide +kernel) (by decide +kernel) (ja_cons (C.v (by decide +kernel)) (ja_cons je_non (ja_cons je_non ja_nil))) rfl)))))) (jss_one js_never)
    jss_nil)
    (jss_cons (js_if (C.eqT (C.ov (by decide +kernel)) (jo_e je_int)) (jss_one js_never)
    jss_nil)
    (jss_one (js_ret (je_call C.toCs (ok_reduced T) (by decide +kernel) (by decide +kernel) (ja_cons (C.v (by decide +kernel)) (ja_cons (C.v (by decide +kernel)) ja_nil)) rfl)))))
theorem bd_fraction {K : PySem.W.Frag} {f : Addr} {fd : FuncData} (F : Fd K "fraction" "fraction" (tp 10) f fd .none) : Binds K fd ["numerator", "denominator"] [] :=
  F.binds fun _ _ _ _ _ _ us hl => match us, hl with | [_, _], _ => by kernel_rfl
theorem ok_fraction {P : Program} {w : World} {K : PySem.W.Frag} {mg : Str → Option Value} {base : Heap} (T : Txt P w K mg base) : Fu P w K mg base 3 "fraction" m_fraction 2 [] := by
  obtain ⟨f, fd, F, hm, hk⟩ := T.d_fraction
  exact Fu.mk0 (g_fraction F T) hm hk (bd_fraction F)

/-! is_fraction -/
def sc_is_fraction : Scope := { kind := .function, names := [("value", .local), ("isinstance", .globalImplicit), ("tuple", .globalImplicit), ("len", .globalImplicit), ("is_integer", .globalImplicit), ("common_divisor", .globalImplicit), ("abs", .globalImplicit)], isGenerator := false, isCoroutine := false, more := [] }
theorem scf_is_fraction : FnScope ["value"] ["value"] sc_is_fraction := ⟨rfl, rfl, rfl, by decide +kernel, rfl, by decide +kernel, by decide +kernel⟩
noncomputable def b_is_fraction : MS := (mSeq (mIfS (mOr (mNot (mTb (mC gIsi [(.v 0), (.e (mD (.ty "tuple")))]))) (mTb (m2 (gEq true) (.e (mC gLen [(.v 0)])) (.e (mD (.int 2)))))) (mRet (mD (.bl false)))
    mPass)
    (mSeq (mIfS (mOr (mNot (mTb (mCall m_is_integer [(m2 gIxL (.v 0) (.e (mD (.int 0)))), (mD .non), (mD .non)] []))) (mNot (mTb (mCall m_is_integer [(m2 gIxL (.v 0) (.e (mD (.int 1)))), (mD (.int 1)), (mD .non)] [])))) (mRet (mD (.bl false)))
    mPass)
    (mRet (m2 (gEq false) (.e (mCall m_common_divisor [(mC gAbs [(.e (m2 gIxL (.v 0) (.e (mD (.int 0)))))]), (m2 gIxL (.v 0) (.e (mD (.int 1))))] [])) (.e (mD (.int 1)))))))
noncomputable def m_is_fraction : MF := mFn 1 b_is_fraction
theorem g_is_fraction {P : Program} {w : World} {K : PySem.W.Frag} {mg : Str → Option Value} {base : Heap} {f : Addr} {fd : FuncData} (F : Fd K "is_fraction" "is_fraction" (tp 6) f fd .none) (T : Txt P w K mg base) : FnG P w K mg base (L2.CX P w) (1 + 1) f fd ["value"] (spM K mg (mFn 1 b_is_fraction) 1) := by
  refine fnG_s (N := ["value"]) (sc := sc_is_fraction) F scf_is_fraction (by kernel_rfl) rfl ?_
  intro X W hP hw hK hM hB C
  subst hP hw hK hM hB
  exact (jss_cons (js_if (jt_w (jw_or (jt_not (jt_e (C.bi (by decide +kernel) T.n_isinstance (by decide +kernel) call_isi j_isi (jos_cons (C.ov (by decide +kernel)) (jos_cons (jo_e (C.ty (by decide +kernel) T.n_tuple (by decide +kernel))) jos_nil))))) (jw_or1 (C.neT (jo_e (C.bi (by decide +kernel) T.n_len PySem.boot_len o_len j_len (jos_cons (C.ov (by decide +kernel)) jos_nil))) (jo_e je_int))))) (jss_one (js_ret je_bl))
    jss_nil)
    (jss_cons (js_if (jt_w (jw_or (jt_not (jt_e (je_call C.toCs (ok_is_integer T) (by decide +kernel) (by decide +kernel) (ja_cons (ix_ (C.ov (by decide +kernel)) (jo_e je_int) (by intro _ _; rfl)) (ja_cons je_non (ja_cons je_non ja_nil))) rfl))) (jw_or1 (jt_not (jt_e (je_call C.toCs (ok_is_integer T) (by decide +kernel) (by decide +kernel) (ja_cons (ix_ (C.ov (by decide +kernel)) (jo_e je_int) (by intro _ _; rfl)) (ja_cons je_int (ja_cons je_non ja_nil))) rfl)))))) (jss_one (js_ret je_bl))
    jss_nil)
    (jss_one (js_ret (C.eq (jo_e (je_call C.toCs (ok_common_divisor T) (by decide +kernel) (by decide +kernel) (ja_cons (C.bi (by decide +kernel) T.n_abs (by decide +kernel) call_abs j_abs (jos_cons (jo_e (ix_ (C.ov (by decide +kernel)) (jo_e je_int) (by intro _ _; rfl))) jos_nil)) (ja_cons (ix_ (C.ov (by decide +kernel)) (jo_e je_int) (by intro _ _; rfl)) ja_nil)) rfl)) (jo_e je_int))))))
theorem bd_is_fraction {K : PySem.W.Frag} {f : Addr} {fd : FuncData} (F : Fd K "is_fraction" "is_fraction" (tp 6) f fd .none) : Binds K fd ["value"] [] :=
  F.binds fun _ _ _ _ _ _ us hl => match us, hl with | [_], _ => by kernel_rfl
theorem ok_is_fraction {P : Program} {w : World} {K : PySem.W.Frag} {mg : Str → Option Value} {base : Heap} (T : Txt P w K mg base) : Fu P w K mg base 2 "is_fraction" m_is_fraction 1 [] := by
  obtain ⟨f, fd, F, hm, hk⟩ := T.d_is_fraction
  exact Fu.mk0 (g_is_fraction F T) hm hk (bd_is_fraction F)

/-! need_fraction -/
def sc_need_fraction : Scope := { kind := .function, names := [("value", .local), ("is_fraction", .globalImplicit), ("BadNumber", .globalImplicit)], isGenerator := false, isCoroutine := false, more := [] }
theorem scf_need_fraction : FnScope ["value"] ["value"] sc_need_fraction := ⟨rfl, rfl, rfl, by decide +kernel, rfl, by decide +kernel, by decide +kernel⟩
noncomputable def b_need_fraction : MS := (mIfS (mNot (mTb (mCall m_is_fraction [(mV 0)] []))) mBad
    mPass)
noncomputable def m_need_fraction : MF := mFn 1 b_need_fraction
theorem g_need_fraction {P : Program} {w : World} {K : PySem.W.Frag} {mg : Str → Option Value} {base : Heap} {f : Addr} {fd : FuncData} (F : Fd K "need_fraction" "need_fraction" (tp 9) f fd .none) (T : Txt P w K mg base) : FnG P w K mg base (L2.CX P w) (2 + 1) f fd ["value"] (spM K mg (mFn 1 b_need_fraction) 1) := by
  refine fnG_s (N := ["value"]) (sc := sc_need_fraction) F scf_need_fraction (by kernel_rfl) rfl ?_
  intro X W hP hw hK hM hB C
  subst hP hw hK hM hB
  exact (jss_one (js_if (jt_not (jt_e (je_call C.toCs (ok_is_fraction T) (by decide +kernel) (by decide +kernel) (ja_cons (C.v (by decide +kernel)) ja_nil) rfl))) (jss_one js_never)
    jss_nil))
theorem bd_need_fraction {K : PySem.W.Frag} {f : Addr} {fd : FuncData} (F : Fd K "need_fraction" "need_fraction" (tp 9) f fd .none) : Binds K fd ["value"] [] :=
  F.binds fun _ _ _ _ _ _ us hl => match us, hl with | [_], _ => by kernel_rfl
theorem ok_need_fraction {P : Program} {w : World} {K : PySem.W.Frag} {mg : Str → Option Value} {base : Heap} (T : Txt P w K mg base) : Fu P w K mg base 3 "need_fraction" m_need_fraction 1 [] := by
  obtain ⟨f, fd, F, hm, hk⟩ := T.d_need_fraction
  exact Fu.mk0 (g_need_fraction F T) hm hk (bd_need_fraction F)

/-! divide -/
def sc_divide : Scope := { kind := .function, names := [("one", .local), ("other", .local), ("need_fraction", .globalImplicit), ("BadNumber", .globalImplicit), ("reduced", .globalImplicit)], isGenerator := false, isCoroutine := false, more := [] }
theorem scf_divide : FnScope ["one", "other"] ["one", "other"] sc_divide := ⟨rfl, rfl, rfl, by decide +kernel, rfl, by decide +kernel, by decide +kernel⟩
noncomputable def b_divide : MS := (mSeq (mEx (mCall m_need_fraction [(mV 0)] []))
    (mSeq (mEx (mCall m_need_fraction [(mV 1)] []))
    (mSeq (mIfS (mTb (m2 (gEq false) (.e (m2 gIxL (.v 1) (.e (mD (.int 0))))) (.e (mD (.int 0))))) mBad
    mPass)
    (mRet (mCall m_reduced [(m2 gMulA (.e (m2 gIxL (.v 0) (.e (mD (.int 0))))) (.e (m2 gIxL (.v 1) (.e (mD (.int 1)))))), (m2 gMulA (.e (m2 gIxL (.v 0) (.e (mD (.int 1))))) (.e (m2 gIxL (.v 1) (.e (mD (.int 0))))))] [])))))
noncomputable def m_divide : MF := mFn 2 b_divide
theorem g_divide {P : Program} {w : World} {K : PySem.W.Frag} {mg : Str → Option Value} {base : Heap} {f : Addr} {fd : FuncData} (F : Fd K "divide" "divide" (tp 13) f fd .none) (T : Txt P w K mg base) : FnG P w K mg base (L2.CX P w) (3 + 1) f fd ["one", "other"] (spM K mg (mFn 2 b_divide) 2) := by
  refine fnG_s (N := ["one", "other"]) (sc := sc_divide) F scf_divide (by kernel_rfl) rfl ?_
  intro X W hP hw hK hM hB C
  subst hP hw hK hM hB
  exact (jss_cons (js_expr (je_call C.toCs (ok_need_fraction T) (by decide +kernel) (by decide +kernel) (ja_cons (C.v (by decide +kernel)) ja_nil) rfl))
    (jss_cons (js_expr (je_call C.toCs (ok_need_fraction T) (by decide +kernel) (by decide +kernel) (ja_cons (C.v (by decide +kernel)) ja_nil) rfl))
    (jss_cons (js_if (C.eqT (jo_e (ix_ (C.ov (by decide +kernel)) (jo_e je_int) (by intro _ _; rfl))) (jo_e je_int)) (jss_one js_never)
    jss_nil)
    (jss_one (js_ret (je_call C.toCs (ok_reduced T) (by decide +kernel) (by decide +kernel) (ja_cons (mul_ (jo_e (ix_ (C.ov (by decide +kernel)) (jo_e je_int) (by intro _ _; rfl))) (jo_e (ix_ (C.ov (by decide +kernel)) (jo_e je_int) (by intro _ _; rfl)))) (ja_cons (mul_ (jo_e (ix_ (C.ov (by decide +kernel)) (jo_e je_int) (by intro _ _; rfl))) (jo_e (ix_ (C.ov (by decide +kernel)) (jo_e je_int) (by intro _ _; rfl)))) ja_nil)) rfl))))))
theorem bd_divide {K : PySem.W.Frag} {f : Addr} {fd : FuncData} (F : Fd K "divide" "divide" (tp 13) f fd .none) : Binds K fd ["one", "other"] [] :=
  F.binds fun _ _ _ _ _ _ us hl => match us, hl with | [_, _], _ => by kernel_rfl
theorem ok_divide {P : Program} {w : World} {K : PySem.W.Frag} {mg : Str → Option Value} {base : Heap} (T : Txt P w K mg base) : Fu P w K mg base 4 "divide" m_divide 2 [] := by
  obtain ⟨f, fd, F, hm, hk⟩ := T.d_divide
  exact Fu.mk0 (g_divide F T) hm hk (bd_divide F)

/-! add -/
def sc_add : Scope := { kind := .function, names := [("one", .local), ("other", .local), ("need_fraction", .globalImplicit), ("reduced", .globalImplicit)], isGenerator := false, isCoroutine := false, more := [] }
theorem scf_add : FnScope ["one", "other"] ["one", "other"] sc_add := ⟨rfl, rfl, rfl, by decide +kernel, rfl, by decide +kernel, by decide +kernel⟩
noncomputable def b_add : MS := (mSeq (mEx (mCall m_need_fraction [(mV 0)] []))
    (mSeq (mEx (mCall m_need_fraction [(mV 1)] []))
    (mRet (mCall m_reduced [(m2 gAdd (.e (m2 gMulA (.e (m2 gIxL (.v 0) (.e (mD (.int 0))))) (.e (m2 gIxL (.v 1) (.e (mD (.int 1))))))) (.e (m2 gMulA (.e (m2 gIxL (.v 1) (.e (mD (.int 0))))) (.e (m2 gIxL (.v 0) (.e (mD (.int 1)))))))), (m2 gMulA (.e (m2 gIxL (.v 0) (.e (mD (.int 1))))) (.e (m2 gIxL (.v 1) (.e (mD (.int 1))))))] []))))
noncomputable def m_add : MF := mFn 2 b_add
theorem g_add {P : Program} {w : World} {K : PySem.W.Frag} {mg : Str → Option Value} {base : Heap} {f : Addr} {fd : FuncData} (F : Fd K "add" "add" (tp 11) f fd .none) (T : Txt P w K mg base) : FnG P w K mg base (L2.CX P w) (3 + 1) f fd ["one", "other"] (spM K mg (mFn 2 b_add) 2) := by
  refine fnG_s (N := ["one", "other"]) (sc := sc_add) F scf_add (by kernel_rfl) rfl ?_
  intro X W hP hw hK hM hB C
  subst hP hw hK hM hB
  exact (jss_cons (js_expr (je_call C.toCs (ok_need_fraction T) (by decide +kernel) (by decide +kernel) (ja_cons (C.v (by decide +kernel)) ja_nil) rfl))
    (jss_cons (js_expr (je_call C.toCs (ok_need_fraction T) (by decide +kernel) (by decide +kernel) (ja_cons (C.v (by decide +kernel)) ja_nil) rfl))
    (jss_one (js_ret (je_call C.toCs (ok_reduced T) (by decide +kernel) (by decide +kernel) (ja_cons (add_ (jo_e (mul_ (jo_e (ix_ (C.ov (by decide +kernel)) (jo_e je_int) (by intro _ _; rfl))) (jo_e (ix_ (C.ov (by decide +kernel)) (jo_e je_int) (by intro _ _; rfl))))) (jo_e (mul_ (jo_e (ix_ (C.ov (by decide +kernel)) (jo_e je_int) (by intro _ _; rfl))) (jo_e (ix_ (C.ov (by decide +kernel)) (jo_e je_int) (by intro _ _; rfl)))))) (ja_cons (mul_ (jo_e (ix_ (C.ov (by decide +kernel)) (jo_e je_int) (by intro _ _; rfl))) (jo_e (ix_ (C.ov (by decide +kernel)) (jo_e je_int) (by intro _ _; rfl)))) ja_nil)) rfl)))))
theorem bd_add {K : PySem.W.Frag} {f : Addr} {fd : FuncData} (F : Fd K "add" "add" (tp 11) f fd .none) : Binds K fd ["one", "other"] [] :=
  F.binds fun _ _ _ _ _ _ us hl => match us, hl with | [_, _], _ => by kernel_rfl
theorem ok_add {P : Program} {w : World} {K : PySem.W.Frag} {mg : Str → Option Value} {base : Heap} (T : Txt P w K mg base) : Fu P w K mg base 4 "add" m_add 2 [] := by
  obtain ⟨f, fd, F, hm, hk⟩ := T.d_add
  exact Fu.mk0 (g_add F T) hm hk (bd_add F)

/-! multiply -/
def sc_multiply : Scope := { kind := .function, names := [("one", .local), ("other", .local), ("need_fraction", .globalImplicit), ("reduced", .globalImplicit)], isGenerator := false, isCoroutine := false, more := [] }
theorem scf_multiply : FnScope ["one", "other"] ["one", "other"] sc_multiply := ⟨rfl, rfl, rfl, by decide +kernel, rfl, by decide +kernel, by decide +kernel⟩
noncomputable def b_multiply : MS := (mSeq (mEx (mCall m_need_fraction [(mV 0)] []))
    (mSeq (mEx (mCall m_need_fraction [(mV 1)] []))
    (mRet (mCall m_reduced [(m2 gMulA (.e (m2 gIxL (.v 0) (.e (mD (.int 0))))) (.e (m2 gIxL (.v 1) (.e (mD (.int 0)))))), (m2 gMulA (.e (m2 gIxL (.v 0) (.e (mD (.int 1))))) (.e (m2 gIxL (.v 1) (.e (mD (.int 1))))))] []))))
noncomputable def m_multiply : MF := mFn 2 b_multiply
theorem g_multiply {P : Program} {w : World} {K : PySem.W.Frag} {mg : Str → Option Value} {base : Heap} {f : Addr} {fd : FuncData} (F : Fd K "multiply" "multiply" (tp 12) f fd .none) (T : Txt P w K mg base) : FnG P w K mg base (L2.CX P w) (3 + 1) f fd ["one", "other"] (spM K mg (mFn 2 b_multiply) 2) := by
  refine fnG_s (N := ["one", "other"]) (sc := sc_multiply) F scf_multiply (by kernel_rfl) rfl ?_
  intro X W hP hw hK hM hB C
  subst hP hw hK hM hB
  exact (jss_cons (js_expr (je_call C.toCs (ok_need_fraction T) (by decide +kernel) (by decide +kernel) (ja_cons (C.v (by decide +kernel)) ja_nil) rfl))
    (jss_cons (js_expr (je_call C.toCs (ok_need_fraction T) (by decide +kernel) (by decide +kernel) (ja_cons (C.v (by decide +kernel)) ja_nil) rfl))
    (jss_one (js_ret (je_call C.toCs (ok_reduced T) (by decide +kernel) (by decide +kernel) (ja_cons (mul_ (jo_e (ix_ (C.ov (by decide +kernel)) (jo_e je_int) (by intro _ _; rfl))) (jo_e (ix_ (C.ov (by decide +kernel)) (jo_e je_int) (by intro _ _; rfl)))) (ja_cons (mul_ (jo_e (ix_ (C.ov (by decide +kernel)) (jo_e je_int) (by intro _ _; rfl))) (jo_e (ix_ (C.ov (by decide +kernel)) (jo_e je_int) (by intro _ _; rfl)))) ja_nil)) rfl)))))
theorem bd_multiply {K : PySem.W.Frag} {f : Addr} {fd : FuncData} (F : Fd K "multiply" "multiply" (tp 12) f fd .none) : Binds K fd ["one", "other"] [] :=
  F.binds fun _ _ _ _ _ _ us hl => match us, hl with | [_, _], _ => by kernel_rfl
theorem ok_multiply {P : Program} {w : World} {K : PySem.W.Frag} {mg : Str → Option Value} {base : Heap} (T : Txt P w K mg base) : Fu P w K mg base 4 "multiply" m_multiply 2 [] := by
  obtain ⟨f, fd, F, hm, hk⟩ := T.d_multiply
  exact Fu.mk0 (g_multiply F T) hm hk (bd_multiply F)

/-! _law_score_right -/
def sc__law_score_right : Scope := { kind := .function, names := [("_law_source_here", .local), ("_law_many", .local), ("_law_found_in", .local), ("_law_own", .local), ("_law_times", .local), ("_law_total", .local), ("_law_having", .local), ("_law_rare", .local), ("_law_share", .local), ("_law_half", .local), ("_law_told", .local), ("_law_above", .local), ("_law_below", .local), ("_law_next", .globalImplicit), ("fraction", .globalImplicit), ("divide", .globalImplicit), ("add", .globalImplicit), ("multiply", .globalImplicit)], isGenerator := false, isCoroutine := false, more := [] }
theorem scf__law_score_right : FnScope ["_law_source_here", "_law_many", "_law_found_in", "_law_own", "_law_times", "_law_total", "_law_having", "_law_rare", "_law_share", "_law_half", "_law_told", "_law_above", "_law_below"] ["_law_source_here"] sc__law_score_right := ⟨rfl, rfl, rfl, by decide +kernel, rfl, by decide +kernel, by decide +kernel⟩
noncomputable def b__law_score_right : MS := (mSeq (mSet 1 (m2 gAdd (.e (mD (.int 1))) (.e (mCall m__law_next [(mV 0), (mD (.int 500))] []))))
    (mSeq (mSet 2 (m2 gAdd (.e (mD (.int 1))) (.e (mCall m__law_next [(mV 0), (mV 1)] []))))
    (mSeq (mPar 3 4 (m2 gAdd (.e (mD (.int 1))) (.e (mCall m__law_next [(mV 0), (mD (.int 200))] []))) (m2 gAdd (.e (mD (.int 1))) (.e (mCall m__law_next [(mV 0), (mD (.int 200))] []))))
    (mSeq (mPar 5 6 (m2 gAdd (.v 3) (.e (mCall m__law_next [(mV 0), (mD (.int 9999))] []))) (m2 gAdd (.e (mD (.int 1))) (.e (mCall m__law_next [(mV 0), (mV 1)] []))))
    (mSeq (mSet 7 (mCall m_fraction [(m2 gAdd (.v 1) (.e (mD (.int 1)))), (m2 gAdd (.v 2) (.e (mD (.int 1))))] []))
    (mSeq (mSet 8 (mCall m_divide [(mCall m_fraction [(mV 3), (mD (.int 1))] []), (mCall m_fraction [(mV 5), (mV 6)] [])] []))
    (mSeq (mSet 9 (mCall m_divide [(mCall m_add [(mTup [(mD (.int 1)), (mD (.int 1))]), (mV 8)] []), (mTup [(mD (.int 2)), (mD (.int 1))])] []))
    (mSeq (mSet 10 (mCall m_multiply [(mV 7), (mCall m_divide [(mCall m_fraction [(mV 4), (mD (.int 1))] []), (mCall m_add [(mCall m_fraction [(mV 4), (mD (.int 1))] []), (mV 9)] [])] [])] []))
    (mSeq (mSet 11 (m2 gMulA (.e (m2 gMulA (.e (m2 gMulA (.e (m2 gAdd (.v 1) (.e (mD (.int 1))))) (.e (mD (.int 2))))) (.v 5))) (.v 4)))
    (mSeq (mSet 12 (m2 gMulA (.e (m2 gAdd (.v 2) (.e (mD (.int 1))))) (.e (m2 gAdd (.e (m2 gAdd (.e (m2 gMulA (.e (m2 gMulA (.e (mD (.int 2))) (.v 5))) (.v 4))) (.v 5))) (.e (m2 gMulA (.v 3) (.v 6)))))))
    (mRet (mAndV (m2 (gEq false) (.e (m2 gMulA (.e (m2 gIxL (.v 10) (.e (mD (.int 0))))) (.v 12))) (.e (m2 gMulA (.v 11) (.e (m2 gIxL (.v 10) (.e (mD (.int 1)))))))) (m2 (gEq false) (.v 10) (.e (mCall m_fraction [(mV 11), (mV 12)] [])))))))))))))))
noncomputable def m__law_score_right : MF := mFn 13 b__law_score_right
theorem g__law_score_right {P : Program} {w : World} {K : PySem.W.Frag} {mg : Str → Option Value} {base : Heap} {f : Addr} {fd : FuncData} (F : Fd K "_law_score_right" "_law_score_right" (tp 26) f fd .none) (T : Txt P w K mg base) : FnG P w K mg base (L2.CX P w) (4 + 1) f fd ["_law_source_here"] (spM K mg (mFn 13 b__law_score_right) 1) := by
  refine fnG_s (N := ["_law_source_here", "_law_many", "_law_found_in", "_law_own", "_law_times", "_law_total", "_law_having", "_law_rare", "_law_share", "_law_half", "_law_told", "_law_above", "_law_below"]) (sc := sc__law_score_right) F scf__law_score_right (by kernel_rfl) rfl ?_
  intro X W hP hw hK hM hB C
  subst hP hw hK hM hB
  exact (jss_cons (C.set (by decide +kernel) (add_ (jo_e je_int) (jo_e (je_call C.toCs (ok__law_next T) (by decide +kernel) (by decide +kernel) (ja_cons (C.v (by decide +kernel)) (ja_cons je_int ja_nil)) rfl))))
    (jss_cons (C.set (by decide +kernel) (add_ (jo_e je_int) (jo_e (je_call C.toCs (ok__law_next T) (by decide +kernel) (by decide +kernel) (ja_cons (C.v (by decide +kernel)) (ja_cons (C.v (by decide +kernel)) ja_nil)) rfl))))
    (jss_cons (C.par (by decide +kernel) (by decide +kernel) (by decide) (add_ (jo_e je_int) (jo_e (je_call C.toCs (ok__law_next T) (by decide +kernel) (by decide +kernel) (ja_cons (C.v (by decide +kernel)) (ja_cons je_int ja_nil)) rfl))) (add_ (jo_e je_int) (jo_e (je_call C.toCs (ok__law_next T) (by decide +kernel) (by decide +kernel) (ja_cons (C.v (by decide +kernel)) (ja_cons je_int ja_nil)) rfl))) (by intro env he; simp only [swappedStores, Env.blockKind, Env.kindOf, he]; rfl))
    (jss_cons (C.par (by decide +kernel) (by decide +kernel) (by decide) (add_ (C.ov (by decide +kernel)) (jo_e (je_call C.toCs (ok__law_next T) (by decide +kernel) (by decide +kernel) (ja_cons (C.v (by decide +kernel)) (ja_cons je_int ja_nil)) rfl))) (add_ (jo_e je_int) (jo_e (je_call C.toCs (ok__law_next T) (by decide +kernel) (by decide +kernel) (ja_cons (C.v (by decide +kernel)) (ja_cons (C.v (by decide +kernel)) ja_nil)) rfl))) (by intro env he; simp only [swappedStores, Env.blockKind, Env.kindOf, he]; rfl))
    (jss_cons (C.set (by decide +kernel) (je_call C.toCs (ok_fraction T) (by decide +kernel) (by decide +kernel) (ja_cons (add_ (C.ov (by decide +kernel)) (jo_e je_int)) (ja_cons (add_ (C.ov (by decide +kernel)) (jo_e je_int)) ja_nil)) rfl))
    (jss_cons (C.set (by decide +kernel) (je_call C.toCs (ok_divide T) (by decide +kernel) (by decide +kernel) (ja_cons (je_call C.toCs (ok_fraction T) (by decide +kernel) (by decide +kernel) (ja_cons (C.v (by decide +kernel)) (ja_cons je_int ja_nil)) rfl) (ja_cons (je_call C.toCs (ok_fraction T) (by decide +kernel) (by decide +kernel) (ja_cons (C.v (by decide +kernel)) (ja_cons (C.v (by decide +kernel)) ja_nil)) rfl) ja_nil)) rfl))
    (jss_cons (C.set (by decide +kernel) (je_call C.toCs (ok_divide T) (by decide +kernel) (by decide +kernel) (ja_cons (je_call C.toCs (ok_add T) (by decide +kernel) (by decide +kernel) (ja_cons (je_tup (ja_cons je_int (ja_cons je_int ja_nil))) (ja_cons (C.v (by decide +kernel)) ja_nil)) rfl) (ja_cons (je_tup (ja_cons je_int (ja_cons je_int ja_nil))) ja_nil)) rfl))
    (jss_cons (C.set (by decide +kernel) (je_call C.toCs (ok_multiply T) (by decide +kernel) (by decide +kernel) (ja_cons (C.v (by decide +kernel)) (ja_cons (je_call C.toCs (ok_divide T) (by decide +kernel) (by decide +kernel) (ja_cons (je_call C.toCs (ok_fraction T) (by decide +kernel) (by decide +kernel) (ja_cons (C.v (by decide +kernel)) (ja_cons je_int ja_nil)) rfl) (ja_cons (je_call C.toCs (ok_add T) (by decide +kernel) (by decide +kernel) (ja_cons (je_call C.toCs (ok_fraction T) (by decide +kernel) (by decide +kernel) (ja_cons (C.v (by decide +kernel)) (ja_cons je_int ja_nil)) rfl) (ja_cons (C.v (by decide +kernel)) ja_nil)) rfl) ja_nil)) rfl) ja_nil)) rfl))
    (jss_cons (C.set (by decide +kernel) (mul_ (jo_e (mul_ (jo_e (mul_ (jo_e (add_ (C.ov (by decide +kernel)) (jo_e je_int))) (jo_e je_int))) (C.ov (by decide +kernel)))) (C.ov (by decide +kernel))))
    (jss_cons (C.set (by decide +kernel) (mul_ (jo_e (add_ (C.ov (by decide +kernel)) (jo_e je_int))) (jo_e (add_ (jo_e (add_ (jo_e (mul_ (jo_e (mul_ (jo_e je_int) (C.ov (by decide +kernel)))) (C.ov (by decide +kernel)))) (C.ov (by decide +kernel)))) (jo_e (mul_ (C.ov (by decide +kernel)) (C.ov (by decide +kernel))))))))
    (jss_one (js_ret (je_and (C.eq (jo_e (mul_ (jo_e (ix_ (C.ov (by decide +kernel)) (jo_e je_int) (by intro _ _; rfl))) (C.ov (by decide +kernel)))) (jo_e (mul_ (C.ov (by decide +kernel)) (jo_e (ix_ (C.ov (by decide +kernel)) (jo_e je_int) (by intro _ _; rfl)))))) (je_one (C.eq (C.ov (by decide +kernel)) (jo_e (je_call C.toCs (ok_fraction T) (by decide +kernel) (by decide +kernel) (ja_cons (C.v (by decide +kernel)) (ja_cons (C.v (by decide +kernel)) ja_nil)) rfl)))))))))))))))))
theorem bd__law_score_right {K : PySem.W.Frag} {f : Addr} {fd : FuncData} (F : Fd K "_law_score_right" "_law_score_right" (tp 26) f fd .none) : Binds K fd ["_law_source_here"] [] :=
  F.binds fun _ _ _ _ _ _ us hl => match us, hl with | [_], _ => by kernel_rfl
theorem ok__law_score_right {P : Program} {w : World} {K : PySem.W.Frag} {mg : Str → Option Value} {base : Heap} (T : Txt P w K mg base) : Fu P w K mg base 5 "_law_score_right" m__law_score_right 1 [] := by
  obtain ⟨f, fd, F, hm, hk⟩ := T.d__law_score_right
  exact Fu.mk0 (g__law_score_right F T) hm hk (bd__law_score_right F)

/-! _law_shared -/
def sc__law_shared : Scope := { kind := .function, names := [("_law_row", .local), ("_law_under", .cell), ("_law_one", .local)], isGenerator := false, isCoroutine := false, more := [("fast", .str "_law_row"), ("fast", .str "_law_under"), ("fast", .str "_law_one")] }
theorem scf__law_shared : FnScope ["_law_row", "_law_under", "_law_one"] ["_law_row"] sc__law_shared := ⟨rfl, rfl, rfl, by decide +kernel, rfl, by decide +kernel, by decide +kernel⟩
noncomputable def b__law_shared : MS := (mSeq (mSet 1 (mD (.int 1)))
    (mSeq (mFor (mIt (mV 0)) (tgV 2) (mSet 1 (m2 gMulA (.v 1) (.e (m2 gIxL (.v 2) (.e (mD (.int 1))))))))
    (mRet (mTup [(mV 1), (mLc (mIt (mV 0)) (tgV 2) mYes (m2 gMulA (.e (m2 gIxL (.v 2) (.e (mD (.int 0))))) (.e (m2 gDiv (.v 1) (.e (m2 gIxL (.v 2) (.e (mD (.int 1)))))))) [2])]))))
noncomputable def m__law_shared : MF := mFn 3 b__law_shared
theorem g__law_shared {P : Program} {w : World} {K : PySem.W.Frag} {mg : Str → Option Value} {base : Heap} {f : Addr} {fd : FuncData} (F : Fd K "_law_shared" "_law_shared" (tp 21) f fd .none) (T : Txt P w K mg base) : FnG P w K mg base (L2.CX P w) (0 + 1) f fd ["_law_row"] (spM K mg (mFn 3 b__law_shared) 1) := by
  refine fnG_s (N := ["_law_row", "_law_under", "_law_one"]) (sc := sc__law_shared) F scf__law_shared (by kernel_rfl) rfl ?_
  intro X W hP hw hK hM hB C
  subst hP hw hK hM hB
  exact (jss_cons (C.set (by decide +kernel) je_int)
    (jss_cons (js_for C.hp C.calm (ji_any (C.v (by decide +kernel))) (C.tg (by decide +kernel)) (jss_one (C.set (by decide +kernel) (mul_ (C.ov (by decide +kernel)) (jo_e (ix_ (C.ov (by decide +kernel)) (jo_e je_int) (by intro _ _; rfl)))))))
    (jss_one (js_ret (je_tup (ja_cons (C.v (by decide +kernel)) (ja_cons (Cs.lc (Tx := Txt) C.toCs T [("_law_one", 2)] (ji_any (C.v (by decide +kernel))) (by decide +kernel) (fun Y T1 C1 => ⟨(C1.tg (by decide +kernel)), jts_nil, (mul_ (jo_e (ix_ (C1.ov (by decide +kernel)) (jo_e je_int) (by intro _ _; rfl))) (jo_e (div_ (C1.ov (by decide +kernel)) (jo_e (ix_ (C1.ov (by decide +kernel)) (jo_e je_int) (by intro _ _; rfl))))))⟩) (by rfl)) ja_nil)))))))
theorem bd__law_shared {K : PySem.W.Frag} {f : Addr} {fd : FuncData} (F : Fd K "_law_shared" "_law_shared" (tp 21) f fd .none) : Binds K fd ["_law_row"] [] :=
  F.binds fun _ _ _ _ _ _ us hl => match us, hl with | [_], _ => by kernel_rfl
theorem ok__law_shared {P : Program} {w : World} {K : PySem.W.Frag} {mg : Str → Option Value} {base : Heap} (T : Txt P w K mg base) : Fu P w K mg base 1 "_law_shared" m__law_shared 1 [] := by
  obtain ⟨f, fd, F, hm, hk⟩ := T.d__law_shared
  exact Fu.mk0 (g__law_shared F T) hm hk (bd__law_shared F)

/-! _law_sum -/
def sc__law_sum : Scope := { kind := .function, names := [("_law_row", .local), ("_law_found", .local), ("_law_one", .local), ("add", .globalImplicit)], isGenerator := false, isCoroutine := false, more := [] }
theorem scf__law_sum : FnScope ["_law_row", "_law_found", "_law_one"] ["_law_row"] sc__law_sum := ⟨rfl, rfl, rfl, by decide +kernel, rfl, by decide +kernel, by decide +kernel⟩
noncomputable def b__law_sum : MS := (mSeq (mSet 1 (mTup [(mD (.int 0)), (mD (.int 1))]))
    (mSeq (mFor (mIt (mV 0)) (tgV 2) (mSet 1 (mCall m_add [(mV 1), (mV 2)] [])))
    (mRet (mV 1))))
noncomputable def m__law_sum : MF := mFn 3 b__law_sum
theorem g__law_sum {P : Program} {w : World} {K : PySem.W.Frag} {mg : Str → Option Value} {base : Heap} {f : Addr} {fd : FuncData} (F : Fd K "_law_sum" "_law_sum" (tp 23) f fd .none) (T : Txt P w K mg base) : FnG P w K mg base (L2.CX P w) (4 + 1) f fd ["_law_row"] (spM K mg (mFn 3 b__law_sum) 1) := by
  refine fnG_s (N := ["_law_row", "_law_found", "_law_one"]) (sc := sc__law_sum) F scf__law_sum (by kernel_rfl) rfl ?_
  intro X W hP hw hK hM hB C
  subst hP hw hK hM hB
  exact (jss_cons (C.set (by decide +kernel) (je_tup (ja_cons je_int (ja_cons je_int ja_nil))))
    (jss_cons (js_for C.hp C.calm (ji_any (C.v (by decide +kernel))) (C.tg (by decide +kernel)) (jss_one (C.set (by decide +kernel) (je_call C.toCs (ok_add T) (by decide +kernel) (by decide +kernel) (ja_cons (C.v (by decide +kernel)) (ja_cons (C.v (by decide +kernel)) ja_nil)) rfl))))
    (jss_one (js_ret (C.v (by decide +kernel))))))
theorem bd__law_sum {K : PySem.W.Frag} {f : Addr} {fd : FuncData} (F : Fd K "_law_sum" "_law_sum" (tp 23) f fd .none) : Binds K fd ["_law_row"] [] :=
  F.binds fun _ _ _ _ _ _ us hl => match us, hl with | [_], _ => by kernel_rfl
theorem ok__law_sum {P : Program} {w : World} {K : PySem.W.Frag} {mg : Str → Option Value} {base : Heap} (T : Txt P w K mg base) : Fu P w K mg base 5 "_law_sum" m__law_sum 1 [] := by
  obtain ⟨f, fd, F, hm, hk⟩ := T.d__law_sum
  exact Fu.mk0 (g__law_sum F T) hm hk (bd__law_sum F)

/-! _law_turned -/
def sc__law_turned : Scope := { kind := .function, names := [("_law_source_here", .local), ("_law_row", .local), ("_law_rest", .local), ("_law_found", .local), ("list", .globalImplicit), ("_law_next", .globalImplicit), ("len", .globalImplicit)], isGenerator := false, isCoroutine := false, more := [] }
theorem scf__law_turned : FnScope ["_law_source_here", "_law_row", "_law_rest", "_law_found"] ["_law_source_here", "_law_row"] sc__law_turned := ⟨rfl, rfl, rfl, by decide +kernel, rfl, by decide +kernel, by decide +kernel⟩
noncomputable def b__law_turned : MS := (mSeq (mPar 2 3 (mC gList [(.v 1)]) (mLst []))
    (mSeq (mWhile (mTb (m2 (gEq true) (.v 2) (.e (mLst [])))) (mEx (mMut "list" gAppend (.v 3) [(mMut "list" gPopAt (.v 2) [(mCall m__law_next [(mV 0), (mC gLen [(.v 2)])] [])])])))
    (mRet (mV 3))))
noncomputable def m__law_turned : MF := mFn 4 b__law_turned
theorem g__law_turned {P : Program} {w : World} {K : PySem.W.Frag} {mg : Str → Option Value} {base : Heap} {f : Addr} {fd : FuncData} (F : Fd K "_law_turned" "_law_turned" (tp 22) f fd .none) (T : Txt P w K mg base) : FnG P w K mg base (L2.CX P w) (1 + 1) f fd ["_law_source_here", "_law_row"] (spM K mg (mFn 4 b__law_turned) 2) := by
  refine fnG_s (N := ["_law_source_here", "_law_row", "_law_rest", "_law_found"]) (sc := sc__law_turned) F scf__law_turned (by kernel_rfl) rfl ?_
  intro X W hP hw hK hM hB C
  subst hP hw hK hM hB
  exact (jss_cons (C.par (by decide +kernel) (by decide +kernel) (by decide) (C.bt (by decide +kernel) T.n_list (by decide +kernel) o_list j_list (jos_cons (C.ov (by decide +kernel)) jos_nil)) (je_lst ja_nil) (by intro env he; simp only [swappedStores, Env.blockKind, Env.kindOf, he]; rfl))
    (jss_cons (js_while C.hp (C.neT (C.ov (by decide +kernel)) (jo_e (je_lst ja_nil))) (jss_one (js_expr (append_ (C.ov (by decide +kernel)) (ja_cons (popAt_ (C.ov (by decide +kernel)) (ja_cons (je_call C.toCs (ok__law_next T) (by decide +kernel) (by decide +kernel) (ja_cons (C.v (by decide +kernel)) (ja_cons (C.bi (by decide +kernel) T.n_len PySem.boot_len o_len j_len (jos_cons (C.ov (by decide +kernel)) jos_nil)) ja_nil)) rfl) ja_nil)) ja_nil)))))
    (jss_one (js_ret (C.v (by decide +kernel))))))
theorem bd__law_turned {K : PySem.W.Frag} {f : Addr} {fd : FuncData} (F : Fd K "_law_turned" "_law_turned" (tp 22) f fd .none) : Binds K fd ["_law_source_here", "_law_row"] [] :=
  F.binds fun _ _ _ _ _ _ us hl => match us, hl with | [_, _], _ => by kernel_rfl
theorem ok__law_turned {P : Program} {w : World} {K : PySem.W.Frag} {mg : Str → Option Value} {base : Heap} (T : Txt P w K mg base) : Fu P w K mg base 2 "_law_turned" m__law_turned 2 [] := by
  obtain ⟨f, fd, F, hm, hk⟩ := T.d__law_turned
  exact Fu.mk0 (g__law_turned F T) hm hk (bd__law_turned F)

/-! _law_all_product -/
def sc__law_all_product : Scope := { kind := .function, names := [("_law_row", .local), ("_law_found", .local), ("_law_one", .local), ("multiply", .globalImplicit)], isGenerator := false, isCoroutine := false, more := [] }
theorem scf__law_all_product : FnScope ["_law_row", "_law_found", "_law_one"] ["_law_row"] sc__law_all_product := ⟨rfl, rfl, rfl, by decide +kernel, rfl, by decide +kernel, by decide +kernel⟩
noncomputable def b__law_all_product : MS := (mSeq (mSet 1 (mTup [(mD (.int 1)), (mD (.int 1))]))
    (mSeq (mFor (mIt (mV 0)) (tgV 2) (mSet 1 (mCall m_multiply [(mV 2), (mV 1)] [])))
    (mRet (mV 1))))
noncomputable def m__law_all_product : MF := mFn 3 b__law_all_product
theorem g__law_all_product {P : Program} {w : World} {K : PySem.W.Frag} {mg : Str → Option Value} {base : Heap} {f : Addr} {fd : FuncData} (F : Fd K "_law_all_product" "_law_all_product" (tp 24) f fd .none) (T : Txt P w K mg base) : FnG P w K mg base (L2.CX P w) (4 + 1) f fd ["_law_row"] (spM K mg (mFn 3 b__law_all_product) 1) := by
  refine fnG_s (N := ["_law_row", "_law_found", "_law_one"]) (sc := sc__law_all_product) F scf__law_all_product (by kernel_rfl) rfl ?_
  intro X W hP hw hK hM hB C
  subst hP hw hK hM hB
  exact (jss_cons (C.set (by decide +kernel) (je_tup (ja_cons je_int (ja_cons je_int ja_nil))))
    (jss_cons (js_for C.hp C.calm (ji_any (C.v (by decide +kernel))) (C.tg (by decide +kernel)) (jss_one (C.set (by decide +kernel) (je_call C.toCs (ok_multiply T) (by decide +kernel) (by decide +kernel) (ja_cons (C.v (by decide +kernel)) (ja_cons (C.v (by decide +kernel)) ja_nil)) rfl))))
    (jss_one (js_ret (C.v (by decide +kernel))))))
theorem bd__law_all_product {K : PySem.W.Frag} {f : Addr} {fd : FuncData} (F : Fd K "_law_all_product" "_law_all_product" (tp 24) f fd .none) : Binds K fd ["_law_row"] [] :=
  F.binds fun _ _ _ _ _ _ us hl => match us, hl with | [_], _ => by kernel_rfl
theorem ok__law_all_product {P : Program} {w : World} {K : PySem.W.Frag} {mg : Str → Option Value} {base : Heap} (T : Txt P w K mg base) : Fu P w K mg base 5 "_law_all_product" m__law_all_product 1 [] := by
  obtain ⟨f, fd, F, hm, hk⟩ := T.d__law_all_product
  exact Fu.mk0 (g__law_all_product F T) hm hk (bd__law_all_product F)

/-! is_less -/
def sc_is_less : Scope := { kind := .function, names := [("one", .local), ("other", .local), ("need_fraction", .globalImplicit)], isGenerator := false, isCoroutine := false, more := [] }
theorem scf_is_less : FnScope ["one", "other"] ["one", "other"] sc_is_less := ⟨rfl, rfl, rfl, by decide +kernel, rfl, by decide +kernel, by decide +kernel⟩
noncomputable def b_is_less : MS := (mSeq (mEx (mCall m_need_fraction [(mV 0)] []))
    (mSeq (mEx (mCall m_need_fraction [(mV 1)] []))
    (mRet (m2 gLt (.e (m2 gMulA (.e (m2 gIxL (.v 0) (.e (mD (.int 0))))) (.e (m2 gIxL (.v 1) (.e (mD (.int 1))))))) (.e (m2 gMulA (.e (m2 gIxL (.v 1) (.e (mD (.int 0))))) (.e (m2 gIxL (.v 0) (.e (mD (.int 1)))))))))))
noncomputable def m_is_less : MF := mFn 2 b_is_less
theorem g_is_less {P : Program} {w : World} {K : PySem.W.Frag} {mg : Str → Option Value} {base : Heap} {f : Addr} {fd : FuncData} (F : Fd K "is_less" "is_less" (tp 14) f fd .none) (T : Txt P w K mg base) : FnG P w K mg base (L2.CX P w) (3 + 1) f fd ["one", "other"] (spM K mg (mFn 2 b_is_less) 2) := by
  refine fnG_s (N := ["one", "other"]) (sc := sc_is_less) F scf_is_less (by kernel_rfl) rfl ?_
  intro X W hP hw hK hM hB C
  subst hP hw hK hM hB
  exact (jss_cons (js_expr (je_call C.toCs (ok_need_fraction T) (by decide +kernel) (by decide +kernel) (ja_cons (C.v (by decide +kernel)) ja_nil) rfl))
    (jss_cons (js_expr (je_call C.toCs (ok_need_fraction T) (by decide +kernel) (by decide +kernel) (ja_cons (C.v (by decide +kernel)) ja_nil) rfl))
    (jss_one (js_ret (lt_ (jo_e (mul_ (jo_e (ix_ (C.ov (by decide +kernel)) (jo_e je_int) (by intro _ _; rfl))) (jo_e (ix_ (C.ov (by decide +kernel)) (jo_e je_int) (by intro _ _; rfl))))) (jo_e (mul_ (jo_e (ix_ (C.ov (by decide +kernel)) (jo_e je_int) (by intro _ _; rfl))) (jo_e (ix_ (C.ov (by decide +kernel)) (jo_e je_int) (by intro _ _; rfl))))))))))
theorem bd_is_less {K : PySem.W.Frag} {f : Addr} {fd : FuncData} (F : Fd K "is_less" "is_less" (tp 14) f fd .none) : Binds K fd ["one", "other"] [] :=
  F.binds fun _ _ _ _ _ _ us hl => match us, hl with | [_, _], _ => by kernel_rfl
theorem ok_is_less {P : Program} {w : World} {K : PySem.W.Frag} {mg : Str → Option Value} {base : Heap} (T : Txt P w K mg base) : Fu P w K mg base 4 "is_less" m_is_less 2 [] := by
  obtain ⟨f, fd, F, hm, hk⟩ := T.d_is_less
  exact Fu.mk0 (g_is_less F T) hm hk (bd_is_less F)

/-! _law_row_right -/
def sc__law_row_right : Scope := { kind := .function, names := [("_law_source_here", .local), ("_law_row", .local), ("_law_under", .local), ("_law_above", .local), ("_law_total", .local), ("_law_far", .local), ("_law_spot", .cell), ("_law_n", .local), ("_law_k", .local), ("_law_shared", .globalImplicit), ("_law_sum", .globalImplicit), ("_law_turned", .globalImplicit), ("sum", .globalImplicit), ("_law_all_product", .globalImplicit), ("_law_pick", .globalImplicit), ("multiply", .globalImplicit), ("divide", .globalImplicit), ("range", .globalImplicit), ("len", .globalImplicit), ("repr", .globalImplicit), ("is_less", .globalImplicit), ("add", .globalImplicit)], isGenerator := false, isCoroutine := false, more := [("fast", .str "_law_source_here"), ("fast", .str "_law_row"), ("fast", .str "_law_under"), ("fast", .str "_law_above"), ("fast", .str "_law_total"), ("fast", .str "_law_far"), ("fast", .str "_law_spot"), ("fast", .str "_law_one"), ("fast", .str "_law_n"), ("fast", .str "_law_k")] }
theorem scf__law_row_right : FnScope ["_law_source_here", "_law_row", "_law_under", "_law_above", "_law_total", "_law_far", "_law_spot", "_law_n", "_law_k", "_law_one"] ["_law_source_here", "_law_row"] sc__law_row_right := ⟨rfl, rfl, rfl, by decide +kernel, rfl, by decide +kernel, by decide +kernel⟩
noncomputable def b__law_row_right : MS := (mSeq (mAsg (tgT 2 (tgC (tgV 2) (tgC (tgV 3) tgN))) (mCall m__law_shared [(mV 1)] []))
    (mSeq (mPar 4 5 (mCall m__law_sum [(mV 1)] []) (mCall m__law_turned [(mV 0), (mV 1)] []))
    (mSeq (mIfS (mOr (mTb (m2 (gEq true) (.e (m2 gMulA (.e (m2 gIxL (.v 4) (.e (mD (.int 0))))) (.v 2))) (.e (m2 gMulA (.e (mC gSum [(.v 3)])) (.e (m2 gIxL (.v 4) (.e (mD (.int 1))))))))) (mTb (m2 (gEq true) (.e (mCall m__law_sum [(mV 5)] [])) (.v 4)))) (mRet (mD (.bl false)))
    mPass)
    (mSeq (mIfS (mTb (m2 (gEq true) (.e (mCall m__law_all_product [(mV 5)] [])) (.e (mCall m__law_all_product [(mV 1)] [])))) (mRet (mD (.bl false)))
    mPass)
    (mSeq (mSet 6 (mCall m__law_pick [(mV 0), (mV 1)] []))
    (mSeq (mIfS (mTb (m2 (gEq true) (.e (mCall m_multiply [(mV 6), (mV 4)] [])) (.e (mCall m__law_sum [(mLc (mIt (mV 1)) (tgV 9) mYes (mCall m_multiply [(mV 6), (mV 9)] []) [9])] [])))) (mRet (mD (.bl false)))
    mPass)
    (mSeq (mIfS (mAnd (mTb (m2 (gEq true) (.e (m2 gIxL (.v 6) (.e (mD (.int 0))))) (.e (mD (.int 0))))) (mTb (m2 (gEq true) (.e (mCall m_divide [(mCall m_multiply [(mV 4), (mV 6)] []), (mV 6)] [])) (.v 4)))) (mRet (mD (.bl false)))
    mPass)
    (mSeq (mFor (mRange1 (.e (mC gLen [(.v 1)]))) (tgV 7) (mFor (mRange1 (.e (mC gLen [(.v 1)]))) (tgV 8) (mIfS (mTb (m2 (gEq true) (.e (mC gRepr [(.e (mCall m_is_less [(m2 gIxL (.v 1) (.v 7)), (m2 gIxL (.v 1) (.v 8))] []))])) (.e (mC gRepr [(.e (m2 gLt (.e (m2 gIxL (.v 3) (.v 7))) (.e (m2 gIxL (.v 3) (.v 8)))))])))) (mRet (mD (.bl false)))
    mPass)))
    (mRet (m2 (gEq false) (.e (mCall m_add [(mV 4), (mCall m_multiply [(mTup [(mNeg (mD (.int 1))), (mD (.int 1))]), (mV 4)] [])] [])) (.e (mTup [(mD (.int 0)), (mD (.int 1))]))))))))))))
noncomputable def m__law_row_right : MF := mFn 10 b__law_row_right
theorem g__law_row_right {P : Program} {w : World} {K : PySem.W.Frag} {mg : Str → Option Value} {base : Heap} {f : Addr} {fd : FuncData} (F : Fd K "_law_row_right" "_law_row_right" (tp 25) f fd .none) (T : Txt P w K mg base) : FnG P w K mg base (L2.CX P w) (5 + 1) f fd ["_law_source_here", "_law_row"] (spM K mg (mFn 10 b__law_row_right) 2) := by
  refine fnG_s (N := ["_law_source_here", "_law_row", "_law_under", "_law_above", "_law_total", "_law_far", "_law_spot", "_law_n", "_law_k", "_law_one"]) (sc := sc__law_row_right) F scf__law_row_right (by kernel_rfl) rfl ?_
  intro X W hP hw hK hM hB C
  subst hP hw hK hM hB
  exact (jss_cons (js_asg (je_call C.toCs (ok__law_shared T) (by decide +kernel) (by decide +kernel) (ja_cons (C.v (by decide +kernel)) ja_nil) rfl) (jg_t C.calm (jgs_cons (C.tg (by decide +kernel)) (jgs_cons (C.tg (by decide +kernel)) jgs_nil))))
    (jss_cons (C.par (by decide +kernel) (by decide +kernel) (by decide) (je_call C.toCs (ok__law_sum T) (by decide +kernel) (by decide +kernel) (ja_cons (C.v (by decide +kernel)) ja_nil) rfl) (je_call C.toCs (ok__law_turned T) (by decide +kernel) (by decide +kernel) (ja_cons (C.v (by decide +kernel)) (ja_cons (C.v (by decide +kernel)) ja_nil)) rfl) (by intro env he; simp only [swappedStores, Env.blockKind, Env.kindOf, he]; rfl))
    (jss_cons (js_if (jt_w (jw_or (C.neT (jo_e (mul_ (jo_e (ix_ (C.ov (by decide +kernel)) (jo_e je_int) (by intro _ _; rfl))) (C.ov (by decide +kernel)))) (jo_e (mul_ (jo_e (C.bi (by decide +kernel) T.n_sum (by decide +kernel) (cr_sum C.calm) j_sum (jos_cons (C.ov (by decide +kernel)) jos_nil))) (jo_e (ix_ (C.ov (by decide +kernel)) (jo_e je_int) (by intro _ _; rfl)))))) (jw_or1 (C.neT (jo_e (je_call C.toCs (ok__law_sum T) (by decide +kernel) (by decide +kernel) (ja_cons (C.v (by decide +kernel)) ja_nil) rfl)) (C.ov (by decide +kernel)))))) (jss_one (js_ret je_bl))
    jss_nil)
    (jss_cons (js_if (C.neT (jo_e (je_call C.toCs (ok__law_all_product T) (by decide +kernel) (by decide +kernel) (ja_cons (C.v (by decide +kernel)) ja_nil) rfl)) (jo_e (je_call C.toCs (ok__law_all_product T) (by decide +kernel) (by decide +kernel) (ja_cons (C.v (by decide +kernel)) ja_nil) rfl))) (jss_one (js_ret je_bl))
    jss_nil)
    (jss_cons (C.set (by decide +kernel) (je_call C.toCs (ok__law_pick T) (by decide +kernel) (by decide +kernel) (ja_cons (C.v (by decide +kernel)) (ja_cons (C.v (by decide +kernel)) ja_nil)) rfl))
    (jss_cons (js_if (C.neT (jo_e (je_call C.toCs (ok_multiply T) (by decide +kernel) (by decide +kernel) (ja_cons (C.v (by decide +kernel)) (ja_cons (C.v (by decide +kernel)) ja_nil)) rfl)) (jo_e (je_call C.toCs (ok__law_sum T) (by decide +kernel) (by decide +kernel) (ja_cons (Cs.lc (Tx := Txt) C.toCs T [("_law_one", 9)] (ji_any (C.v (by decide +kernel))) (by decide +kernel) (fun Y T1 C1 => ⟨(C1.tg (by decide +kernel)), jts_nil, (je_call C1 (ok_multiply T1) (by decide +kernel) (by decide +kernel) (ja_cons (C1.v (by decide +kernel)) (ja_cons (C1.v (by decide +kernel)) ja_nil)) rfl)⟩) (by rfl)) ja_nil) rfl))) (jss_one (js_ret je_bl))
    jss_nil)
    (jss_cons (js_if (jt_w (jw_and (C.neT (jo_e (ix_ (C.ov (by decide +kernel)) (jo_e je_int) (by intro _ _; rfl))) (jo_e je_int)) (jw_and1 (C.neT (jo_e (je_call C.toCs (ok_divide T) (by decide +kernel) (by decide +kernel) (ja_cons (je_call C.toCs (ok_multiply T) (by decide +kernel) (by decide +kernel) (ja_cons (C.v (by decide +kernel)) (ja_cons (C.v (by decide +kernel)) ja_nil)) rfl) (ja_cons (C.v (by decide +kernel)) ja_nil)) rfl)) (C.ov (by decide +kernel)))))) (jss_one (js_ret je_bl))
    jss_nil)
    (jss_cons (js_for C.hp C.calm (range1_ C.toCs (by decide +kernel) T.n_range (jos_cons (jo_e (C.bi (by decide +kernel) T.n_len PySem.boot_len o_len j_len (jos_cons (C.ov (by decide +kernel)) jos_nil))) jos_nil)) (C.tg (by decide +kernel)) (jss_one (js_for C.hp C.calm (range1_ C.toCs (by decide +kernel) T.n_range (jos_cons (jo_e (C.bi (by decide +kernel) T.n_len PySem.boot_len o_len j_len (jos_cons (C.ov (by decide +kernel)) jos_nil))) jos_nil)) (C.tg (by decide +kernel)) (jss_one (js_if (C.neT (jo_e (C.bi (by decide +kernel) T.n_repr (by decide +kernel) (o_repr C.hg C.hu70) j_repr (jos_cons (jo_e (je_call C.toCs (ok_is_less T) (by decide +kernel) (by decide +kernel) (ja_cons (ix_ (C.ov (by decide +kernel)) (C.ov (by decide +kernel)) (by intro _ _; rfl)) (ja_cons (ix_ (C.ov (by decide +kernel)) (C.ov (by decide +kernel)) (by intro _ _; rfl)) ja_nil)) rfl)) jos_nil))) (jo_e (C.bi (by decide +kernel) T.n_repr (by decide +kernel) (o_repr C.hg C.hu70) j_repr (jos_cons (jo_e (lt_ (jo_e (ix_ (C.ov (by decide +kernel)) (C.ov (by decide +kernel)) (by intro _ _; rfl))) (jo_e (ix_ (C.ov (by decide +kernel)) (C.ov (by decide +kernel)) (by intro _ _; rfl))))) jos_nil)))) (jss_one (js_ret je_bl))
    jss_nil)))))
    (jss_one (js_ret (C.eq (jo_e (je_call C.toCs (ok_add T) (by decide +kernel) (by decide +kernel) (ja_cons (C.v (by decide +kernel)) (ja_cons (je_call C.toCs (ok_multiply T) (by decide +kernel) (by decide +kernel) (ja_cons (je_tup (ja_cons (neg_ je_int) (ja_cons je_int ja_nil))) (ja_cons (C.v (by decide +kernel)) ja_nil)) rfl) ja_nil)) rfl)) (jo_e (je_tup (ja_cons je_int (ja_cons je_int ja_nil)))))))))))))))
theorem bd__law_row_right {K : PySem.W.Frag} {f : Addr} {fd : FuncData} (F : Fd K "_law_row_right" "_law_row_right" (tp 25) f fd .none) : Binds K fd ["_law_source_here", "_law_row"] [] :=
  F.binds fun _ _ _ _ _ _ us hl => match us, hl with | [_, _], _ => by kernel_rfl
theorem ok__law_row_right {P : Program} {w : World} {K : PySem.W.Frag} {mg : Str → Option Value} {base : Heap} (T : Txt P w K mg base) : Fu P w K mg base 6 "_law_row_right" m__law_row_right 2 [] := by
  obtain ⟨f, fd, F, hm, hk⟩ := T.d__law_row_right
  exact Fu.mk0 (g__law_row_right F T) hm hk (bd__law_row_right F)

/-! law -/
def sc_law : Scope := { kind := .function, names := [("_law_script", .local), ("_law_k", .local), ("_law_source_here", .cell), ("_law_turn", .local), ("_law_row", .local), ("range", .globalImplicit), ("max", .globalImplicit), ("min", .globalImplicit), ("len", .globalImplicit), ("_law_source", .globalImplicit), ("_law_next", .globalImplicit), ("_law_row_right", .globalImplicit), ("_law_score_right", .globalImplicit)], isGenerator := false, isCoroutine := false, more := [("fast", .str "_law_script"), ("fast", .str "_law_k"), ("fast", .str "_law_source_here"), ("fast", .str "_law_turn"), ("fast", .str "_law_n"), ("fast", .str "_law_row")] }
theorem scf_law : FnScope ["_law_script", "_law_k", "_law_source_here", "_law_turn", "_law_row", "_law_n"] ["_law_script"] sc_law := ⟨rfl, rfl, rfl, by decide +kernel, rfl, by decide +kernel, by decide +kernel⟩
noncomputable def b_law : MS := (mSeq (mFor (mRange1 (.e (mC gMax2 [(.e (mD (.int 1))), (.e (mC gMin2 [(.e (mD (.int 4))), (.e (mC gLen [(.v 0)]))]))]))) (tgV 1) (mSeq (mSet 2 (mCall m__law_source [(mV 0), (mV 1)] []))
    (mFor (mRange1 (.e (mD (.int 3)))) (tgV 3) (mSeq (mSet 4 (mLc (mRange1 (.e (m2 gAdd (.e (mD (.int 1))) (.e (mCall m__law_next [(mV 2), (mD (.int 6))] []))))) (tgV 5) mYes (mCall m__law_fraction [(mV 2)] []) [5]))
    (mIfS (mOr (mNot (mTb (mCall m__law_row_right [(mV 2), (mV 4)] []))) (mNot (mTb (mCall m__law_score_right [(mV 2)] [])))) (mRet (mD (.bl false)))
    mPass)))))
    (mRet (mD (.bl true))))
noncomputable def m_law : MF := mFn 6 b_law
theorem g_law {P : Program} {w : World} {K : PySem.W.Frag} {mg : Str → Option Value} {base : Heap} {f : Addr} {fd : FuncData} (F : Fd K "law" "law" (tp 27) f fd .none) (T : Txt P w K mg base) : FnG P w K mg base (L2.CX P w) (6 + 1) f fd ["_law_script"] (spM K mg (mFn 6 b_law) 1) := by
  refine fnG_s (N := ["_law_script", "_law_k", "_law_source_here", "_law_turn", "_law_row", "_law_n"]) (sc := sc_law) F scf_law (by kernel_rfl) rfl ?_
  intro X W hP hw hK hM hB C
  subst hP hw hK hM hB
  exact (jss_cons (js_for C.hp C.calm (range1_ C.toCs (by decide +kernel) T.n_range (jos_cons (jo_e (C.bi (by decide +kernel) T.n_max (by decide +kernel) (call_max2 C.calm) j_max2 (jos_cons (jo_e je_int) (jos_cons (jo_e (C.bi (by decide +kernel) T.n_min (by decide +kernel) (call_min2 C.calm) j_min2 (jos_cons (jo_e je_int) (jos_cons (jo_e (C.bi (by decide +kernel) T.n_len PySem.boot_len o_len j_len (jos_cons (C.ov (by decide +kernel)) jos_nil))) jos_nil)))) jos_nil)))) jos_nil)) (C.tg (by decide +kernel)) (jss_cons (C.set (by decide +kernel) (je_call C.toCs (ok__law_source T) (by decide +kernel) (by decide +kernel) (ja_cons (C.v (by decide +kernel)) (ja_cons (C.v (by decide +kernel)) ja_nil)) rfl))
    (jss_one (js_for C.hp C.calm (range1_ C.toCs (by decide +kernel) T.n_range (jos_cons (jo_e je_int) jos_nil)) (C.tg (by decide +kernel)) (jss_cons (Cs.setLc (Tx := Txt) C.toCs T [("_law_n", 5)] (by decide +kernel) (by rfl) (by rfl) (by rfl) (by decide +kernel) (range1_ C.toCs (by decide +kernel) T.n_range (jos_cons (jo_e (add_ (jo_e je_int) (jo_e (je_call C.toCs (ok__law_next T) (by decide +kernel) (by decide +kernel) (ja_cons (C.v (by decide +kernel)) (ja_cons je_int ja_nil)) rfl)))) jos_nil)) (by decide +kernel) (fun Y T1 C1 => ⟨(C1.tg (by decide +kernel)), jts_nil, (je_call C1 (ok__law_fraction T1) (by decide +kernel) (by decide +kernel) (ja_cons (C1.v (by decide +kernel)) ja_nil) rfl)⟩) (by rfl))
    (jss_one (js_if (jt_w (jw_or (jt_not (jt_e (je_call C.toCs (ok__law_row_right T) (by decide +kernel) (by decide +kernel) (ja_cons (C.v (by decide +kernel)) (ja_cons (C.v (by decide +kernel)) ja_nil)) rfl))) (jw_or1 (jt_not (jt_e (je_call C.toCs (ok__law_score_right T) (by decide +kernel) (by decide +kernel) (ja_cons (C.v (by decide +kernel)) ja_nil) rfl)))))) (jss_one (js_ret je_bl))
    jss_nil)))))))
    (jss_one (js_ret je_bl)))

end L08

namespace L08
open PySem L2 FL
theorem en : m__law_next = mNext := rfl
theorem ep : m__law_pick = mPick := rfl
theorem es : m__law_source = mSource := rfl
theorem eAdd : m_add = mAddF mBad := rfl
theorem eMul : m_multiply = mMulF mBad := rfl
theorem eDiv : m_divide = mDivF mBad mBad := rfl
theorem eLess : m_is_less = mLessF mBad := rfl
theorem eFr : m_fraction = mFraction mBad mBad := rfl
/-- a number made of some primes alone -/
def Of (ps : List Nat) (f : Nat) : Prop := ∀ m : Nat, (∀ p ∈ ps, Nat.Coprime p m) → Nat.Coprime f m
theorem Of.mul {ps : List Nat} {f p : Nat} (h : Of ps f) (hp : p ∈ ps) : Of ps (f * p) := fun m hm => Nat.Coprime.mul_left (h m hm) (hm p hp)
theorem prod_in {ps : List Nat} {j : Nat} {d1 : D} {p : Nat} (hp : p ∈ ps) (p1 : 1 ≤ p) (p2 : p < 32) {μ : Mem} : ∀ (ds : List D) (e f : Nat) (s : Option FL.Slot), e + 5 * ds.length ≤ 1000 → 1 ≤ f → f < 2 ^ e → Of ps f →
    ∃ (f' : Nat) (s' : Option FL.Slot), forD (turnD (tgV 4) (mSet 2 (m2 gMulA (.v 2) (.v 3)))) ds [some (.fr (.obj j)), some (.fr d1), some (.fr (.int f)), some (.fr (.int p)), s] μ = .nx [some (.fr (.obj j)), some (.fr d1), some (.fr (.int f')), some (.fr (.int p)), s'] μ ∧ 1 ≤ f' ∧ f' < 2 ^ (e + 5 * ds.length) ∧ Of ps f'
  | [], e, f, s, _, h1, h2, h3 => ⟨f, s, rfl, h1, h2, h3⟩
  | d :: ds, e, f, s, he, h1, h2, h3 => by
    rw [List.length_cons] at he
    have hlog : f.log2 + p.log2 < 1000000 := by
      have a := (Nat.log2_lt (show f ≠ 0 by omega)).mpr h2
      have b := (Nat.log2_lt (show p ≠ 0 by omega)).mpr (show p < 2 ^ 5 from p2)
      omega
    have hf : f * p < 2 ^ (e + 5) := mul_lt_pow h2 p2
    obtain ⟨f', s', e1, g1, g2, g3⟩ := prod_in hp p1 p2 ds (e + 5) (f * p) (some (.fr d)) (by omega) (Nat.mul_pos h1 p1) hf (h3.mul hp)
    refine ⟨f', s', ?_, g1, by rw [List.length_cons, show e + 5 * (ds.length + 1) = e + 5 + 5 * ds.length by omega]; exact g2, g3⟩
    have step : turnD (tgV 4) (mSet 2 (m2 gMulA (.v 2) (.v 3))) d [some (.fr (.obj j)), some (.fr d1), some (.fr (.int f)), some (.fr (.int p)), s] μ = .nx [some (.fr (.obj j)), some (.fr d1), some (.fr (.int (f * p : Nat))), some (.fr (.int p)), some (.fr d)] μ := by
      simp [turnD, tgV, mSet, m2, Opn.ev, OR.at, look, Out.bind, Out.thn, dfr, gMulA, gMul, gInt, lift, hlog]
    rw [forD_cons, step]
    exact e1
theorem prod_out {ps : List Nat} {j : Nat} {d1 : D} : ∀ (qs : List Nat), (∀ p ∈ qs, p ∈ ps ∧ 1 ≤ p ∧ p < 32) → ∀ (e f : Nat) (s s2 : Option FL.Slot) (μ : Mem) (B : Int), e + 45 * qs.length ≤ 1000 → Src μ j B → B + 100 + qs.length ≤ 2 ^ 40 → qs.length ≤ 10 → 1 ≤ f → f < 2 ^ e → Of ps f →
    ∃ (f' : Nat) (s' s2' : Option FL.Slot) (μ' : Mem), forD (turnD (tgV 3) (mFor (mRange1 (.e (mCall m__law_pick [(mV 0), (mLst [(mD (.int 0)), (mD (.int 0)), (mD (.int 1)), (mD (.int 1)), (mD (.int 2)), (mD (.int 3)), (mD (.int 9))])] []))) (tgV 4) (mSet 2 (m2 gMulA (.v 2) (.v 3))))) (qs.map fun p : Nat => D.int (p : Int)) [some (.fr (.obj j)), some (.fr d1), some (.fr (.int f)), s, s2] μ = .nx [some (.fr (.obj j)), some (.fr d1), some (.fr (.int f')), s', s2'] μ' ∧ 1 ≤ f' ∧ f' < 2 ^ (e + 45 * qs.length) ∧ Of ps f' ∧ Src μ' j (B + qs.length) ∧ Fr j μ μ'
  | [], _, e, f, s, s2, μ, B, _, hs, _, _, h1, h2, h3 => ⟨f, s, s2, μ, rfl, h1, h2, h3, by simpa using hs, .refl⟩
  | p :: qs, hq, e, f, s, s2, μ, B, he, hs, hB, hl, h1, h2, h3 => by
    rw [List.length_cons] at he hl hB
    obtain ⟨hp, p1, p2⟩ := hq p (List.mem_cons_self ..)
    obtain ⟨c, μ1, hc, e1, s1, f1⟩ := pick_lst (xs := [D.int 0, .int 0, .int 1, .int 1, .int 2, .int 3, .int 9]) hs (by omega) (by simp) (by simp)
    obtain ⟨n, rfl, n0, n9⟩ : ∃ n : Int, c = .int n ∧ 0 ≤ n ∧ n ≤ 9 := by
      simp only [List.mem_cons, List.not_mem_nil, or_false] at hc
      rcases hc with h | h | h | h | h | h | h <;> exact ⟨_, h, by decide, by decide⟩
    have hlen : (rangeD 0 n.toNat).length = n.toNat := by simp [rangeD]
    obtain ⟨f2, s3, e2, g1, g2, g3⟩ := prod_in (j := j) (d1 := d1) (μ := μ1) hp p1 p2 (rangeD 0 n.toNat) e f s2 (by omega) h1 h2 h3
    have g2' : f2 < 2 ^ (e + 45) := Nat.lt_of_lt_of_le g2 (Nat.pow_le_pow_right (by decide) (by omega))
    obtain ⟨f', s', s2', μ2, e3, k1, k2, k3, k4, k5⟩ := prod_out qs (fun q hq' => hq q (List.mem_cons_of_mem _ hq')) (e + 45) f2 (some (.fr (.int p))) s3 μ1 (B + 1) (by omega) s1 (by omega) (by omega) g1 g2' g3
    refine ⟨f', s', s2', μ2, ?_, k1, by rw [List.length_cons, show e + 45 * (qs.length + 1) = e + 45 + 45 * qs.length by omega]; exact k2, k3, k4.mono (by rw [List.length_cons]; omega), f1.trans k5⟩
    have hr : -4611686018427387904 ≤ n ∧ n < 4611686018427387904 := by omega
    have step : turnD (tgV 3) (mFor (mRange1 (.e (mCall m__law_pick [(mV 0), (mLst [(mD (.int 0)), (mD (.int 0)), (mD (.int 1)), (mD (.int 1)), (mD (.int 2)), (mD (.int 3)), (mD (.int 9))])] []))) (tgV 4) (mSet 2 (m2 gMulA (.v 2) (.v 3)))) (.int p) [some (.fr (.obj j)), some (.fr d1), some (.fr (.int f)), s, s2] μ = .nx [some (.fr (.obj j)), some (.fr d1), some (.fr (.int f2)), some (.fr (.int p)), s3] μ1 := by
      show mFor _ _ _ [some (.fr (.obj j)), some (.fr d1), some (.fr (.int f)), some (.fr (.int p)), s2] μ = _
      refine for_of (ds := rangeD 0 n.toNat) (δ1 := [some (.fr (.obj j)), some (.fr d1), some (.fr (.int f)), some (.fr (.int p)), s2]) (μ1 := μ1) ?_ e2
      simp [mRange1, evs, Opn.ev, mCall, evA, mV, mLst, mD, Out.bind, dfr, down, ep, e1, OR.at, OR.ats, look, hr]
    rw [List.map_cons, forD_cons, step]
    exact e3
theorem prod_spec {ps : List Nat} {μ : Mem} {j : Nat} {B : Int} (hq : ∀ p ∈ ps, 1 ≤ p ∧ p < 32) (hl : ps.length = 4) (h : Src μ j B) (hB : B + 200 ≤ 2 ^ 40) :
    ∃ (f : Nat) (μ' : Mem), m__law_product [.obj j, .lst (ps.map fun p : Nat => D.int (p : Int))] μ = .ok (.fr (.int f)) μ' ∧ 1 ≤ f ∧ f < 2 ^ 181 ∧ Of ps f ∧ Src μ' j (B + 4) ∧ Fr j μ μ' := by
  obtain ⟨f, s, s2, μ1, e, h1, h2, h3, h4, h5⟩ := prod_out (ps := ps) (j := j) (d1 := .lst (ps.map fun p : Nat => D.int (p : Int))) ps (fun p hp => ⟨hp, hq p hp⟩) 1 1 none none μ B (by omega) h (by omega) (by omega) (by decide) (by decide) (fun m _ => Nat.coprime_one_left m)
  rw [hl] at h2 h4
  refine ⟨f, μ1, fn_rt ?_, h1, h2, h3, h4, h5⟩
  unfold b__law_product
  have n1 : mSet 2 (mD (.int 1)) (startD 5 [.obj j, .lst (ps.map fun p : Nat => D.int (p : Int))]) μ = .nx [some (.fr (.obj j)), some (.fr (.lst (ps.map fun p : Nat => D.int (p : Int)))), some (.fr (.int 1)), none, none] μ := by simp [mSet, mD, startD, Out.thn]
  have n2 := for_of (mi := mIt (mV 1)) (δ := [some (.fr (.obj j)), some (.fr (.lst (ps.map fun p : Nat => D.int (p : Int)))), some (.fr (.int 1)), none, none]) (μ := μ) (ds := ps.map fun p : Nat => D.int (p : Int)) (δ1 := [some (.fr (.obj j)), some (.fr (.lst (ps.map fun p : Nat => D.int (p : Int)))), some (.fr (.int 1)), none, none]) (μ1 := μ) (by simp [mIt, mV, Out.bind, dfr, itA]) e
  rw [seq_nx n1, seq_nx n2]
  simp [mRet, mV, Out.thn, dfr]
theorem mk_fr {n d : Int} (hd : 0 < d) (hc : n.natAbs.gcd d.natAbs = 1) : ∃ q : Rat, q.num = n ∧ (q.den : Int) = d := ⟨⟨n, d.toNat, by omega, by rw [show d.toNat = d.natAbs by omega]; exact hc⟩, rfl, by show ((d.toNat : Nat) : Int) = d; omega⟩
theorem frac_spec {μ : Mem} {j : Nat} {B : Int} (h : Src μ j B) (hB : B + 1000 ≤ 2 ^ 40) :
    ∃ (q : Rat) (μ' : Mem), m__law_fraction [.obj j] μ = .ok (.fr (frD q)) μ' ∧ Sz 181 q ∧ Src μ' j (B + 20) ∧ Fr j μ μ' := by
  obtain ⟨w, μ1, e1, w0, w1, s1, f1⟩ := next_spec (n := 6) h (by omega) (by decide) (by decide)
  by_cases hw : w = 0
  · subst hw
    obtain ⟨t, μ2, ht, e2, s2, f2⟩ := pick_lst (xs := [D.tup [.int 0, .int 1], .tup [.int 1, .int 1], .tup [.int (-1), .int 1], .tup [.int 1, .int 2], .tup [.int 2, .int 3], .tup [.int (-3), .int 2], .tup [.int 5, .int 1]]) s1 (by omega) (by simp) (by simp)
    obtain ⟨q, rfl, hz⟩ : ∃ q : Rat, t = frD q ∧ Sz 181 q := by
      have one : ∀ (n d : Int), 0 < d → n.natAbs.gcd d.natAbs = 1 → n.natAbs < 8 → d.natAbs < 8 → ∃ q : Rat, D.tup [.int n, .int d] = frD q ∧ Sz 181 q := fun n d h1 h2 h3 h4 => by
        obtain ⟨q, e1, e2⟩ := mk_fr h1 h2
        refine ⟨q, by rw [frD, e1, e2], ?_⟩
        have h8 : (8 : Nat) ≤ 2 ^ 181 := by decide +kernel
        exact ⟨by rw [e1]; omega, by omega⟩
      simp only [List.mem_cons, List.not_mem_nil, or_false] at ht
      rcases ht with h | h | h | h | h | h | h <;> rw [h] <;> exact one _ _ (by decide) (by decide) (by decide) (by decide)
    refine ⟨q, μ2, fn_rt ?_, hz, s2.mono (by omega), f1.trans f2⟩
    unfold b__law_fraction
    have n1 : mSet 1 (mCall m__law_next [(mV 0), (mD (.int 6))] []) (startD 4 [.obj j]) μ = .nx [some (.fr (.obj j)), some (.fr (.int 0)), none, none] μ1 := by
      simp [mSet, mCall, evA, mV, mD, startD, Out.bind, Out.thn, dfr, en, e1]
    rw [seq_nx n1]
    refine seq_rt ?_
    rw [if_t (δ1 := [some (.fr (.obj j)), some (.fr (.int 0)), none, none]) (μ1 := μ1) (by simp [mTb, m2, Opn.ev, mD, OR.at, look, Out.bind, dfr, gEq, eqS, lift])]
    simp [mRet, mCall, evA, mV, mLst, mTup, mNeg, mD, Out.bind, Out.thn, dfr, down, ep, e2]
  · obtain ⟨u, μ2, e2, u1, u2, u3, s2, f2⟩ := prod_spec (ps := [2, 5, 11, 31]) (by decide) rfl s1 (by omega)
    obtain ⟨v, μ3, e3, v1, v2, v3, s3, f3⟩ := prod_spec (ps := [3, 7, 13, 29]) (by decide) rfl s2 (by omega)
    obtain ⟨t, μ4, e4, t0, t1, s4, f4⟩ := next_spec (n := 3) s3 (by omega) (by decide) (by decide)
    have cop : Nat.Coprime u v := u3 v fun p hp => by
      refine (v3 p fun q hq => ?_).symm
      simp only [List.mem_cons, List.not_mem_nil, or_false] at hp hq
      rcases hp with rfl | rfl | rfl | rfl <;> rcases hq with rfl | rfl | rfl | rfl <;> decide
    have e2' : m__law_product [.obj j, .lst [.int 2, .int 5, .int 11, .int 31]] μ1 = _ := e2
    have e3' : m__law_product [.obj j, .lst [.int 3, .int 7, .int 13, .int 29]] μ2 = _ := e3
    -- the pair as it stands behind the swap
    have fin : ∀ (a b : Nat), 1 ≤ b → a < 2 ^ 181 → b < 2 ^ 181 → Nat.Coprime a b →
        mIfS (mTb (m2 (gEq false) (.v 1) (.e (mD (.int 1))))) (mPar 2 3 (mV 3) (mV 2)) mPass [some (.fr (.obj j)), some (.fr (.int w)), some (.fr (.int u)), some (.fr (.int v))] μ3 = .nx [some (.fr (.obj j)), some (.fr (.int w)), some (.fr (.int a)), some (.fr (.int b))] μ3 →
        ∃ (q : Rat) (μ' : Mem), m__law_fraction [.obj j] μ = .ok (.fr (frD q)) μ' ∧ Sz 181 q ∧ Src μ' j (B + 20) ∧ Fr j μ μ' := by
      intro a b b1 al bl cab hsw
      have pre : ∀ d : D, mRet (mTup [(mIf (mTb (m2 (gEq false) (.e (mCall m__law_next [(mV 0), (mD (.int 3))] [])) (.e (mD (.int 0))))) (m2 gSub (.e (mD (.int 0))) (.v 2)) (mV 2)), (mV 3)]) [some (.fr (.obj j)), some (.fr (.int w)), some (.fr (.int a)), some (.fr (.int b))] μ3 = .rt (.fr d) μ4 → m__law_fraction [.obj j] μ = .ok (.fr d) μ4 := by
        intro d hd
        refine fn_rt ?_
        unfold b__law_fraction
        have n1 : mSet 1 (mCall m__law_next [(mV 0), (mD (.int 6))] []) (startD 4 [.obj j]) μ = .nx [some (.fr (.obj j)), some (.fr (.int w)), none, none] μ1 := by
          simp [mSet, mCall, evA, mV, mD, startD, Out.bind, Out.thn, dfr, en, e1]
        have n2 : mTb (m2 (gEq false) (.v 1) (.e (mD (.int 0)))) [some (.fr (.obj j)), some (.fr (.int w)), none, none] μ1 = .ok false [some (.fr (.obj j)), some (.fr (.int w)), none, none] μ1 := by
          simp [mTb, m2, Opn.ev, mD, OR.at, look, Out.bind, dfr, gEq, eqS, lift, hw]
        have n3 : mPar 2 3 (mCall m__law_product [(mV 0), (mLst [(mD (.int 2)), (mD (.int 5)), (mD (.int 11)), (mD (.int 31))])] []) (mCall m__law_product [(mV 0), (mLst [(mD (.int 3)), (mD (.int 7)), (mD (.int 13)), (mD (.int 29))])] []) [some (.fr (.obj j)), some (.fr (.int w)), none, none] μ1 = .nx [some (.fr (.obj j)), some (.fr (.int w)), some (.fr (.int u)), some (.fr (.int v))] μ3 := by
          simp [mPar, mCall, evA, mV, mLst, mD, Out.bind, Out.thn, dfr, down, e2', e3']
        rw [seq_nx n1, seq_nx (if_fp n2), seq_nx n3, seq_nx hsw]
        exact hd
      have fr := ((f1.trans f2).trans f3).trans f4
      by_cases ht : t = 0
      · obtain ⟨q, q1, q2⟩ := mk_fr (n := -(a : Int)) (d := b) (by omega) (by simpa using cab)
        refine ⟨q, μ4, pre _ ?_, ⟨by rw [q1]; simpa using al, by omega⟩, s4.mono (by omega), fr⟩
        simp [mRet, mTup, evA, mIf, mTb, m2, Opn.ev, mCall, mV, mD, OR.at, look, Out.bind, Out.thn, dfr, en, e4, gEq, eqS, lift, ht, FL.gSub, gInt, frD, q1, q2]
      · obtain ⟨q, q1, q2⟩ := mk_fr (n := (a : Int)) (d := b) (by omega) (by simpa using cab)
        refine ⟨q, μ4, pre _ ?_, ⟨by rw [q1]; simpa using al, by omega⟩, s4.mono (by omega), fr⟩
        simp [mRet, mTup, evA, mIf, mTb, m2, Opn.ev, mCall, mV, mD, OR.at, look, Out.bind, Out.thn, dfr, en, e4, gEq, eqS, lift, ht, FL.gSub, gInt, frD, q1, q2]
    by_cases hw1 : w = 1
    · refine fin v u u1 v2 u2 cop.symm ?_
      simp [mIfS, mTb, m2, Opn.ev, mD, OR.at, look, Out.bind, Out.thn, dfr, gEq, eqS, lift, hw1, mPar, mV]
    · refine fin u v v1 u2 v2 cop ?_
      simp [mIfS, mTb, m2, Opn.ev, mD, OR.at, look, Out.bind, Out.thn, dfr, gEq, eqS, lift, hw1, mPass]
/-! ### rows -/
def rowD (qs : List Rat) : D := .lst (qs.map frD)
def Row (qs : List Rat) : Prop := (∀ q ∈ qs, Sz 181 q) ∧ qs.length ≤ 6
def sumR (qs : List Rat) (s : Rat) : Rat := qs.foldl (fun a q => a + q) s
def proR (qs : List Rat) (s : Rat) : Rat := qs.foldl (fun a q => q * a) s
theorem sum_loop {t : D} {μ : Mem} : ∀ (qs : List Rat) (k e : Nat) (s : Rat) (s2 : Option FL.Slot), (∀ q ∈ qs, Sz k q) → Sz e s → e + (k + 1) * qs.length ≤ 4000 → k ≤ 4000 →
    ∃ s2', forD (turnD (tgV 2) (mSet 1 (mCall m_add [(mV 1), (mV 2)] []))) (qs.map frD) [some (.fr t), some (.fr (frD s)), s2] μ = .nx [some (.fr t), some (.fr (frD (sumR qs s))), s2'] μ ∧ Sz (e + (k + 1) * qs.length) (sumR qs s)
  | [], k, e, s, s2, _, hs, _, _ => ⟨s2, rfl, hs⟩
  | q :: qs, k, e, s, s2, hq, hs, he, hk => by
    rw [List.length_cons, Nat.mul_add, Nat.mul_one] at he
    have h1 := hq q (List.mem_cons_self ..)
    have e1 := add_spec (R := mBad) (μ := μ) hs h1 (by omega) hk
    obtain ⟨s2', e2, h2⟩ := sum_loop qs k (e + k + 1) (s + q) (some (.fr (frD q))) (fun p hp => hq p (List.mem_cons_of_mem _ hp)) (hs.add h1) (by omega) hk
    refine ⟨s2', ?_, by rw [List.length_cons, Nat.mul_add, Nat.mul_one, show e + ((k + 1) * qs.length + (k + 1)) = e + k + 1 + (k + 1) * qs.length by omega]; exact h2⟩
    have step : turnD (tgV 2) (mSet 1 (mCall m_add [(mV 1), (mV 2)] [])) (frD q) [some (.fr t), some (.fr (frD s)), s2] μ = .nx [some (.fr t), some (.fr (frD (s + q))), some (.fr (frD q))] μ := by
      simp [turnD, tgV, mSet, mCall, evA, mV, Out.bind, Out.thn, dfr, eAdd, e1]
    rw [List.map_cons, forD_cons, step]
    exact e2
theorem sum_spec {qs : List Rat} {k : Nat} {μ : Mem} (hq : ∀ q ∈ qs, Sz k q) (hl : qs.length ≤ 6) (hk : k ≤ 600) : m__law_sum [rowD qs] μ = .ok (.fr (frD (sumR qs 0))) μ ∧ Sz (1 + (k + 1) * 6) (sumR qs 0) := by
  have hb : (k + 1) * qs.length ≤ (k + 1) * 6 := Nat.mul_le_mul_left _ hl
  obtain ⟨s2, e, h⟩ := sum_loop (t := rowD qs) (μ := μ) qs k 1 0 none hq ⟨by decide, by decide⟩ (by omega) (by omega)
  refine ⟨fn_rt ?_, h.mono (by omega)⟩
  unfold b__law_sum
  have f0 : frD 0 = .tup [.int 0, .int 1] := rfl
  have n1 : mSet 1 (mTup [(mD (.int 0)), (mD (.int 1))]) (startD 3 [rowD qs]) μ = .nx [some (.fr (rowD qs)), some (.fr (frD 0)), none] μ := by
    simp [mSet, mTup, evA, mD, startD, Out.bind, Out.thn, dfr, f0]
  have n2 := for_of (mi := mIt (mV 0)) (δ := [some (.fr (rowD qs)), some (.fr (frD 0)), none]) (μ := μ) (ds := qs.map frD) (δ1 := [some (.fr (rowD qs)), some (.fr (frD 0)), none]) (μ1 := μ) (by simp [mIt, mV, Out.bind, dfr, itA, rowD]) e
  rw [seq_nx n1, seq_nx n2]
  simp [mRet, mV, Out.thn, dfr]
theorem pro_loop {t : D} {μ : Mem} : ∀ (qs : List Rat) (k e : Nat) (s : Rat) (s2 : Option FL.Slot), (∀ q ∈ qs, Sz k q) → Sz e s → e + k * qs.length ≤ 4000 → k ≤ 4000 →
    ∃ s2', forD (turnD (tgV 2) (mSet 1 (mCall m_multiply [(mV 2), (mV 1)] []))) (qs.map frD) [some (.fr t), some (.fr (frD s)), s2] μ = .nx [some (.fr t), some (.fr (frD (proR qs s))), s2'] μ ∧ Sz (e + k * qs.length) (proR qs s)
  | [], k, e, s, s2, _, hs, _, _ => ⟨s2, rfl, hs⟩
  | q :: qs, k, e, s, s2, hq, hs, he, hk => by
    rw [List.length_cons, Nat.mul_add, Nat.mul_one] at he
    have h1 := hq q (List.mem_cons_self ..)
    have e1 := mul_spec (R := mBad) (μ := μ) h1 hs hk (by omega)
    obtain ⟨s2', e2, h2⟩ := pro_loop qs k (k + e) (q * s) (some (.fr (frD q))) (fun p hp => hq p (List.mem_cons_of_mem _ hp)) (h1.mul hs) (by omega) hk
    refine ⟨s2', ?_, by rw [List.length_cons, Nat.mul_add, Nat.mul_one, show e + (k * qs.length + k) = k + e + k * qs.length by omega]; exact h2⟩
    have step : turnD (tgV 2) (mSet 1 (mCall m_multiply [(mV 2), (mV 1)] [])) (frD q) [some (.fr t), some (.fr (frD s)), s2] μ = .nx [some (.fr t), some (.fr (frD (q * s))), some (.fr (frD q))] μ := by
      simp [turnD, tgV, mSet, mCall, evA, mV, Out.bind, Out.thn, dfr, eMul, e1]
    rw [List.map_cons, forD_cons, step]
    exact e2
theorem pro_spec {qs : List Rat} {k : Nat} {μ : Mem} (hq : ∀ q ∈ qs, Sz k q) (hl : qs.length ≤ 6) (hk : k ≤ 600) : m__law_all_product [rowD qs] μ = .ok (.fr (frD (proR qs 1))) μ := by
  have hb : k * qs.length ≤ k * 6 := Nat.mul_le_mul_left _ hl
  obtain ⟨s2, e, h⟩ := pro_loop (t := rowD qs) (μ := μ) qs k 1 1 none hq ⟨by decide, by decide⟩ (by omega) (by omega)
  refine fn_rt ?_
  unfold b__law_all_product
  have f0 : frD 1 = .tup [.int 1, .int 1] := rfl
  have n1 : mSet 1 (mTup [(mD (.int 1)), (mD (.int 1))]) (startD 3 [rowD qs]) μ = .nx [some (.fr (rowD qs)), some (.fr (frD 1)), none] μ := by
    simp [mSet, mTup, evA, mD, startD, Out.bind, Out.thn, dfr, f0]
  have n2 := for_of (mi := mIt (mV 0)) (δ := [some (.fr (rowD qs)), some (.fr (frD 1)), none]) (μ := μ) (ds := qs.map frD) (δ1 := [some (.fr (rowD qs)), some (.fr (frD 1)), none]) (μ1 := μ) (by simp [mIt, mV, Out.bind, dfr, itA, rowD]) e
  rw [seq_nx n1, seq_nx n2]
  simp [mRet, mV, Out.thn, dfr]
theorem erase_perm {α : Type} : ∀ (l : List α) (i : Nat) (x : α), l[i]? = some x → (x :: l.eraseIdx i).Perm l
  | [], _, _, h => by simp at h
  | a :: l, 0, x, h => by simp at h; subst h; exact .refl _
  | a :: l, i + 1, x, h => by
    have ih := erase_perm l i x (by simpa using h)
    show (x :: a :: l.eraseIdx i).Perm (a :: l)
    exact (List.Perm.swap a x _).trans (ih.cons a)
theorem map_erase {α β : Type} (f : α → β) : ∀ (l : List α) (i : Nat), (l.map f).eraseIdx i = (l.eraseIdx i).map f
  | [], _ => rfl
  | a :: l, 0 => rfl
  | a :: l, i + 1 => by
    show f a :: (l.map f).eraseIdx i = f a :: (l.eraseIdx i).map f
    rw [map_erase f l i]
theorem erase_len {α : Type} : ∀ (l : List α) (i : Nat), i < l.length → (l.eraseIdx i).length + 1 = l.length
  | [], _, h => by simp at h
  | a :: l, 0, _ => rfl
  | a :: l, i + 1, h => by
    have := erase_len l i (by simpa using h)
    show ((l.eraseIdx i).length + 1) + 1 = l.length + 1
    rw [this]
theorem turn_loop {j : Nat} {t : D} : ∀ (n : Nat) (rest found : List Rat) (μ : Mem) (B : Int), rest.length = n → found.length + n ≤ 1000 → Src μ j B → B + n + 10 ≤ 2 ^ 40 →
    ∃ (out : List Rat) (μ' : Mem), mWhile (mTb (m2 (gEq true) (.v 2) (.e (mLst [])))) (mEx (mMut "list" gAppend (.v 3) [(mMut "list" gPopAt (.v 2) [(mCall m__law_next [(mV 0), (mC gLen [(.v 2)])] [])])])) [some (.fr (.obj j)), some (.fr t), some (.own (.lst (rest.map frD))), some (.own (.lst (found.map frD)))] μ =
      .nx [some (.fr (.obj j)), some (.fr t), some (.own (.lst [])), some (.own (.lst (out.map frD)))] μ' ∧ out.Perm (found ++ rest) ∧ Src μ' j (B + n) ∧ Fr j μ μ'
  | 0, rest, found, μ, B, hr, _, hs, _ => by
    have hr' : rest = [] := List.length_eq_zero_iff.mp hr
    subst hr'
    refine ⟨found, μ, ?_, by simp, by simpa using hs, .refl⟩
    have e0 := eq_frs_nil true []
    rw [mWhile_eq]
    simp only [List.map_nil] at e0 ⊢
    simp [mTb, m2, Opn.ev, mLst, evA, OR.at, look, Out.bind, Out.thn, dfr, down, lift, e0]
  | n + 1, rest, found, μ, B, hr, hf, hs, hB => by
    have hne : rest ≠ [] := fun z => by rw [z] at hr; simp at hr
    have e0 := eq_frs_nil true rest
    rw [decide_eq_false hne] at e0
    obtain ⟨r, μ1, e1, r0, r1, s1, f1⟩ := next_spec (n := (rest.length : Int)) hs (by omega) (by omega) (by omega)
    have hrn : r.toNat < rest.length := by omega
    have hx : rest[r.toNat]? = some rest[r.toNat] := List.getElem?_eq_getElem hrn
    have hp := erase_perm rest r.toNat _ hx
    have hlen := erase_len rest r.toNat hrn
    obtain ⟨out, μ2, e2, h1, h2, h3⟩ := turn_loop n (rest.eraseIdx r.toNat) (found ++ [rest[r.toNat]]) μ1 (B + 1) (by omega) (by rw [List.length_append, List.length_singleton]; omega) s1 (by omega)
    refine ⟨out, μ2, ?_, h1.trans ?_, h2.mono (by omega), f1.trans h3⟩
    · have hi : ixN rest.length r = some r.toNat := by unfold ixN; rw [if_pos r0, if_pos r1]
      have hb : -9223372036854775808 ≤ r ∧ r < 9223372036854775808 := by omega
      have hfl : found.length < 16777216 := by omega
      rw [mWhile_eq]
      have c1 : mTb (m2 (gEq true) (.v 2) (.e (mLst []))) [some (.fr (.obj j)), some (.fr t), some (.own (.lst (rest.map frD))), some (.own (.lst (found.map frD)))] μ = .ok true [some (.fr (.obj j)), some (.fr t), some (.own (.lst (rest.map frD))), some (.own (.lst (found.map frD)))] μ := by
        simp [mTb, m2, Opn.ev, mLst, evA, OR.at, look, Out.bind, dfr, down, lift, e0]
      have c2 : mEx (mMut "list" gAppend (.v 3) [(mMut "list" gPopAt (.v 2) [(mCall m__law_next [(mV 0), (mC gLen [(.v 2)])] [])])]) [some (.fr (.obj j)), some (.fr t), some (.own (.lst (rest.map frD))), some (.own (.lst (found.map frD)))] μ = .nx [some (.fr (.obj j)), some (.fr t), some (.own (.lst ((rest.eraseIdx r.toNat).map frD))), some (.own (.lst ((found ++ [rest[r.toNat]]).map frD)))] μ1 := by
        simp [mEx, mMut, Opn.ev, recv, ownTy, evA, mCall, mV, mC, evs, OR.at, OR.ats, look, Out.bind, Out.thn, dfr, down, gLen, gLen1, lift, en, e1, gPopAt, hb, hi, hx, gAppend, hfl, map_erase]
      rw [c1]
      show (mEx _ _ _).loop _ = _
      rw [c2]
      exact e2
    · rw [List.append_assoc]
      exact List.Perm.append_left found hp
theorem turn_spec {j : Nat} {qs : List Rat} {μ : Mem} {B : Int} (hl : qs.length ≤ 6) (hs : Src μ j B) (hB : B + 100 ≤ 2 ^ 40) :
    ∃ (out : List Rat) (μ' : Mem), m__law_turned [.obj j, rowD qs] μ = .ok (.fr (rowD out)) μ' ∧ out.Perm qs ∧ Src μ' j (B + 6) ∧ Fr j μ μ' := by
  obtain ⟨out, μ1, e, h1, h2, h3⟩ := turn_loop (j := j) (t := rowD qs) qs.length qs [] μ B rfl (by simp; omega) hs (by omega)
  refine ⟨out, μ1, fn_rt ?_, by simpa using h1, h2.mono (by omega), h3⟩
  unfold b__law_turned
  have n1 : mPar 2 3 (mC gList [(.v 1)]) (mLst []) (startD 4 [.obj j, rowD qs]) μ = .nx [some (.fr (.obj j)), some (.fr (rowD qs)), some (.own (.lst (qs.map frD))), some (.own (.lst []))] μ := by
    simp [mPar, mC, evs, Opn.ev, OR.at, OR.ats, look, startD, Out.bind, Out.thn, dfr, gList, rowD, lift, mLst, evA]
  simp only [List.map_nil] at e
  rw [seq_nx n1, seq_nx e]
  simp [mRet, mV, Out.thn, down, rowD]
/-- the product of the denominators -/
def denP (qs : List Rat) (u : Nat) : Nat := qs.foldl (fun a q => a * q.den) u
theorem denP_dvd : ∀ (qs : List Rat) (u : Nat), u ∣ denP qs u
  | [], u => Nat.dvd_refl u
  | q :: qs, u => Nat.dvd_trans (Nat.dvd_mul_right u q.den) (denP_dvd qs (u * q.den))
theorem den_dvd : ∀ (qs : List Rat) (u : Nat), ∀ q ∈ qs, q.den ∣ denP qs u
  | p :: qs, u, q, h => by
    rcases List.mem_cons.mp h with rfl | h
    · exact Nat.dvd_trans (Nat.dvd_mul_left q.den u) (denP_dvd qs _)
    · exact den_dvd qs _ q h
theorem denP_pos : ∀ (qs : List Rat) (u : Nat), 0 < u → 0 < denP qs u
  | [], _, h => h
  | q :: qs, u, h => denP_pos qs _ (Nat.mul_pos h q.den_pos)
theorem denP_lt : ∀ (qs : List Rat) (u e : Nat), (∀ q ∈ qs, Sz 181 q) → u < 2 ^ e → denP qs u < 2 ^ (e + 181 * qs.length)
  | [], u, e, _, h => h
  | q :: qs, u, e, hq, h => by
    have := denP_lt qs (u * q.den) (e + 181) (fun p hp => hq p (List.mem_cons_of_mem _ hp)) (mul_lt_pow h (hq q (List.mem_cons_self ..)).2)
    rw [List.length_cons, show e + 181 * (qs.length + 1) = e + 181 + 181 * qs.length by omega]
    exact this
def above (U : Nat) (qs : List Rat) : List Int := qs.map fun q => q.num * ((U : Int) / (q.den : Int))
theorem frac_over {q : Rat} {U : Nat} (hd : q.den ∣ U) (hU : 0 < U) : Rat.divInt (q.num * ((U : Int) / (q.den : Int))) U = q := by
  have h1 : ((U : Int) / (q.den : Int)) * (q.den : Int) = U := Int.ediv_mul_cancel (Int.natCast_dvd_natCast.mpr hd)
  have h2 : (U : Int) / (q.den : Int) ≠ 0 := fun z => by rw [z] at h1; simp at h1; omega
  have h3 := Rat.divInt_mul_right (n := q.num) (d := (q.den : Int)) h2
  rw [Int.mul_comm (q.den : Int), h1, Rat.num_divInt_den] at h3
  exact h3
theorem sum_over {U : Nat} (hU : 0 < U) : ∀ (qs : List Rat), (∀ q ∈ qs, q.den ∣ U) → ∀ (s : Rat) (a : Int), s = Rat.divInt a U → sumR qs s = Rat.divInt (a + (above U qs).sum) U
  | [], _, s, a, h => by simpa [sumR, above] using h
  | q :: qs, hq, s, a, h => by
    have hu : (U : Int) ≠ 0 := by omega
    have e1 : s + q = Rat.divInt (a + q.num * ((U : Int) / (q.den : Int))) U := by
      rw [h, ← frac_over (hq q (List.mem_cons_self ..)) hU]
      rw [Rat.divInt_add_divInt _ _ hu hu, frac_over (hq q (List.mem_cons_self ..)) hU, ← Int.add_mul, Rat.divInt_mul_right hu]
    have := sum_over hU qs (fun p hp => hq p (List.mem_cons_of_mem _ hp)) (s + q) _ e1
    show sumR qs (s + q) = _
    rw [this]
    simp only [above, List.map_cons, List.sum_cons]
    rw [Int.add_assoc]
theorem total_eq {U : Nat} (hU : 0 < U) {qs : List Rat} (hq : ∀ q ∈ qs, q.den ∣ U) : (sumR qs 0).num * (U : Int) = (above U qs).sum * ((sumR qs 0).den : Int) := by
  have h := sum_over hU qs hq 0 0 (by rw [Rat.zero_divInt])
  rw [Int.zero_add] at h
  have h2 : Rat.divInt (sumR qs 0).num ((sumR qs 0).den : Int) = Rat.divInt (above U qs).sum U := by rw [Rat.num_divInt_den]; exact h
  exact (Rat.divInt_eq_divInt_iff (by have := (sumR qs 0).den_pos; omega) (by omega)).mp h2
theorem less_over {U : Nat} (hU : 0 < U) {p q : Rat} (hp : p.den ∣ U) (hq : q.den ∣ U) : decide (p < q) = decide (p.num * ((U : Int) / (p.den : Int)) < q.num * ((U : Int) / (q.den : Int))) := by
  have h1 : ((U : Int) / (p.den : Int)) * (p.den : Int) = U := Int.ediv_mul_cancel (Int.natCast_dvd_natCast.mpr hp)
  have h2 : ((U : Int) / (q.den : Int)) * (q.den : Int) = U := Int.ediv_mul_cancel (Int.natCast_dvd_natCast.mpr hq)
  have p0 : 0 < (p.den : Int) := by have := p.den_pos; omega
  have q0 : 0 < (q.den : Int) := by have := q.den_pos; omega
  generalize (U : Int) / (p.den : Int) = x at h1
  generalize (U : Int) / (q.den : Int) = y at h2
  have hu : (0 : Int) < U := by omega
  have x0 : 0 < x := by
    rcases Int.lt_trichotomy x 0 with h | h | h
    · have := Int.mul_neg_of_neg_of_pos h p0; omega
    · rw [h] at h1; simp at h1; omega
    · exact h
  have y0 : 0 < y := by
    rcases Int.lt_trichotomy y 0 with h | h | h
    · have := Int.mul_neg_of_neg_of_pos h q0; omega
    · rw [h] at h2; simp at h2; omega
    · exact h
  have key : (p.num * (q.den : Int) < q.num * (p.den : Int)) ↔ (p.num * x < q.num * y) := by
    have e1 : p.num * x * ((p.den : Int) * (q.den : Int)) = p.num * (q.den : Int) * U := by rw [← h1]; ac_rfl
    have e2 : q.num * y * ((p.den : Int) * (q.den : Int)) = q.num * (p.den : Int) * U := by rw [← h2]; ac_rfl
    have d0 : 0 < (p.den : Int) * (q.den : Int) := Int.mul_pos p0 q0
    constructor
    · intro h
      have := Int.mul_lt_mul_of_pos_right h hu
      rw [← e1, ← e2] at this
      exact Int.lt_of_mul_lt_mul_right this (Int.le_of_lt d0)
    · intro h
      have := Int.mul_lt_mul_of_pos_right h d0
      rw [e1, e2] at this
      exact Int.lt_of_mul_lt_mul_right this (Int.le_of_lt hu)
  by_cases h : p < q
  · rw [decide_eq_true h, decide_eq_true (key.mp ((Rat.lt_iff p q).mp h))]
  · rw [decide_eq_false h, decide_eq_false fun z => h ((Rat.lt_iff p q).mpr (key.mpr z))]
theorem den_loop {t : D} {μ : Mem} : ∀ (qs : List Rat) (u e : Nat) (s2 : Option FL.Slot), (∀ q ∈ qs, Sz 181 q) → 0 < u → u < 2 ^ e → e + 181 * qs.length ≤ 4000 →
    ∃ s2', forD (turnD (tgV 2) (mSet 1 (m2 gMulA (.v 1) (.e (m2 gIxL (.v 2) (.e (mD (.int 1)))))))) (qs.map frD) [some (.fr t), some (.fr (.int u)), s2] μ = .nx [some (.fr t), some (.fr (.int (denP qs u : Nat))), s2'] μ
  | [], u, e, s2, _, _, _, _ => ⟨s2, rfl⟩
  | q :: qs, u, e, s2, hq, h0, hu, he => by
    rw [List.length_cons] at he
    have h1 := hq q (List.mem_cons_self ..)
    have l1 := log_den h1 (by decide)
    have l2 : u.log2 < 4001 := by
      have := log_pos (n := (u : Int)) (k := e) (by simpa using hu) (by omega)
      simpa using this
    have hm : u.log2 + q.den.log2 < 1000000 := by omega
    obtain ⟨s2', e2⟩ := den_loop (t := t) (μ := μ) qs (u * q.den) (e + 181) (some (.fr (frD q))) (fun p hp => hq p (List.mem_cons_of_mem _ hp)) (Nat.mul_pos h0 q.den_pos) (mul_lt_pow hu h1.2) (by omega)
    refine ⟨s2', ?_⟩
    have step : turnD (tgV 2) (mSet 1 (m2 gMulA (.v 1) (.e (m2 gIxL (.v 2) (.e (mD (.int 1))))))) (frD q) [some (.fr t), some (.fr (.int u)), s2] μ = .nx [some (.fr t), some (.fr (.int (u * q.den : Nat))), some (.fr (frD q))] μ := by
      simp [turnD, tgV, mSet, m2, Opn.ev, mD, OR.at, look, Out.bind, Out.thn, dfr, frD, gIxL, at21, gMulA, gMul, gInt, lift, hm]
    rw [List.map_cons, forD_cons, step]
    exact e2
theorem above_loop {t : D} {U : Nat} {μ : Mem} (hU : U < 2 ^ 1100) : ∀ (qs : List Rat) (acc : List Int), (∀ q ∈ qs, Sz 181 q ∧ q.den ∣ U) → 0 < U → acc.length + qs.length ≤ 100 →
    lcD (tgV 2) mYes (m2 gMulA (.e (m2 gIxL (.v 2) (.e (mD (.int 0))))) (.e (m2 gDiv (.v 1) (.e (m2 gIxL (.v 2) (.e (mD (.int 1)))))))) [2] (qs.map frD) (acc.map .int) [some (.fr t), some (.fr (.int U)), none] μ = .ok (.own (.lst ((acc ++ above U qs).map .int))) [some (.fr t), some (.fr (.int U)), none] μ
  | [], acc, _, _, _ => by simp [lcD, above]
  | q :: qs, acc, hq, h0, hl => by
    rw [List.length_cons] at hl
    obtain ⟨h1, h2⟩ := hq q (List.mem_cons_self ..)
    have l1 := log_den h1 (by decide)
    have l0 := log_pos h1.1 (by decide)
    have d0 := q.den_pos
    have hx : ((U : Int) / (q.den : Int)).natAbs < 2 ^ 1100 := by
      have : ((U : Int) / (q.den : Int)).natAbs ≤ U := by
        have := Int.natAbs_ediv_le_natAbs (U : Int) (q.den : Int)
        simpa using this
      omega
    have l2 := log_pos hx (by decide)
    have hm : q.num.natAbs.log2 + ((U : Int) / (q.den : Int)).natAbs.log2 < 1000000 := by omega
    have hd : q.den.log2 < 9000 := by omega
    have ha : acc.length < 16777216 := by omega
    have ih := above_loop (t := t) (μ := μ) hU qs (acc ++ [q.num * ((U : Int) / (q.den : Int))]) (fun p hp => hq p (List.mem_cons_of_mem _ hp)) h0 (by rw [List.length_append, List.length_singleton]; omega)
    have step : lcD (tgV 2) mYes (m2 gMulA (.e (m2 gIxL (.v 2) (.e (mD (.int 0))))) (.e (m2 gDiv (.v 1) (.e (m2 gIxL (.v 2) (.e (mD (.int 1)))))))) [2] ((q :: qs).map frD) (acc.map .int) [some (.fr t), some (.fr (.int U)), none] μ = lcD (tgV 2) mYes (m2 gMulA (.e (m2 gIxL (.v 2) (.e (mD (.int 0))))) (.e (m2 gDiv (.v 1) (.e (m2 gIxL (.v 2) (.e (mD (.int 1)))))))) [2] (qs.map frD) ((acc ++ [q.num * ((U : Int) / (q.den : Int))]).map .int) [some (.fr t), some (.fr (.int U)), none] μ := by
      rw [List.map_cons, lcD_cons]
      simp [tgV, mYes, Out.cut, Out.bind, m2, Opn.ev, mD, OR.at, look, dfr, frD, gIxL, at20, at21, gDiv, gInt, d0, hd, gMulA, gMul, hm, lift, ha, wipeD]
    rw [step, ih]
    simp [above]
theorem shared_spec {qs : List Rat} {μ : Mem} (hq : Row qs) : m__law_shared [rowD qs] μ = .ok (.fr (.tup [.int (denP qs 1 : Nat), .lst ((above (denP qs 1) qs).map .int)])) μ ∧ denP qs 1 < 2 ^ 1100 := by
  obtain ⟨hq, hl⟩ := hq
  obtain ⟨s2, e⟩ := den_loop (t := rowD qs) (μ := μ) qs 1 1 none hq (by decide) (by decide) (by omega)
  have hU : denP qs 1 < 2 ^ 1100 := Nat.lt_of_lt_of_le (denP_lt qs 1 1 hq (by decide)) (Nat.pow_le_pow_right (by decide) (by omega))
  have e2 := above_loop (t := rowD qs) (μ := μ) hU qs [] (fun q h => ⟨hq q h, den_dvd qs 1 q h⟩) (denP_pos qs 1 (by decide)) (by simp; omega)
  generalize denP qs 1 = U at e e2 hU
  refine ⟨fn_rt ?_, hU⟩
  unfold b__law_shared
  have n1 : mSet 1 (mD (.int 1)) (startD 3 [rowD qs]) μ = .nx [some (.fr (rowD qs)), some (.fr (.int 1)), none] μ := by simp [mSet, mD, startD, Out.thn]
  have n2 := for_of (mi := mIt (mV 0)) (δ := [some (.fr (rowD qs)), some (.fr (.int 1)), none]) (μ := μ) (ds := qs.map frD) (δ1 := [some (.fr (rowD qs)), some (.fr (.int 1)), none]) (μ1 := μ) (by simp [mIt, mV, Out.bind, dfr, itA, rowD]) e
  rw [seq_nx n1, seq_nx n2]
  simp only [List.map_nil, List.nil_append] at e2
  have e3 : mLc (mIt (mV 0)) (tgV 2) mYes (m2 gMulA (.e (m2 gIxL (.v 2) (.e (mD (.int 0))))) (.e (m2 gDiv (.v 1) (.e (m2 gIxL (.v 2) (.e (mD (.int 1)))))))) [2] [some (.fr (rowD qs)), some (.fr (.int U)), s2] μ = .ok (.own (.lst ((above U qs).map .int))) [some (.fr (rowD qs)), some (.fr (.int U)), none] μ := by
    unfold mLc
    have : mIt (mV 0) [some (.fr (rowD qs)), some (.fr (.int U)), s2] μ = .ok (qs.map frD) [some (.fr (rowD qs)), some (.fr (.int U)), s2] μ := by simp [mIt, mV, Out.bind, dfr, itA, rowD]
    rw [this, Out.bind_ok]
    exact e2
  refine ret_of (δ1 := [some (.fr (rowD qs)), some (.fr (.int U)), none]) ?_
  simp [mTup, evA, mV, Out.bind, dfr, down, e3]
theorem muls_loop {p : Rat} (hp : Sz 181 p) {a0 a1 a2 a3 a4 a5 a7 a8 : Option FL.Slot} {μ : Mem} : ∀ (qs acc : List Rat), (∀ q ∈ qs, Sz 181 q) → acc.length + qs.length ≤ 100 →
    lcD (tgV 9) mYes (mCall m_multiply [(mV 6), (mV 9)] []) [9] (qs.map frD) (acc.map frD) [a0, a1, a2, a3, a4, a5, some (.fr (frD p)), a7, a8, none] μ = .ok (.own (.lst ((acc ++ qs.map (p * ·)).map frD))) [a0, a1, a2, a3, a4, a5, some (.fr (frD p)), a7, a8, none] μ
  | [], acc, _, _ => by simp [lcD]
  | q :: qs, acc, hq, hl => by
    rw [List.length_cons] at hl
    have e1 := mul_spec (R := mBad) (μ := μ) hp (hq q (List.mem_cons_self ..)) (by decide) (by decide)
    have ih := muls_loop hp (a0 := a0) (a1 := a1) (a2 := a2) (a3 := a3) (a4 := a4) (a5 := a5) (a7 := a7) (a8 := a8) (μ := μ) qs (acc ++ [p * q]) (fun r hr => hq r (List.mem_cons_of_mem _ hr)) (by rw [List.length_append, List.length_singleton]; omega)
    have ha : acc.length < 16777216 := by omega
    have step : lcD (tgV 9) mYes (mCall m_multiply [(mV 6), (mV 9)] []) [9] ((q :: qs).map frD) (acc.map frD) [a0, a1, a2, a3, a4, a5, some (.fr (frD p)), a7, a8, none] μ = lcD (tgV 9) mYes (mCall m_multiply [(mV 6), (mV 9)] []) [9] (qs.map frD) ((acc ++ [p * q]).map frD) [a0, a1, a2, a3, a4, a5, some (.fr (frD p)), a7, a8, none] μ := by
      rw [List.map_cons, lcD_cons]
      simp [tgV, mYes, Out.cut, Out.bind, mCall, evA, mV, dfr, eMul, e1, ha, wipeD]
    rw [step, ih]
    simp
theorem sumR_mul (p : Rat) : ∀ (qs : List Rat) (s : Rat), sumR (qs.map (p * ·)) (p * s) = p * sumR qs s
  | [], s => rfl
  | q :: qs, s => by
    show sumR (qs.map (p * ·)) (p * s + p * q) = p * sumR qs (s + q)
    rw [← Rat.mul_add]
    exact sumR_mul p qs (s + q)
theorem sumR_perm {xs ys : List Rat} (h : xs.Perm ys) (s : Rat) : sumR xs s = sumR ys s := h.foldl_eq' (fun x _ y _ z => by grind) s
theorem proR_perm {xs ys : List Rat} (h : xs.Perm ys) (s : Rat) : proR xs s = proR ys s := h.foldl_eq' (fun x _ y _ z => by grind) s
theorem repr_bl (b : Bool) : gRepr [.bl b] = some (.fr (.str (PyData.shown (.bool b)).cps.toList)) := by
  have h : (PyData.shown (.bool b)).length ≤ 16777216 := by cases b <;> decide +kernel
  simp [gRepr, D.py, PyData.showable, PyData.hasDict, PyData.depth, h]
theorem fr_at {qs : List Rat} {n : Nat} (h : n < qs.length) : L2.atI (qs.map frD) (n : Int) = some (frD qs[n]) := by
  unfold L2.atI ixN
  simp [h]
theorem above_at {qs : List Rat} {U n : Nat} (h : n < qs.length) : L2.atI ((above U qs).map D.int) (n : Int) = some (.int (qs[n].num * ((U : Int) / (qs[n].den : Int)))) := by
  unfold L2.atI ixN above
  simp [h]
theorem less_turn {qs : List Rat} {U : Nat} (hq : ∀ q ∈ qs, Sz 181 q ∧ q.den ∣ U) (hU : 0 < U) {n k : Nat} (hn : n < qs.length) (hk : k < qs.length) {a0 a2 a4 a5 a6 a8 a9 : Option FL.Slot} {μ : Mem} :
    turnD (tgV 8) (mIfS (mTb (m2 (gEq true) (.e (mC gRepr [(.e (mCall m_is_less [(m2 gIxL (.v 1) (.v 7)), (m2 gIxL (.v 1) (.v 8))] []))])) (.e (mC gRepr [(.e (m2 gLt (.e (m2 gIxL (.v 3) (.v 7))) (.e (m2 gIxL (.v 3) (.v 8)))))])))) (mRet (mD (.bl false))) mPass) (.int k) [a0, some (.fr (rowD qs)), a2, some (.fr (.lst ((above U qs).map .int))), a4, a5, a6, some (.fr (.int n)), a8, a9] μ =
      .nx [a0, some (.fr (rowD qs)), a2, some (.fr (.lst ((above U qs).map .int))), a4, a5, a6, some (.fr (.int n)), some (.fr (.int k)), a9] μ := by
  obtain ⟨z1, d1⟩ := hq qs[n] (List.getElem_mem hn)
  obtain ⟨z2, d2⟩ := hq qs[k] (List.getElem_mem hk)
  have e1 := less_spec (R := mBad) (μ := μ) z1 z2 (by decide) (by decide)
  have e2 := less_over hU d1 d2
  show mIfS _ _ _ [a0, some (.fr (rowD qs)), a2, some (.fr (.lst ((above U qs).map .int))), a4, a5, a6, some (.fr (.int n)), some (.fr (.int k)), a9] μ = _
  refine if_fp ?_
  have g1 := fr_at hn
  have g2 := fr_at hk
  have g3 := above_at (U := U) hn
  have g4 := above_at (U := U) hk
  simp [mTb, m2, Opn.ev, mC, evs, mCall, evA, OR.at, OR.ats, look, Out.bind, dfr, rowD, gIxL, g1, g2, g3, g4, lift, eLess, e1, repr_bl, gLt, gLtI, gInt, ← e2, gEq, eqS]
theorem row_bits {qs : List Rat} {U : Nat} {tt : Rat} (zS : Sz (1 + (181 + 1) * 6) tt) (hU : U < 2 ^ 1100) (tot : tt.num * U = (above U qs).sum * tt.den) :
    tt.num.natAbs.log2 + U.log2 < 1000000 ∧ (above U qs).sum.natAbs.log2 + tt.den.log2 < 1000000 := by
  have lU := log_pos (n := (U : Int)) (k := 1100) (by simpa using hU) (by decide)
  have lt := log_pos zS.1 (by decide)
  have ltd := log_den zS (by decide)
  have e1 : ((above U qs).sum * (tt.den : Int)).natAbs < 2 ^ (1 + (181 + 1) * 6 + 1100) := by
    rw [← tot, Int.natAbs_mul]
    exact mul_lt_pow zS.1 (by simpa using hU)
  have e2 : (above U qs).sum.natAbs ≤ ((above U qs).sum * (tt.den : Int)).natAbs := by
    rw [Int.natAbs_mul]
    exact Nat.le_mul_of_pos_right _ (by have := tt.den_pos; simpa using this)
  have lA := log_pos (Nat.lt_of_le_of_lt e2 e1) (by decide)
  clear hU e1
  simp only [Int.natAbs_natCast] at lU
  exact ⟨by omega, by omega⟩

theorem range_len {o : Opn} {δ : FL.Loc} {μ : Mem} {n : Nat} {rs : List OR} {μ1 : Mem} (e1 : evs [o] δ μ = .ok rs δ μ1) (e2 : OR.ats δ μ1 rs = some [.int n]) (h : n ≤ 6) : mRange1 o δ μ = .ok (rangeD 0 n) δ μ1 := by
  have c : -(2 ^ 62) ≤ (n : Int) ∧ (n : Int) < 2 ^ 62 := ⟨by omega, by omega⟩
  unfold mRange1
  rw [e1, Out.bind_ok, e2]
  exact if_pos c

theorem forD_st {α : Type} {g : D → MS} {s : α → FL.Loc} {μ : Mem} : ∀ {ds : List D}, (∀ d ∈ ds, ∀ a, ∃ a', g d (s a) μ = .nx (s a') μ) → ∀ a, ∃ a', forD g ds (s a) μ = .nx (s a') μ
  | [], _, a => ⟨a, rfl⟩
  | d :: ds, h, a => by
    obtain ⟨a1, e1⟩ := h d (List.mem_cons_self ..) a
    obtain ⟨a2, e2⟩ := forD_st (s := s) (fun d hd => h d (List.mem_cons_of_mem _ hd)) a1
    refine ⟨a2, ?_⟩
    rw [forD_cons, e1]
    exact e2
def stR (j : Nat) (qs : List Rat) (U : Nat) (tt : Rat) (far : List Rat) (p : Rat) (a : Option FL.Slot × Option FL.Slot) : FL.Loc :=
  [some (.fr (.obj j)), some (.fr (rowD qs)), some (.fr (.int U)), some (.fr (.lst ((above U qs).map .int))), some (.fr (frD tt)), some (.fr (rowD far)), some (.fr (frD p)), a.1, a.2, none]
theorem turn7 {j U : Nat} {qs far : List Rat} {tt p : Rat} {a : Option FL.Slot × Option FL.Slot} {d : D} {m : MS} {μ : Mem} : turnD (tgV 7) m d (stR j qs U tt far p a) μ = m (stR j qs U tt far p (some (.fr d), a.2)) μ := rfl
theorem row_right {qs : List Rat} {j : Nat} {μ : Mem} {B : Int} (hq : Row qs) (h0 : qs ≠ []) (hs : Src μ j B) (hB : B + 200 ≤ 2 ^ 40) :
    ∃ μ', m__law_row_right [.obj j, rowD qs] μ = .ok (.fr (.bl true)) μ' ∧ Src μ' j (B + 10) ∧ Fr j μ μ' := by
  obtain ⟨eSh, hU⟩ := shared_spec (μ := μ) hq
  have U0 := denP_pos qs 1 (by decide)
  have dv := den_dvd qs 1
  have tot := total_eq U0 dv
  obtain ⟨eS, zS⟩ := sum_spec (μ := μ) hq.1 hq.2 (by decide)
  obtain ⟨far, μ1, eT, pT, s1, f1⟩ := turn_spec hq.2 hs (by omega)
  have farq : ∀ q ∈ far, Sz 181 q := fun q h => hq.1 q (pT.mem_iff.mp h)
  have farl : far.length ≤ 6 := by rw [pT.length_eq]; exact hq.2
  obtain ⟨eS2, _⟩ := sum_spec (μ := μ1) farq farl (by decide)
  rw [sumR_perm pT] at eS2
  have eP := pro_spec (μ := μ1) hq.1 hq.2 (by decide)
  have eP2 := pro_spec (μ := μ1) farq farl (by decide)
  rw [proR_perm pT] at eP2
  obtain ⟨spd, μ2, hsp, eK, s2, f2⟩ := pick_lst (xs := qs.map frD) s1 (by omega) (by simpa using h0) (by rw [List.length_map]; have := hq.2; omega)
  obtain ⟨p, hp, rfl⟩ := List.mem_map.mp hsp
  have zp := hq.1 p hp
  generalize hUU : denP qs 1 = U at eSh hU U0 dv tot
  generalize hT : sumR qs 0 = tt at eS zS eS2 tot
  refine ⟨μ2, fn_rt ?_, s2.mono (by omega), f1.trans f2⟩
  unfold b__law_row_right
  have n1 : mAsg (tgT 2 (tgC (tgV 2) (tgC (tgV 3) tgN))) (mCall m__law_shared [(mV 1)] []) (startD 10 [.obj j, rowD qs]) μ = .nx [some (.fr (.obj j)), some (.fr (rowD qs)), some (.fr (.int U)), some (.fr (.lst ((above U qs).map .int))), none, none, none, none, none, none] μ := by
    simp [mAsg, mCall, evA, mV, startD, Out.bind, Out.thn, dfr, eSh, tgT, tgC, tgV, tgN]
  have n2 : mPar 4 5 (mCall m__law_sum [(mV 1)] []) (mCall m__law_turned [(mV 0), (mV 1)] []) [some (.fr (.obj j)), some (.fr (rowD qs)), some (.fr (.int U)), some (.fr (.lst ((above U qs).map .int))), none, none, none, none, none, none] μ = .nx [some (.fr (.obj j)), some (.fr (rowD qs)), some (.fr (.int U)), some (.fr (.lst ((above U qs).map .int))), some (.fr (frD tt)), some (.fr (rowD far)), none, none, none, none] μ1 := by
    simp [mPar, mCall, evA, mV, Out.bind, Out.thn, dfr, eS, eT]
  rw [seq_nx n1, seq_nx n2]
  obtain ⟨m1, m3⟩ := row_bits zS hU tot
  clear hU
  have is := intsD_of (above U qs)
  have eqt := eq_fr true tt tt
  have g0 : gIxL (frD tt) (.int 0) = some (.fr (.int tt.num)) := rfl
  have g1 : gIxL (frD tt) (.int 1) = some (.fr (.int tt.den)) := rfl
  have lk : ∀ (x : Rat) μ, look μ (frD x) = some (frD x) := fun _ _ => rfl
  have t3 : mTb (m2 (gEq true) (.e (m2 gMulA (.e (m2 gIxL (.v 4) (.e (mD (.int 0))))) (.v 2))) (.e (m2 gMulA (.e (mC gSum [(.v 3)])) (.e (m2 gIxL (.v 4) (.e (mD (.int 1)))))))) [some (.fr (.obj j)), some (.fr (rowD qs)), some (.fr (.int U)), some (.fr (.lst ((above U qs).map .int))), some (.fr (frD tt)), some (.fr (rowD far)), none, none, none, none] μ1 = .ok false [some (.fr (.obj j)), some (.fr (rowD qs)), some (.fr (.int U)), some (.fr (.lst ((above U qs).map .int))), some (.fr (frD tt)), some (.fr (rowD far)), none, none, none, none] μ1 := by
    simp [mTb, m2, Opn.ev, mD, mC, evs, OR.at, OR.ats, look, Out.bind, dfr, frD, gIxL, at20, at21, gMulA, gMul, gInt, m1, m3, gSum, is, lift, gEq, eqS, tot]
  have t3b : mTb (m2 (gEq true) (.e (mCall m__law_sum [(mV 5)] [])) (.v 4)) [some (.fr (.obj j)), some (.fr (rowD qs)), some (.fr (.int U)), some (.fr (.lst ((above U qs).map .int))), some (.fr (frD tt)), some (.fr (rowD far)), none, none, none, none] μ1 = .ok false [some (.fr (.obj j)), some (.fr (rowD qs)), some (.fr (.int U)), some (.fr (.lst ((above U qs).map .int))), some (.fr (frD tt)), some (.fr (rowD far)), none, none, none, none] μ1 := by
    simp [mTb, m2, Opn.ev, mCall, evA, mV, OR.at, Out.bind, dfr, eS2, lk, eqt, lift]
  rw [seq_nx (if_fp (or_ff t3 t3b))]
  have t4 : mTb (m2 (gEq true) (.e (mCall m__law_all_product [(mV 5)] [])) (.e (mCall m__law_all_product [(mV 1)] []))) [some (.fr (.obj j)), some (.fr (rowD qs)), some (.fr (.int U)), some (.fr (.lst ((above U qs).map .int))), some (.fr (frD tt)), some (.fr (rowD far)), none, none, none, none] μ1 = .ok false [some (.fr (.obj j)), some (.fr (rowD qs)), some (.fr (.int U)), some (.fr (.lst ((above U qs).map .int))), some (.fr (frD tt)), some (.fr (rowD far)), none, none, none, none] μ1 := by
    simp [mTb, m2, Opn.ev, mCall, evA, mV, OR.at, Out.bind, dfr, eP, eP2, lk, eq_fr true (proR qs 1) (proR qs 1), lift]
  rw [seq_nx (if_fp t4)]
  have n5 : mSet 6 (mCall m__law_pick [(mV 0), (mV 1)] []) [some (.fr (.obj j)), some (.fr (rowD qs)), some (.fr (.int U)), some (.fr (.lst ((above U qs).map .int))), some (.fr (frD tt)), some (.fr (rowD far)), none, none, none, none] μ1 = .nx [some (.fr (.obj j)), some (.fr (rowD qs)), some (.fr (.int U)), some (.fr (.lst ((above U qs).map .int))), some (.fr (frD tt)), some (.fr (rowD far)), some (.fr (frD p)), none, none, none] μ2 := by
    simp [mSet, mCall, evA, mV, Out.bind, Out.thn, dfr, ep, rowD, eK]
  rw [seq_nx n5]
  have eM := mul_spec (R := mBad) (μ := μ2) zp zS (by decide) (by decide)
  have eL := muls_loop zp (a0 := some (.fr (.obj j))) (a1 := some (.fr (rowD qs))) (a2 := some (.fr (.int U))) (a3 := some (.fr (.lst ((above U qs).map .int)))) (a4 := some (.fr (frD tt))) (a5 := some (.fr (rowD far))) (a7 := none) (a8 := none) (μ := μ2) qs [] hq.1 (by simp; have := hq.2; omega)
  simp only [List.map_nil, List.nil_append] at eL
  obtain ⟨eS3, _⟩ := sum_spec (μ := μ2) (qs := qs.map (p * ·)) (k := 181 + 181) (fun q h => by
    obtain ⟨r, hr, rfl⟩ := List.mem_map.mp h
    exact zp.mul (hq.1 r hr)) (by rw [List.length_map]; exact hq.2) (by decide)
  have hsm : sumR (qs.map (p * ·)) 0 = p * tt := by
    have := sumR_mul p qs 0
    rw [show p * 0 = (0 : Rat) by grind, hT] at this
    exact this
  rw [hsm] at eS3
  have t6 : mTb (m2 (gEq true) (.e (mCall m_multiply [(mV 6), (mV 4)] [])) (.e (mCall m__law_sum [(mLc (mIt (mV 1)) (tgV 9) mYes (mCall m_multiply [(mV 6), (mV 9)] []) [9])] []))) [some (.fr (.obj j)), some (.fr (rowD qs)), some (.fr (.int U)), some (.fr (.lst ((above U qs).map .int))), some (.fr (frD tt)), some (.fr (rowD far)), some (.fr (frD p)), none, none, none] μ2 = .ok false [some (.fr (.obj j)), some (.fr (rowD qs)), some (.fr (.int U)), some (.fr (.lst ((above U qs).map .int))), some (.fr (frD tt)), some (.fr (rowD far)), some (.fr (frD p)), none, none, none] μ2 := by
    have e9 : mLc (mIt (mV 1)) (tgV 9) mYes (mCall m_multiply [(mV 6), (mV 9)] []) [9] [some (.fr (.obj j)), some (.fr (rowD qs)), some (.fr (.int U)), some (.fr (.lst ((above U qs).map .int))), some (.fr (frD tt)), some (.fr (rowD far)), some (.fr (frD p)), none, none, none] μ2 = .ok (.own (.lst ((qs.map (p * ·)).map frD))) [some (.fr (.obj j)), some (.fr (rowD qs)), some (.fr (.int U)), some (.fr (.lst ((above U qs).map .int))), some (.fr (frD tt)), some (.fr (rowD far)), some (.fr (frD p)), none, none, none] μ2 := by
      unfold mLc
      have : mIt (mV 1) [some (.fr (.obj j)), some (.fr (rowD qs)), some (.fr (.int U)), some (.fr (.lst ((above U qs).map .int))), some (.fr (frD tt)), some (.fr (rowD far)), some (.fr (frD p)), none, none, none] μ2 = .ok (qs.map frD) [some (.fr (.obj j)), some (.fr (rowD qs)), some (.fr (.int U)), some (.fr (.lst ((above U qs).map .int))), some (.fr (frD tt)), some (.fr (rowD far)), some (.fr (frD p)), none, none, none] μ2 := by simp [mIt, mV, Out.bind, dfr, itA, rowD]
      rw [this, Out.bind_ok]
      exact eL
    have eS3' : m__law_sum [.lst ((qs.map (p * ·)).map frD)] μ2 = .ok (.fr (frD (p * tt))) μ2 := eS3
    have oL : mCall m_multiply [(mV 6), (mV 4)] [] [some (.fr (.obj j)), some (.fr (rowD qs)), some (.fr (.int U)), some (.fr (.lst ((above U qs).map .int))), some (.fr (frD tt)), some (.fr (rowD far)), some (.fr (frD p)), none, none, none] μ2 = .ok (.fr (frD (p * tt))) [some (.fr (.obj j)), some (.fr (rowD qs)), some (.fr (.int U)), some (.fr (.lst ((above U qs).map .int))), some (.fr (frD tt)), some (.fr (rowD far)), some (.fr (frD p)), none, none, none] μ2 := by
      rw [eMul]
      simp [mCall, evA, mV, Out.bind, dfr, eM]
    have oR : mCall m__law_sum [(mLc (mIt (mV 1)) (tgV 9) mYes (mCall m_multiply [(mV 6), (mV 9)] []) [9])] [] [some (.fr (.obj j)), some (.fr (rowD qs)), some (.fr (.int U)), some (.fr (.lst ((above U qs).map .int))), some (.fr (frD tt)), some (.fr (rowD far)), some (.fr (frD p)), none, none, none] μ2 = .ok (.fr (frD (p * tt))) [some (.fr (.obj j)), some (.fr (rowD qs)), some (.fr (.int U)), some (.fr (.lst ((above U qs).map .int))), some (.fr (frD tt)), some (.fr (rowD far)), some (.fr (frD p)), none, none, none] μ2 := by
      generalize hL : mLc (mIt (mV 1)) (tgV 9) mYes (mCall m_multiply [(mV 6), (mV 9)] []) [9] = L at e9 ⊢
      simp [mCall, evA, e9, Out.bind, dfr, down, eS3', -List.map_map]
    simp [mTb, m2, Opn.ev, oL, oR, OR.at, Out.bind, dfr, lk, eq_fr true (p * tt) (p * tt), lift]
  rw [seq_nx (if_fp t6)]
  have t7 : mAnd (mTb (m2 (gEq true) (.e (m2 gIxL (.v 6) (.e (mD (.int 0))))) (.e (mD (.int 0))))) (mTb (m2 (gEq true) (.e (mCall m_divide [(mCall m_multiply [(mV 4), (mV 6)] []), (mV 6)] [])) (.v 4))) [some (.fr (.obj j)), some (.fr (rowD qs)), some (.fr (.int U)), some (.fr (.lst ((above U qs).map .int))), some (.fr (frD tt)), some (.fr (rowD far)), some (.fr (frD p)), none, none, none] μ2 = .ok false [some (.fr (.obj j)), some (.fr (rowD qs)), some (.fr (.int U)), some (.fr (.lst ((above U qs).map .int))), some (.fr (frD tt)), some (.fr (rowD far)), some (.fr (frD p)), none, none, none] μ2 := by
    by_cases hp0 : p.num = 0
    · refine and_f ?_
      simp [mTb, m2, Opn.ev, mD, OR.at, look, Out.bind, dfr, frD, gIxL, at20, gEq, eqS, lift, hp0]
    · have eM2 := mul_spec (R := mBad) (μ := μ2) zS zp (by decide) (by decide)
      have eD := div_spec (R := mBad) (R' := mBad) (μ := μ2) (zS.mul zp) zp hp0 (by decide) (by decide)
      have hpn : p ≠ 0 := fun z => hp0 (by rw [z]; rfl)
      rw [Rat.mul_div_cancel hpn] at eD
      refine and_t (δ1 := [some (.fr (.obj j)), some (.fr (rowD qs)), some (.fr (.int U)), some (.fr (.lst ((above U qs).map .int))), some (.fr (frD tt)), some (.fr (rowD far)), some (.fr (frD p)), none, none, none]) (μ1 := μ2) ?_ ?_
      · have hp0' : ¬ p = 0 := hpn
        simp [mTb, m2, Opn.ev, mD, OR.at, look, Out.bind, dfr, frD, gIxL, at20, gEq, eqS, lift, hp0']
      · simp [mTb, m2, Opn.ev, mCall, evA, mV, OR.at, Out.bind, dfr, eMul, eDiv, eM2, eD, lk, eqt, lift]
  rw [seq_nx (if_fp t7)]
  have hlen : (rangeD 0 qs.length).length = qs.length := by simp [rangeD]
  have rng : ∀ a7 a8 : Option FL.Slot, mRange1 (.e (mC gLen [(.v 1)])) [some (.fr (.obj j)), some (.fr (rowD qs)), some (.fr (.int U)), some (.fr (.lst ((above U qs).map .int))), some (.fr (frD tt)), some (.fr (rowD far)), some (.fr (frD p)), a7, a8, none] μ2 = .ok (rangeD 0 qs.length) [some (.fr (.obj j)), some (.fr (rowD qs)), some (.fr (.int U)), some (.fr (.lst ((above U qs).map .int))), some (.fr (frD tt)), some (.fr (rowD far)), some (.fr (frD p)), a7, a8, none] μ2 := by
    intro a7 a8
    refine range_len (rs := [.d (.int qs.length)]) ?_ ?_ hq.2
    · simp [evs, Opn.ev, mC, OR.at, OR.ats, look, Out.bind, dfr, rowD, gLen, gLen1, lift]
    · rfl
  have mem : ∀ d ∈ rangeD 0 qs.length, ∃ n : Nat, d = .int n ∧ n < qs.length := fun d hd => by
    unfold rangeD at hd
    obtain ⟨i, hi, rfl⟩ := List.mem_map.mp hd
    rw [List.mem_range] at hi
    exact ⟨i, by simp, hi⟩
  have hqd : ∀ q ∈ qs, Sz 181 q ∧ q.den ∣ U := fun q h => ⟨hq.1 q h, dv q h⟩
  have lps : ∀ a, ∃ a', forD (turnD (tgV 7) (mFor (mRange1 (.e (mC gLen [(.v 1)]))) (tgV 8) (mIfS (mTb (m2 (gEq true) (.e (mC gRepr [(.e (mCall m_is_less [(m2 gIxL (.v 1) (.v 7)), (m2 gIxL (.v 1) (.v 8))] []))])) (.e (mC gRepr [(.e (m2 gLt (.e (m2 gIxL (.v 3) (.v 7))) (.e (m2 gIxL (.v 3) (.v 8)))))])))) (mRet (mD (.bl false))) mPass))) (rangeD 0 qs.length) (stR j qs U tt far p a) μ2 = .nx (stR j qs U tt far p a') μ2 := by
    refine forD_st fun d hd a => ?_
    obtain ⟨n, rfl, hn⟩ := mem d hd
    obtain ⟨a', ea⟩ := forD_st (g := turnD (tgV 8) (mIfS (mTb (m2 (gEq true) (.e (mC gRepr [(.e (mCall m_is_less [(m2 gIxL (.v 1) (.v 7)), (m2 gIxL (.v 1) (.v 8))] []))])) (.e (mC gRepr [(.e (m2 gLt (.e (m2 gIxL (.v 3) (.v 7))) (.e (m2 gIxL (.v 3) (.v 8)))))])))) (mRet (mD (.bl false))) mPass)) (s := fun b => stR j qs U tt far p (some (.fr (.int n)), b)) (ds := rangeD 0 qs.length) (μ := μ2) (fun d hd b => by
      obtain ⟨k, rfl, hk⟩ := mem d hd
      exact ⟨_, less_turn hqd U0 hn hk⟩) a.2
    have hh := for_of (rng (some (.fr (.int n))) a.2) ea
    refine ⟨(some (.fr (.int n)), a'), ?_⟩
    rw [turn7]
    exact hh
  obtain ⟨a', ea⟩ := lps (none, none)
  have n8 := for_of (rng none none) ea
  rw [seq_nx n8]
  have f1m : frD (-1) = .tup [.int (-1), .int 1] := rfl
  have f0 : frD 0 = .tup [.int 0, .int 1] := rfl
  have z1 : Sz 1 (-1 : Rat) := ⟨by decide, by decide⟩
  have eN := mul_spec (R := mBad) (μ := μ2) z1 zS (by decide) (by decide)
  have eA := add_spec (R := mBad) (μ := μ2) zS (z1.mul zS) (by decide) (by decide)
  rw [show tt + -1 * tt = 0 by grind] at eA
  rw [f1m] at eN
  have oA : m2 (gEq false) (.e (mCall m_add [(mV 4), (mCall m_multiply [(mTup [(mNeg (mD (.int 1))), (mD (.int 1))]), (mV 4)] [])] [])) (.e (mTup [(mD (.int 0)), (mD (.int 1))])) (stR j qs U tt far p a') μ2 = .ok (.fr (.bl true)) (stR j qs U tt far p a') μ2 := by
    have q0 := eq_fr false 0 0
    rw [f0] at q0 eA
    simp [stR, m2, Opn.ev, mCall, evA, mV, mTup, mNeg, mD, OR.at, look, Out.bind, dfr, down, eMul, eAdd, eN, eA, q0, lift, tb]
  exact ret_of oA
theorem gMulA_ii {a b : Int} (ha : a.natAbs < 2 ^ 200) (hb : b.natAbs < 2 ^ 200) : gMulA (.int a) (.int b) = some (.fr (.int (a * b))) := by
  have l1 := log_pos ha (by decide)
  have l2 := log_pos hb (by decide)
  have hm : a.natAbs.log2 + b.natAbs.log2 < 1000000 := by omega
  simp [gMulA, gMul, gInt, hm]
theorem gAdd_ii (a b : Int) : gAdd (.int a) (.int b) = some (.fr (.int (a + b))) := by simp [gAdd, gInt]
theorem ab_mul {a b : Int} {j k : Nat} (ha : a.natAbs < 2 ^ j) (hb : b.natAbs < 2 ^ k) : (a * b).natAbs < 2 ^ (j + k) := by
  rw [Int.natAbs_mul]
  exact mul_lt_pow ha hb
theorem ab_add {a b : Int} {k : Nat} (ha : a.natAbs < 2 ^ k) (hb : b.natAbs < 2 ^ k) : (a + b).natAbs < 2 ^ (k + 1) := by
  rw [Nat.pow_succ]
  omega
theorem ab_up {a : Int} {j k : Nat} (ha : a.natAbs < 2 ^ j) (h : j ≤ k) : a.natAbs < 2 ^ k := Nat.lt_of_lt_of_le ha (Nat.pow_le_pow_right (by decide) h)
theorem sz_of {n d : Int} {k : Nat} (hd : d ≠ 0) (hn : n.natAbs < 2 ^ k) (h2 : d.natAbs < 2 ^ k) : Sz k (Rat.divInt n d) := by
  obtain ⟨a, b⟩ := divInt_num (n := n) hd
  exact ⟨by omega, by omega⟩
theorem fraction_s {n d : Int} {μ : Mem} (hd : d ≠ 0) (h2 : d.natAbs < 2 ^ 100) : mFraction mBad mBad [.int n, .int d] μ = .ok (.fr (frD (Rat.divInt n d))) μ := fraction_spec hd (Nat.lt_of_lt_of_le h2 (Nat.pow_le_pow_right (by decide) (by decide)))
theorem num_ne {q : Rat} (h : q ≠ 0) : q.num ≠ 0 := fun z => h (Rat.num_eq_zero.mp z)
/-- the formula of a score, as the law has it -/
theorem score_eq {m f o t T h : Int} (m1 : 1 ≤ m) (f1 : 1 ≤ f) (o1 : 1 ≤ o) (t1 : 1 ≤ t) (T1 : 1 ≤ T) (h1 : 1 ≤ h) :
    Rat.divInt T h ≠ 0 ∧ Rat.divInt t 1 + (1 + Rat.divInt o 1 / Rat.divInt T h) / 2 ≠ 0 ∧
    Rat.divInt (m + 1) (f + 1) * (Rat.divInt t 1 / (Rat.divInt t 1 + (1 + Rat.divInt o 1 / Rat.divInt T h) / 2)) = Rat.divInt ((m + 1) * 2 * T * t) ((f + 1) * (2 * T * t + T + o * h)) := by
  have f0 : (0 : Rat) < ((f + 1 : Int) : Rat) := Rat.intCast_pos.mpr (by omega)
  have o0 : (0 : Rat) < (o : Rat) := Rat.intCast_pos.mpr (by omega)
  have t0 : (0 : Rat) < (t : Rat) := Rat.intCast_pos.mpr (by omega)
  have T0 : (0 : Rat) < (T : Rat) := Rat.intCast_pos.mpr (by omega)
  have h0 : (0 : Rat) < (h : Rat) := Rat.intCast_pos.mpr (by omega)
  simp only [Rat.divInt_eq_div, Rat.intCast_mul, Rat.intCast_add, Rat.intCast_ofNat, Rat.intCast_one] at f0 ⊢
  generalize (m : Rat) = m at *
  generalize (f : Rat) = f at *
  generalize (o : Rat) = o at *
  generalize (t : Rat) = t at *
  generalize (T : Rat) = T at *
  generalize (h : Rat) = h at *
  have oh : 0 < o * h := Rat.mul_pos o0 h0
  have Tt : 0 < T * t := Rat.mul_pos T0 t0
  have d0 : T / h ≠ 0 := by grind
  have s0 : o / 1 / (T / h) = o * h / T := by grind
  have u0 : t / 1 + (1 + o * h / T) / 2 = (2 * T * t + T + o * h) / (2 * T) := by grind
  have v0 : 2 * T * t + T + o * h ≠ 0 := by grind
  have w0 : (2 * T * t + T + o * h) / (2 * T) ≠ 0 := by grind
  rw [s0, u0]
  refine ⟨d0, w0, ?_⟩
  have F0 : f + 1 ≠ 0 := by grind
  have T2 : 2 * T ≠ 0 := by grind
  generalize 2 * T * t + T + o * h = e at *
  generalize f + 1 = F at *
  generalize m + 1 = M at *
  clear d0 s0 u0 w0 f0 o0 t0 h0 oh Tt
  have x1 : t / 1 / (e / (2 * T)) = 2 * T * t / e := by grind
  rw [x1]
  grind
theorem score_spec {μ : Mem} {j : Nat} {B : Int} (hs : Src μ j B) (hB : B + 100 ≤ 2 ^ 40) :
    ∃ μ', m__law_score_right [.obj j] μ = .ok (.fr (.bl true)) μ' ∧ Src μ' j (B + 10) ∧ Fr j μ μ' := by
  obtain ⟨w1, μ1, e1, l1, u1, s1, g1⟩ := next_spec (n := 500) hs (by omega) (by decide) (by decide)
  obtain ⟨m, hm⟩ : ∃ m, m = 1 + w1 := ⟨_, rfl⟩
  obtain ⟨w2, μ2, e2, l2, u2, s2, g2⟩ := next_spec (n := m) s1 (by omega) (by omega) (by omega)
  obtain ⟨f, hf⟩ : ∃ f, f = 1 + w2 := ⟨_, rfl⟩
  obtain ⟨w3, μ3, e3, l3, u3, s3, g3⟩ := next_spec (n := 200) s2 (by omega) (by decide) (by decide)
  obtain ⟨o, ho⟩ : ∃ o, o = 1 + w3 := ⟨_, rfl⟩
  obtain ⟨w4, μ4, e4, l4, u4, s4, g4⟩ := next_spec (n := 200) s3 (by omega) (by decide) (by decide)
  obtain ⟨t, ht⟩ : ∃ t, t = 1 + w4 := ⟨_, rfl⟩
  obtain ⟨w5, μ5, e5, l5, u5, s5, g5⟩ := next_spec (n := 9999) s4 (by omega) (by decide) (by decide)
  obtain ⟨T, hT⟩ : ∃ T, T = o + w5 := ⟨_, rfl⟩
  obtain ⟨w6, μ6, e6, l6, u6, s6, g6⟩ := next_spec (n := m) s5 (by omega) (by omega) (by omega)
  obtain ⟨h, hh⟩ : ∃ h, h = 1 + w6 := ⟨_, rfl⟩
  refine ⟨μ6, fn_rt ?_, s6.mono (by omega), ((((g1.trans g2).trans g3).trans g4).trans g5).trans g6⟩
  unfold b__law_score_right
  have n1 : mSet 1 (m2 gAdd (.e (mD (.int 1))) (.e (mCall m__law_next [(mV 0), (mD (.int 500))] []))) (startD 13 [.obj j]) μ = .nx [some (.fr (.obj j)), some (.fr (.int m)), none, none, none, none, none, none, none, none, none, none, none] μ1 := by
    simp [mSet, mPar, mCall, evA, mV, mTup, m2, Opn.ev, mD, OR.at, look, startD, Out.bind, Out.thn, dfr, gAdd_ii, lift, en, e1, hm]
  have n2 : mSet 2 (m2 gAdd (.e (mD (.int 1))) (.e (mCall m__law_next [(mV 0), (mV 1)] []))) [some (.fr (.obj j)), some (.fr (.int m)), none, none, none, none, none, none, none, none, none, none, none] μ1 = .nx [some (.fr (.obj j)), some (.fr (.int m)), some (.fr (.int f)), none, none, none, none, none, none, none, none, none, none] μ2 := by
    simp [mSet, mPar, mCall, evA, mV, mTup, m2, Opn.ev, mD, OR.at, look, startD, Out.bind, Out.thn, dfr, gAdd_ii, lift, en, e2, hf]
  have n3 : mPar 3 4 (m2 gAdd (.e (mD (.int 1))) (.e (mCall m__law_next [(mV 0), (mD (.int 200))] []))) (m2 gAdd (.e (mD (.int 1))) (.e (mCall m__law_next [(mV 0), (mD (.int 200))] []))) [some (.fr (.obj j)), some (.fr (.int m)), some (.fr (.int f)), none, none, none, none, none, none, none, none, none, none] μ2 = .nx [some (.fr (.obj j)), some (.fr (.int m)), some (.fr (.int f)), some (.fr (.int o)), some (.fr (.int t)), none, none, none, none, none, none, none, none] μ4 := by
    simp [mSet, mPar, mCall, evA, mV, mTup, m2, Opn.ev, mD, OR.at, look, startD, Out.bind, Out.thn, dfr, gAdd_ii, lift, en, e3, e4, ho, ht]
  have n5 : mPar 5 6 (m2 gAdd (.v 3) (.e (mCall m__law_next [(mV 0), (mD (.int 9999))] []))) (m2 gAdd (.e (mD (.int 1))) (.e (mCall m__law_next [(mV 0), (mV 1)] []))) [some (.fr (.obj j)), some (.fr (.int m)), some (.fr (.int f)), some (.fr (.int o)), some (.fr (.int t)), none, none, none, none, none, none, none, none] μ4 = .nx [some (.fr (.obj j)), some (.fr (.int m)), some (.fr (.int f)), some (.fr (.int o)), some (.fr (.int t)), some (.fr (.int T)), some (.fr (.int h)), none, none, none, none, none, none] μ6 := by
    simp [mSet, mPar, mCall, evA, mV, mTup, m2, Opn.ev, mD, OR.at, look, startD, Out.bind, Out.thn, dfr, gAdd_ii, lift, en, e5, e6, hT, hh]
  rw [seq_nx n1, seq_nx n2, seq_nx n3, seq_nx n5]
  clear n1 n2 n3 n5 e1 e2 e3 e4 e5 e6
  have bm : m.natAbs < 2 ^ 20 := by omega
  have bf : f.natAbs < 2 ^ 20 := by omega
  have bo : o.natAbs < 2 ^ 20 := by omega
  have bt : t.natAbs < 2 ^ 20 := by omega
  have bT : T.natAbs < 2 ^ 20 := by omega
  have bh : h.natAbs < 2 ^ 20 := by omega
  have b1 : (1 : Int).natAbs < 2 ^ 20 := by decide
  have b2 : (2 : Int).natAbs < 2 ^ 20 := by decide
  have m1 : 1 ≤ m := by omega
  have f1 : 1 ≤ f := by omega
  have o1 : 1 ≤ o := by omega
  have t1 : 1 ≤ t := by omega
  have T1 : 1 ≤ T := by omega
  have h1 : 1 ≤ h := by omega
  clear hm hf ho ht hT hh l1 u1 l2 u2 l3 u3 l4 u4 l5 u5 l6 u6
  obtain ⟨k1, k2, k3⟩ := score_eq m1 f1 o1 t1 T1 h1
  have bm1 := ab_add bm b1
  have bf1 := ab_add bf b1
  have f0 : f + 1 ≠ 0 := by omega
  have h0 : h ≠ 0 := by omega
  have eR := fraction_s (μ := μ6) (n := m + 1) f0 (ab_up bf1 (by decide))
  have zR : Sz 21 (Rat.divInt (m + 1) (f + 1)) := sz_of f0 bm1 bf1
  have eO := fraction_s (μ := μ6) (n := o) (d := 1) (by decide) (by decide)
  have zO : Sz 20 (Rat.divInt o 1) := sz_of (by decide) bo b1
  have eT := fraction_s (μ := μ6) (n := T) h0 (ab_up bh (by decide))
  have zT : Sz 20 (Rat.divInt T h) := sz_of h0 bT bh
  have et := fraction_s (μ := μ6) (n := t) (d := 1) (by decide) (by decide)
  have zt : Sz 20 (Rat.divInt t 1) := sz_of (by decide) bt b1
  generalize Rat.divInt (m + 1) (f + 1) = ra at eR zR k3
  generalize Rat.divInt o 1 = fo at eO zO k2 k3
  generalize Rat.divInt T h = fT at eT zT k1 k2 k3
  generalize Rat.divInt t 1 = ft at et zt k2 k3
  have eS := div_spec (R := mBad) (R' := mBad) (μ := μ6) zO zT (num_ne k1) (by decide) (by decide)
  have zS := zO.div zT (num_ne k1)
  generalize fo / fT = sh at eS zS k2 k3
  have z1 : Sz 1 (1 : Rat) := ⟨by decide, by decide⟩
  have z2 : Sz 2 (2 : Rat) := ⟨by decide, by decide⟩
  have eH1 := add_spec (R := mBad) (μ := μ6) z1 zS (by decide) (by decide)
  have zH1 := z1.add zS
  have eH := div_spec (R := mBad) (R' := mBad) (μ := μ6) zH1 z2 (by decide) (by decide) (by decide)
  have zH := zH1.div z2 (by decide)
  generalize (1 + sh : Rat) = h1p at eH1 zH1 eH zH k2 k3
  generalize (h1p / 2 : Rat) = hf at eH zH k2 k3
  have eD1 := add_spec (R := mBad) (μ := μ6) zt zH (by decide) (by decide)
  have zD1 := zt.add zH
  generalize ft + hf = de at eD1 zD1 k2 k3
  have eD := div_spec (R := mBad) (R' := mBad) (μ := μ6) zt zD1 (num_ne k2) (by decide) (by decide)
  have zD := zt.div zD1 (num_ne k2)
  generalize ft / de = qd at eD zD k3
  have eM := mul_spec (R := mBad) (μ := μ6) zR zD (by decide) (by decide)
  have zM := zR.mul zD
  generalize ra * qd = td at eM zM k3
  have F1 : frD 1 = .tup [.int 1, .int 1] := rfl
  have F2 : frD 2 = .tup [.int 2, .int 1] := rfl
  rw [F1] at eH1
  rw [F2] at eH
  have n7 : mSet 7 (mCall m_fraction [(m2 gAdd (.v 1) (.e (mD (.int 1)))), (m2 gAdd (.v 2) (.e (mD (.int 1))))] []) [some (.fr (.obj j)), some (.fr (.int m)), some (.fr (.int f)), some (.fr (.int o)), some (.fr (.int t)), some (.fr (.int T)), some (.fr (.int h)), none, none, none, none, none, none] μ6 = .nx [some (.fr (.obj j)), some (.fr (.int m)), some (.fr (.int f)), some (.fr (.int o)), some (.fr (.int t)), some (.fr (.int T)), some (.fr (.int h)), some (.fr (frD ra)), none, none, none, none, none] μ6 := by
    simp [mSet, mPar, mCall, evA, mV, mTup, m2, Opn.ev, mD, OR.at, look, startD, Out.bind, Out.thn, dfr, gAdd_ii, lift, eFr, eR]
  have n8 : mSet 8 (mCall m_divide [(mCall m_fraction [(mV 3), (mD (.int 1))] []), (mCall m_fraction [(mV 5), (mV 6)] [])] []) [some (.fr (.obj j)), some (.fr (.int m)), some (.fr (.int f)), some (.fr (.int o)), some (.fr (.int t)), some (.fr (.int T)), some (.fr (.int h)), some (.fr (frD ra)), none, none, none, none, none] μ6 = .nx [some (.fr (.obj j)), some (.fr (.int m)), some (.fr (.int f)), some (.fr (.int o)), some (.fr (.int t)), some (.fr (.int T)), some (.fr (.int h)), some (.fr (frD ra)), some (.fr (frD sh)), none, none, none, none] μ6 := by
    simp [mSet, mPar, mCall, evA, mV, mTup, m2, Opn.ev, mD, OR.at, look, startD, Out.bind, Out.thn, dfr, gAdd_ii, lift, eFr, eDiv, eO, eT, eS]
  have n9 : mSet 9 (mCall m_divide [(mCall m_add [(mTup [(mD (.int 1)), (mD (.int 1))]), (mV 8)] []), (mTup [(mD (.int 2)), (mD (.int 1))])] []) [some (.fr (.obj j)), some (.fr (.int m)), some (.fr (.int f)), some (.fr (.int o)), some (.fr (.int t)), some (.fr (.int T)), some (.fr (.int h)), some (.fr (frD ra)), some (.fr (frD sh)), none, none, none, none] μ6 = .nx [some (.fr (.obj j)), some (.fr (.int m)), some (.fr (.int f)), some (.fr (.int o)), some (.fr (.int t)), some (.fr (.int T)), some (.fr (.int h)), some (.fr (frD ra)), some (.fr (frD sh)), some (.fr (frD hf)), none, none, none] μ6 := by
    simp [mSet, mPar, mCall, evA, mV, mTup, m2, Opn.ev, mD, OR.at, look, startD, Out.bind, Out.thn, dfr, gAdd_ii, lift, eAdd, eDiv, eH1, eH]
  have n10 : mSet 10 (mCall m_multiply [(mV 7), (mCall m_divide [(mCall m_fraction [(mV 4), (mD (.int 1))] []), (mCall m_add [(mCall m_fraction [(mV 4), (mD (.int 1))] []), (mV 9)] [])] [])] []) [some (.fr (.obj j)), some (.fr (.int m)), some (.fr (.int f)), some (.fr (.int o)), some (.fr (.int t)), some (.fr (.int T)), some (.fr (.int h)), some (.fr (frD ra)), some (.fr (frD sh)), some (.fr (frD hf)), none, none, none] μ6 = .nx [some (.fr (.obj j)), some (.fr (.int m)), some (.fr (.int f)), some (.fr (.int o)), some (.fr (.int t)), some (.fr (.int T)), some (.fr (.int h)), some (.fr (frD ra)), some (.fr (frD sh)), some (.fr (frD hf)), some (.fr (frD td)), none, none] μ6 := by
    simp [mSet, mPar, mCall, evA, mV, mTup, m2, Opn.ev, mD, OR.at, look, startD, Out.bind, Out.thn, dfr, gAdd_ii, lift, eFr, eAdd, eDiv, eMul, et, eD1, eD, eM]
  rw [seq_nx n7, seq_nx n8, seq_nx n9, seq_nx n10]
  clear n7 n8 n9 n10
  have c1 := ab_mul bm1 b2
  have c2 := ab_mul c1 bT
  have c3 := ab_mul c2 bt
  have d1 := ab_mul b2 bT
  have d2 := ab_mul d1 bt
  have d3 := ab_add d2 (ab_up bT (by decide))
  have d4 := ab_mul bo bh
  have d5 := ab_add d3 (ab_up d4 (by decide))
  have d6 := ab_mul bf1 d5
  have q1 := gMulA_ii (ab_up bm1 (by decide)) (ab_up b2 (by decide))
  have q2 := gMulA_ii (ab_up c1 (by decide)) (ab_up bT (by decide))
  have q3 := gMulA_ii (ab_up c2 (by decide)) (ab_up bt (by decide))
  have q4 := gMulA_ii (ab_up b2 (by decide)) (ab_up bT (by decide))
  have q5 := gMulA_ii (ab_up d1 (by decide)) (ab_up bt (by decide))
  have q6 := gMulA_ii (ab_up bo (by decide)) (ab_up bh (by decide))
  have q7 := gMulA_ii (ab_up bf1 (by decide)) (ab_up d5 (by decide))
  have below : 0 < (f + 1) * (2 * T * t + T + o * h) := by
    have p1 : 0 < 2 * T * t := Int.mul_pos (by omega) (by omega)
    have p2 : 0 < o * h := Int.mul_pos (by omega) (by omega)
    exact Int.mul_pos (by omega) (by omega)
  have eZ := fraction_s (μ := μ6) (n := (m + 1) * 2 * T * t) (Int.ne_of_gt below) (ab_up d6 (by decide))
  have hx := k3
  rw [← Rat.num_divInt_den td] at hx
  have hx := (Rat.divInt_eq_divInt_iff (by have := td.den_pos; omega) (Int.ne_of_gt below)).mp hx
  rw [← k3] at eZ
  have n11 : mSet 11 (m2 gMulA (.e (m2 gMulA (.e (m2 gMulA (.e (m2 gAdd (.v 1) (.e (mD (.int 1))))) (.e (mD (.int 2))))) (.v 5))) (.v 4)) [some (.fr (.obj j)), some (.fr (.int m)), some (.fr (.int f)), some (.fr (.int o)), some (.fr (.int t)), some (.fr (.int T)), some (.fr (.int h)), some (.fr (frD ra)), some (.fr (frD sh)), some (.fr (frD hf)), some (.fr (frD td)), none, none] μ6 = .nx [some (.fr (.obj j)), some (.fr (.int m)), some (.fr (.int f)), some (.fr (.int o)), some (.fr (.int t)), some (.fr (.int T)), some (.fr (.int h)), some (.fr (frD ra)), some (.fr (frD sh)), some (.fr (frD hf)), some (.fr (frD td)), some (.fr (.int ((m + 1) * 2 * T * t))), none] μ6 := by
    simp [mSet, mPar, mCall, evA, mV, mTup, m2, Opn.ev, mD, OR.at, look, startD, Out.bind, Out.thn, dfr, gAdd_ii, lift, q1, q2, q3]
  have n12 : mSet 12 (m2 gMulA (.e (m2 gAdd (.v 2) (.e (mD (.int 1))))) (.e (m2 gAdd (.e (m2 gAdd (.e (m2 gMulA (.e (m2 gMulA (.e (mD (.int 2))) (.v 5))) (.v 4))) (.v 5))) (.e (m2 gMulA (.v 3) (.v 6)))))) [some (.fr (.obj j)), some (.fr (.int m)), some (.fr (.int f)), some (.fr (.int o)), some (.fr (.int t)), some (.fr (.int T)), some (.fr (.int h)), some (.fr (frD ra)), some (.fr (frD sh)), some (.fr (frD hf)), some (.fr (frD td)), some (.fr (.int ((m + 1) * 2 * T * t))), none] μ6 = .nx [some (.fr (.obj j)), some (.fr (.int m)), some (.fr (.int f)), some (.fr (.int o)), some (.fr (.int t)), some (.fr (.int T)), some (.fr (.int h)), some (.fr (frD ra)), some (.fr (frD sh)), some (.fr (frD hf)), some (.fr (frD td)), some (.fr (.int ((m + 1) * 2 * T * t))), some (.fr (.int ((f + 1) * (2 * T * t + T + o * h))))] μ6 := by
    simp [mSet, mPar, mCall, evA, mV, mTup, m2, Opn.ev, mD, OR.at, look, startD, Out.bind, Out.thn, dfr, gAdd_ii, lift, q4, q5, q6, q7]
  rw [seq_nx n11, seq_nx n12]
  have q8 := gMulA_ii (a := td.num) (ab_up zM.1 (by decide)) (ab_up d6 (by decide))
  have q9 := gMulA_ii (b := (td.den : Int)) (ab_up c3 (by decide)) (ab_up (k := 200) (show (td.den : Int).natAbs < 2 ^ (21 + (20 + (20 + (1 + (20 + 20) + 1 + 2) + 1))) from zM.2) (by decide))
  clear c1 c2 c3 d1 d2 d3 d4 d5 d6 q1 q2 q3 q4 q5 q6 q7 n11 n12
  generalize (m + 1) * 2 * T * t = A at eZ hx q8 q9 ⊢
  generalize (f + 1) * (2 * T * t + T + o * h) = Bl at eZ hx q8 q9 ⊢
  have q10 := eq_fr false td td
  have g0 : gIxL (frD td) (.int 0) = some (.fr (.int td.num)) := rfl
  have g1 : gIxL (frD td) (.int 1) = some (.fr (.int td.den)) := rfl
  have lk : ∀ μ, look μ (frD td) = some (frD td) := fun _ => rfl
  have lkI : ∀ i μ, look μ (.int i) = some (.int i) := fun _ _ => rfl
  have gE : ∀ x y : Int, gEq false (.int x) (.int y) = some (.fr (.bl (decide (x = y)))) := fun x y => by simp [gEq, eqS]
  refine ret_of (δ1 := [some (.fr (.obj j)), some (.fr (.int m)), some (.fr (.int f)), some (.fr (.int o)), some (.fr (.int t)), some (.fr (.int T)), some (.fr (.int h)), some (.fr (frD ra)), some (.fr (frD sh)), some (.fr (frD hf)), some (.fr (frD td)), some (.fr (.int A)), some (.fr (.int Bl))]) ?_
  simp [mAndV, m2, Opn.ev, mCall, evA, mV, mD, OR.at, lk, lkI, Out.bind, dfr, g0, g1, q8, q9, hx, gE, lift, eFr, eZ, q10, tb]
theorem rows_loop {j : Nat} {a0 a1 a3 a4 : Option FL.Slot} : ∀ (ds : List D) (acc : List Rat) (μ : Mem) (B : Int), (∀ q ∈ acc, Sz 181 q) → acc.length + ds.length ≤ 6 → Src μ j B → B + 1000 + 20 * ds.length ≤ 2 ^ 40 →
    ∃ (qs : List Rat) (μ' : Mem), lcD (tgV 5) mYes (mCall m__law_fraction [(mV 2)] []) [5] ds (acc.map frD) [a0, a1, some (.fr (.obj j)), a3, a4, none] μ = .ok (.own (.lst (qs.map frD))) [a0, a1, some (.fr (.obj j)), a3, a4, none] μ' ∧ (∀ q ∈ qs, Sz 181 q) ∧ qs.length = acc.length + ds.length ∧ Src μ' j (B + 20 * ds.length) ∧ Fr j μ μ'
  | [], acc, μ, B, ha, _, hs, _ => ⟨acc, μ, by simp [lcD], ha, by simp, by simpa using hs, .refl⟩
  | d :: ds, acc, μ, B, ha, hl, hs, hB => by
    rw [List.length_cons] at hl hB
    obtain ⟨q, μ1, e1, z1, s1, f1⟩ := frac_spec hs (by omega)
    have hac : acc.length < 16777216 := by omega
    obtain ⟨qs, μ2, e2, h1, h2, h3, h4⟩ := rows_loop (a0 := a0) (a1 := a1) (a3 := a3) (a4 := a4) ds (acc ++ [q]) μ1 (B + 20) (fun r hr => (List.mem_append.mp hr).elim (ha r) fun hr => by rw [List.mem_singleton.mp hr]; exact z1) (by rw [List.length_append, List.length_singleton]; omega) s1 (by omega)
    refine ⟨qs, μ2, ?_, h1, by rw [h2, List.length_append, List.length_singleton, List.length_cons]; omega, h3.mono (by rw [List.length_cons]; omega), f1.trans h4⟩
    have step : lcD (tgV 5) mYes (mCall m__law_fraction [(mV 2)] []) [5] (d :: ds) (acc.map frD) [a0, a1, some (.fr (.obj j)), a3, a4, none] μ = lcD (tgV 5) mYes (mCall m__law_fraction [(mV 2)] []) [5] ds ((acc ++ [q]).map frD) [a0, a1, some (.fr (.obj j)), a3, a4, none] μ1 := by
      rw [lcD_cons]
      simp [tgV, mYes, Out.cut, Out.bind, mCall, evA, mV, dfr, e1, hac, wipeD]
    rw [step, e2]
noncomputable def inner : MS := (mSeq (mSet 4 (mLc (mRange1 (.e (m2 gAdd (.e (mD (.int 1))) (.e (mCall m__law_next [(mV 2), (mD (.int 6))] []))))) (tgV 5) mYes (mCall m__law_fraction [(mV 2)] []) [5])) (mIfS (mOr (mNot (mTb (mCall m__law_row_right [(mV 2), (mV 4)] []))) (mNot (mTb (mCall m__law_score_right [(mV 2)] [])))) (mRet (mD (.bl false))) mPass))
theorem inner_spec {j : Nat} {d : D} {a0 a1 a3 a4 : Option FL.Slot} {μ : Mem} {B : Int} (hs : Src μ j B) (hB : B + 3000 ≤ 2 ^ 40) :
    ∃ (b3 b4 : Option FL.Slot) (μ' : Mem), turnD (tgV 3) inner d [a0, a1, some (.fr (.obj j)), a3, a4, none] μ = .nx [a0, a1, some (.fr (.obj j)), b3, b4, none] μ' ∧ Src μ' j (B + 200) ∧ Fr j μ μ' := by
  obtain ⟨w, μ1, e1, l1, u1, s1, f1⟩ := next_spec (n := 6) hs (by omega) (by decide) (by decide)
  obtain ⟨n, hn⟩ : ∃ n : Nat, (n : Int) = 1 + w := ⟨(1 + w).toNat, by omega⟩
  have hlen : (rangeD 0 n).length = n := by simp [rangeD]
  obtain ⟨qs, μ2, e2, h1, h2, s2, f2⟩ := rows_loop (a0 := a0) (a1 := a1) (a3 := some (.fr d)) (a4 := a4) (rangeD 0 n) [] μ1 (B + 1) (by simp) (by rw [hlen]; simp; omega) s1 (by rw [hlen]; omega)
  rw [hlen] at s2 h2
  simp only [List.length_nil, Nat.zero_add] at h2
  obtain ⟨μ3, e3, s3, f3⟩ := row_right (qs := qs) ⟨h1, by omega⟩ (fun z => by rw [z] at h2; simp at h2; omega) s2 (by omega)
  obtain ⟨μ4, e4, s4, f4⟩ := score_spec s3 (by omega)
  refine ⟨some (.fr d), some (.fr (.lst (qs.map frD))), μ4, ?_, s4.mono (by omega), ((f1.trans f2).trans f3).trans f4⟩
  show inner [a0, a1, some (.fr (.obj j)), some (.fr d), a4, none] μ = _
  have r1 : evs [.e (m2 gAdd (.e (mD (.int 1))) (.e (mCall m__law_next [(mV 2), (mD (.int 6))] [])))] [a0, a1, some (.fr (.obj j)), some (.fr d), a4, none] μ = .ok [.d (.int n)] [a0, a1, some (.fr (.obj j)), some (.fr d), a4, none] μ1 := by
    simp [evs, Opn.ev, m2, mCall, evA, mV, mD, OR.at, look, Out.bind, dfr, gAdd_ii, lift, en, e1, hn]
  have r2 := range_len (n := n) r1 (by rfl) (by omega)
  have c1 : mSet 4 (mLc (mRange1 (.e (m2 gAdd (.e (mD (.int 1))) (.e (mCall m__law_next [(mV 2), (mD (.int 6))] []))))) (tgV 5) mYes (mCall m__law_fraction [(mV 2)] []) [5]) [a0, a1, some (.fr (.obj j)), some (.fr d), a4, none] μ = .nx [a0, a1, some (.fr (.obj j)), some (.fr d), some (.own (.lst (qs.map frD))), none] μ2 := by
    refine set_of (δ1 := [a0, a1, some (.fr (.obj j)), some (.fr d), a4, none]) ?_
    unfold mLc
    rw [r2, Out.bind_ok]
    exact e2
  have e3' : m__law_row_right [.obj j, .lst (qs.map frD)] μ2 = .ok (.fr (.bl true)) μ3 := e3
  unfold inner
  rw [seq_nx c1]
  have t1 : mNot (mTb (mCall m__law_row_right [(mV 2), (mV 4)] [])) [a0, a1, some (.fr (.obj j)), some (.fr d), some (.own (.lst (qs.map frD))), none] μ2 = .ok false [a0, a1, some (.fr (.obj j)), some (.fr d), some (.fr (.lst (qs.map frD))), none] μ3 := by
    simp [mNot, mTb, mCall, evA, mV, Out.bind, dfr, down, e3']
  have t2 : mNot (mTb (mCall m__law_score_right [(mV 2)] [])) [a0, a1, some (.fr (.obj j)), some (.fr d), some (.fr (.lst (qs.map frD))), none] μ3 = .ok false [a0, a1, some (.fr (.obj j)), some (.fr d), some (.fr (.lst (qs.map frD))), none] μ4 := by
    simp [mNot, mTb, mCall, evA, mV, Out.bind, dfr, down, e4]
  exact if_fp (or_ff t1 t2)
theorem law_ok (ns : List Int) (hl : ns.length ≤ 63) : ∃ μ, m_law [.ro (ns.map .int)] [] = .ok (.fr (.bl true)) μ := by
  let I : Nat → FL.Loc → Mem → Prop := fun i δ μ => ∃ a1 a2 a3 a4, δ = [some (.fr (.ro (ns.map .int))), a1, a2, a3, a4, none]
  have hn : (ns.length : Int) < 64 := by omega
  obtain ⟨K, hK, K1, K4⟩ : ∃ K : Int, mRange1 (.e (mC gMax2 [(.e (mD (.int 1))), (.e (mC gMin2 [(.e (mD (.int 4))), (.e (mC gLen [(.v 0)]))]))])) (startD 6 [D.ro (ns.map .int)]) [] = .ok (rangeD 0 K.toNat) (startD 6 [D.ro (ns.map .int)]) [] ∧ 1 ≤ K ∧ K ≤ 4 := by
    have hb : 1 ≤ (if 1 < (if (ns.length : Int) < 4 then (ns.length : Int) else 4) then (if (ns.length : Int) < 4 then (ns.length : Int) else 4) else 1) ∧ (if 1 < (if (ns.length : Int) < 4 then (ns.length : Int) else 4) then (if (ns.length : Int) < 4 then (ns.length : Int) else 4) else 1) ≤ 4 := by
      by_cases h4 : (ns.length : Int) < 4
      · rw [if_pos h4]; split <;> omega
      · rw [if_neg h4]; decide
    generalize hK : (if 1 < (if (ns.length : Int) < 4 then (ns.length : Int) else 4) then (if (ns.length : Int) < 4 then (ns.length : Int) else 4) else 1) = K at hb
    refine ⟨K, ?_, hb⟩
    have hk2 : -4611686018427387904 ≤ K ∧ K < 4611686018427387904 := by omega
    simp [mRange1, evs, Opn.ev, mC, mD, OR.at, OR.ats, look, Out.bind, dfr, startD, gMax2, gMin2, gLen, gLen1, lift, hK, hk2]
  have hr : ∀ d ∈ rangeD 0 K.toNat, ∃ k : Int, d = .int k ∧ 0 ≤ k ∧ k ≤ 4 := fun d hd => by
    unfold rangeD at hd
    obtain ⟨i, hi, rfl⟩ := List.mem_map.mp hd
    rw [List.mem_range] at hi
    exact ⟨_, rfl, by omega, by omega⟩
  obtain ⟨δ', μ', e, a1, a2, a3, a4, hδ⟩ := forD_ix (g := turnD (tgV 1) (mSeq (mSet 2 (mCall m__law_source [(mV 0), (mV 1)] [])) (mFor (mRange1 (.e (mD (.int 3)))) (tgV 3) inner))) I K.toNat (rangeD 0 K.toNat) 0 (by simp [rangeD]) (fun d hd i δ μ hi ⟨a1, a2, a3, a4, hδ⟩ => by
    subst hδ
    obtain ⟨k, rfl, k0, k4⟩ := hr d hd
    obtain ⟨c, g, g0, es0⟩ := source_spec (μ := μ) hl k0 (by omega)
    have s0 : Src (μ ++ [.lst [.int c, .int (3 * k), .int g]]) μ.length 20 := ⟨c, 3 * k, g, by simp, by omega, by omega, g0⟩
    show ∃ δ' μ', (mSeq (mSet 2 (mCall m__law_source [(mV 0), (mV 1)] [])) (mFor (mRange1 (.e (mD (.int 3)))) (tgV 3) inner)) [some (.fr (.ro (ns.map .int))), some (.fr (.int k)), a2, a3, a4, none] μ = .nx δ' μ' ∧ _
    have h1 : mSet 2 (mCall m__law_source [(mV 0), (mV 1)] []) [some (.fr (.ro (ns.map .int))), some (.fr (.int k)), a2, a3, a4, none] μ = .nx [some (.fr (.ro (ns.map .int))), some (.fr (.int k)), some (.fr (.obj μ.length)), a3, a4, none] (μ ++ [.lst [.int c, .int (3 * k), .int g]]) := by
      simp [mSet, mCall, evA, mV, Out.bind, Out.thn, dfr, es, es0]
    rw [seq_nx h1]
    obtain ⟨δ2, μ2, e2, b3, b4, hδ2, _⟩ := forD_ix (g := turnD (tgV 3) inner) (fun i δ μ' => ∃ b3 b4, δ = [some (.fr (.ro (ns.map .int))), some (.fr (.int k)), some (.fr (.obj μ.length)), b3, b4, none] ∧ Src μ' μ.length (20 + i * 1000)) 3 (rangeD 0 3) 0 (by simp [rangeD]) (fun d hd i δ μ' hi ⟨b3, b4, hδ, hs⟩ => by
      subst hδ
      obtain ⟨c3, c4, μ3, e3, s3, _⟩ := inner_spec (d := d) (a0 := some (.fr (.ro (ns.map .int)))) (a1 := some (.fr (.int k))) (a3 := b3) (a4 := b4) hs (by omega)
      exact ⟨_, μ3, e3, c3, c4, rfl, s3.mono (by omega)⟩) _ _ ⟨a3, a4, rfl, s0.mono (by omega)⟩
    refine ⟨δ2, μ2, for_of (ds := rangeD 0 3) (δ1 := [some (.fr (.ro (ns.map .int))), some (.fr (.int k)), some (.fr (.obj μ.length)), a3, a4, none]) ?_ e2, ⟨_, _, b3, b4, hδ2⟩⟩
    simp [mRange1, evs, Opn.ev, mD, OR.at, OR.ats, look, Out.bind, dfr]) _ [] ⟨none, none, none, none, rfl⟩
  refine ⟨μ', fn_rt ?_⟩
  have hb : b_law = mSeq (mFor (mRange1 (.e (mC gMax2 [(.e (mD (.int 1))), (.e (mC gMin2 [(.e (mD (.int 4))), (.e (mC gLen [(.v 0)]))]))]))) (tgV 1) (mSeq (mSet 2 (mCall m__law_source [(mV 0), (mV 1)] [])) (mFor (mRange1 (.e (mD (.int 3)))) (tgV 3) inner))) (mRet (mD (.bl true))) := rfl
  rw [hb, seq_nx (for_of hK e)]
  rfl
end L08

namespace L08
open PySem PySem.Spec PyProof.Rows L2 FL
theorem all_in {P : Program} {w : World} {K : PySem.W.Frag} {h : Heap} {mg : Str → Option Value} {fa : Addr} (X : K.In h) (G : h.Ns mainGlobals mg) (hfa : mg "law" = some (.ref fa))
    {f__law_source f__law_next f__law_pick f__law_product f__law_fraction f_is_integer f_common_divisor f_reduced f_fraction f_is_fraction f_need_fraction f_divide f_add f_multiply f__law_score_right f__law_shared f__law_sum f__law_turned f__law_all_product f_is_less f__law_row_right f_law : Addr}
    {od__law_source an__law_source od__law_next an__law_next od__law_pick an__law_pick od__law_product an__law_product od__law_fraction an__law_fraction od_is_integer an_is_integer od_common_divisor an_common_divisor od_reduced an_reduced od_fraction an_fraction od_is_fraction an_is_fraction od_need_fraction an_need_fraction od_divide an_divide od_add an_add od_multiply an_multiply od__law_score_right an__law_score_right od__law_shared an__law_shared od__law_sum an__law_sum od__law_turned an__law_turned od__law_all_product an__law_all_product od_is_less an_is_less od__law_row_right an__law_row_right od_law an_law : Option Addr}
    {sl__law_source sl__law_next sl__law_pick sl__law_product sl__law_fraction sl_is_integer sl_common_divisor sl_reduced sl_fraction sl_is_fraction sl_need_fraction sl_divide sl_add sl_multiply sl__law_score_right sl__law_shared sl__law_sum sl__law_turned sl__law_all_product sl_is_less sl__law_row_right sl_law : Array (Option Value)}
    {oc__law_source kV__law_source dc__law_source pm__law_source cd__law_source ct__law_source oc__law_next kV__law_next dc__law_next pm__law_next cd__law_next ct__law_next oc__law_pick kV__law_pick dc__law_pick pm__law_pick cd__law_pick ct__law_pick oc__law_product kV__law_product dc__law_product pm__law_product cd__law_product ct__law_product oc__law_fraction kV__law_fraction dc__law_fraction pm__law_fraction cd__law_fraction ct__law_fraction oc_is_integer kV_is_integer dc_is_integer pm_is_integer cd_is_integer ct_is_integer oc_common_divisor kV_common_divisor dc_common_divisor pm_common_divisor cd_common_divisor ct_common_divisor oc_reduced kV_reduced dc_reduced pm_reduced cd_reduced ct_reduced oc_fraction kV_fraction dc_fraction pm_fraction cd_fraction ct_fraction oc_is_fraction kV_is_fraction dc_is_fraction pm_is_fraction cd_is_fraction ct_is_fraction oc_need_fraction kV_need_fraction dc_need_fraction pm_need_fraction cd_need_fraction ct_need_fraction oc_divide kV_divide dc_divide pm_divide cd_divide ct_divide oc_add kV_add dc_add pm_add cd_add ct_add oc_multiply kV_multiply dc_multiply pm_multiply cd_multiply ct_multiply oc__law_score_right kV__law_score_right dc__law_score_right pm__law_score_right cd__law_score_right ct__law_score_right oc__law_shared kV__law_shared dc__law_shared pm__law_shared cd__law_shared ct__law_shared oc__law_sum kV__law_sum dc__law_sum pm__law_sum cd__law_sum ct__law_sum oc__law_turned kV__law_turned dc__law_turned pm__law_turned cd__law_turned ct__law_turned oc__law_all_product kV__law_all_product dc__law_all_product pm__law_all_product cd__law_all_product ct__law_all_product oc_is_less kV_is_less dc_is_less pm_is_less cd_is_less ct_is_less oc__law_row_right kV__law_row_right dc__law_row_right pm__law_row_right cd__law_row_right ct__law_row_right oc_law kV_law dc_law pm_law cd_law ct_law : Value}
    (zn_abs : PySem.W.nsIn K mainGlobals "abs" = some none)
    (zn_bool : PySem.W.nsIn K mainGlobals "bool" = some none)
    (zn_int : PySem.W.nsIn K mainGlobals "int" = some none)
    (zn_isinstance : PySem.W.nsIn K mainGlobals "isinstance" = some none)
    (zn_len : PySem.W.nsIn K mainGlobals "len" = some none)
    (zn_list : PySem.W.nsIn K mainGlobals "list" = some none)
    (zn_max : PySem.W.nsIn K mainGlobals "max" = some none)
    (zn_min : PySem.W.nsIn K mainGlobals "min" = some none)
    (zn_range : PySem.W.nsIn K mainGlobals "range" = some none)
    (zn_repr : PySem.W.nsIn K mainGlobals "repr" = some none)
    (zn_sum : PySem.W.nsIn K mainGlobals "sum" = some none)
    (zn_tuple : PySem.W.nsIn K mainGlobals "tuple" = some none)
    (af__law_source : PySem.W.nsIn K mainGlobals "_law_source" = some (some (.ref f__law_source)))
    (lf__law_source : K.lookup f__law_source = some { cls := oc__law_source, dict := od__law_source, data := .func (PySem.W.fnOf "_law_source" "_law_source" (defArgs (tp 16)) (defBody (tp 16)) (defScope (tp 16)) .none kV__law_source dc__law_source pm__law_source an__law_source cd__law_source ct__law_source), slots := sl__law_source })
    (cf__law_source : PySem.W.codeIn K cd__law_source "_law_source" = true)
    (kf__law_source : PySem.W.keepIn K (.ref f__law_source) = true)
    (af__law_next : PySem.W.nsIn K mainGlobals "_law_next" = some (some (.ref f__law_next)))
    (lf__law_next : K.lookup f__law_next = some { cls := oc__law_next, dict := od__law_next, data := .func (PySem.W.fnOf "_law_next" "_law_next" (defArgs (tp 17)) (defBody (tp 17)) (defScope (tp 17)) .none kV__law_next dc__law_next pm__law_next an__law_next cd__law_next ct__law_next), slots := sl__law_next })
    (cf__law_next : PySem.W.codeIn K cd__law_next "_law_next" = true)
    (kf__law_next : PySem.W.keepIn K (.ref f__law_next) = true)
    (af__law_pick : PySem.W.nsIn K mainGlobals "_law_pick" = some (some (.ref f__law_pick)))
    (lf__law_pick : K.lookup f__law_pick = some { cls := oc__law_pick, dict := od__law_pick, data := .func (PySem.W.fnOf "_law_pick" "_law_pick" (defArgs (tp 18)) (defBody (tp 18)) (defScope (tp 18)) .none kV__law_pick dc__law_pick pm__law_pick an__law_pick cd__law_pick ct__law_pick), slots := sl__law_pick })
    (cf__law_pick : PySem.W.codeIn K cd__law_pick "_law_pick" = true)
    (kf__law_pick : PySem.W.keepIn K (.ref f__law_pick) = true)
    (af__law_product : PySem.W.nsIn K mainGlobals "_law_product" = some (some (.ref f__law_product)))
    (lf__law_product : K.lookup f__law_product = some { cls := oc__law_product, dict := od__law_product, data := .func (PySem.W.fnOf "_law_product" "_law_product" (defArgs (tp 19)) (defBody (tp 19)) (defScope (tp 19)) .none kV__law_product dc__law_product pm__law_product an__law_product cd__law_product ct__law_product), slots := sl__law_product })
    (cf__law_product : PySem.W.codeIn K cd__law_product "_law_product" = true)
    (kf__law_product : PySem.W.keepIn K (.ref f__law_product) = true)
    (af__law_fraction : PySem.W.nsIn K mainGlobals "_law_fraction" = some (some (.ref f__law_fraction)))
    (lf__law_fraction : K.lookup f__law_fraction = some { cls := oc__law_fraction, dict := od__law_fraction, data := .func (PySem.W.fnOf "_law_fraction" "_law_fraction" (defArgs (tp 20)) (defBody (tp 20)) (defScope (tp 20)) .none kV__law_fraction dc__law_fraction pm__law_fraction an__law_fraction cd__law_fraction ct__law_fraction), slots := sl__law_fraction })
    (cf__law_fraction : PySem.W.codeIn K cd__law_fraction "_law_fraction" = true)
    (kf__law_fraction : PySem.W.keepIn K (.ref f__law_fraction) = true)
    (af_is_integer : PySem.W.nsIn K mainGlobals "is_integer" = some (some (.ref f_is_integer)))
    (lf_is_integer : K.lookup f_is_integer = some { cls := oc_is_integer, dict := od_is_integer, data := .func (PySem.W.fnOf "is_integer" "is_integer" (defArgs (tp 4)) (defBody (tp 4)) (defScope (tp 4)) .none kV_is_integer dc_is_integer pm_is_integer an_is_integer cd_is_integer ct_is_integer), slots := sl_is_integer })
    (cf_is_integer : PySem.W.codeIn K cd_is_integer "is_integer" = true)
    (kf_is_integer : PySem.W.keepIn K (.ref f_is_integer) = true)
    (af_common_divisor : PySem.W.nsIn K mainGlobals "common_divisor" = some (some (.ref f_common_divisor)))
    (lf_common_divisor : K.lookup f_common_divisor = some { cls := oc_common_divisor, dict := od_common_divisor, data := .func (PySem.W.fnOf "common_divisor" "common_divisor" (defArgs (tp 5)) (defBody (tp 5)) (defScope (tp 5)) .none kV_common_divisor dc_common_divisor pm_common_divisor an_common_divisor cd_common_divisor ct_common_divisor), slots := sl_common_divisor })
    (cf_common_divisor : PySem.W.codeIn K cd_common_divisor "common_divisor" = true)
    (kf_common_divisor : PySem.W.keepIn K (.ref f_common_divisor) = true)
    (af_reduced : PySem.W.nsIn K mainGlobals "reduced" = some (some (.ref f_reduced)))
    (lf_reduced : K.lookup f_reduced = some { cls := oc_reduced, dict := od_reduced, data := .func (PySem.W.fnOf "reduced" "reduced" (defArgs (tp 8)) (defBody (tp 8)) (defScope (tp 8)) .none kV_reduced dc_reduced pm_reduced an_reduced cd_reduced ct_reduced), slots := sl_reduced })
    (cf_reduced : PySem.W.codeIn K cd_reduced "reduced" = true)
    (kf_reduced : PySem.W.keepIn K (.ref f_reduced) = true)
    (af_fraction : PySem.W.nsIn K mainGlobals "fraction" = some (some (.ref f_fraction)))
    (lf_fraction : K.lookup f_fraction = some { cls := oc_fraction, dict := od_fraction, data := .func (PySem.W.fnOf "fraction" "fraction" (defArgs (tp 10)) (defBody (tp 10)) (defScope (tp 10)) .none kV_fraction dc_fraction pm_fraction an_fraction cd_fraction ct_fraction), slots := sl_fraction })
    (cf_fraction : PySem.W.codeIn K cd_fraction "fraction" = true)
    (kf_fraction : PySem.W.keepIn K (.ref f_fraction) = true)
    (af_is_fraction : PySem.W.nsIn K mainGlobals "is_fraction" = some (some (.ref f_is_fraction)))
    (lf_is_fraction : K.lookup f_is_fraction = some { cls := oc_is_fraction, dict := od_is_fraction, data := .func (PySem.W.fnOf "is_fraction" "is_fraction" (defArgs (tp 6)) (defBody (tp 6)) (defScope (tp 6)) .none kV_is_fraction dc_is_fraction pm_is_fraction an_is_fraction cd_is_fraction ct_is_fraction), slots := sl_is_fraction })
    (cf_is_fraction : PySem.W.codeIn K cd_is_fraction "is_fraction" = true)
    (kf_is_fraction : PySem.W.keepIn K (.ref f_is_fraction) = true)
    (af_need_fraction : PySem.W.nsIn K mainGlobals "need_fraction" = some (some (.ref f_need_fraction)))
    (lf_need_fraction : K.lookup f_need_fraction = some { cls := oc_need_fraction, dict := od_need_fraction, data := .func (PySem.W.fnOf "need_fraction" "need_fraction" (defArgs (tp 9)) (defBody (tp 9)) (defScope (tp 9)) .none kV_need_fraction dc_need_fraction pm_need_fraction an_need_fraction cd_need_fraction ct_need_fraction), slots := sl_need_fraction })
    (cf_need_fraction : PySem.W.codeIn K cd_need_fraction "need_fraction" = true)
    (kf_need_fraction : PySem.W.keepIn K (.ref f_need_fraction) = true)
    (af_divide : PySem.W.nsIn K mainGlobals "divide" = some (some (.ref f_divide)))
    (lf_divide : K.lookup f_divide = some { cls := oc_divide, dict := od_divide, data := .func (PySem.W.fnOf "divide" "divide" (defArgs (tp 13)) (defBody (tp 13)) (defScope (tp 13)) .none kV_divide dc_divide pm_divide an_divide cd_divide ct_divide), slots := sl_divide })
    (cf_divide : PySem.W.codeIn K cd_divide "divide" = true)
    (kf_divide : PySem.W.keepIn K (.ref f_divide) = true)
    (af_add : PySem.W.nsIn K mainGlobals "add" = some (some (.ref f_add)))
    (lf_add : K.lookup f_add = some { cls := oc_add, dict := od_add, data := .func (PySem.W.fnOf "add" "add" (defArgs (tp 11)) (defBody (tp 11)) (defScope (tp 11)) .none kV_add dc_add pm_add an_add cd_add ct_add), slots := sl_add })
    (cf_add : PySem.W.codeIn K cd_add "add" = true)
    (kf_add : PySem.W.keepIn K (.ref f_add) = true)
    (af_multiply : PySem.W.nsIn K mainGlobals "multiply" = some (some (.ref f_multiply)))
    (lf_multiply : K.lookup f_multiply = some { cls := oc_multiply, dict := od_multiply, data := .func (PySem.W.fnOf "multiply" "multiply" (defArgs (tp 12)) (defBody (tp 12)) (defScope (tp 12)) .none kV_multiply dc_multiply pm_multiply an_multiply cd_multiply ct_multiply), slots := sl_multiply })
    (cf_multiply : PySem.W.codeIn K cd_multiply "multiply" = true)
    (kf_multiply : PySem.W.keepIn K (.ref f_multiply) = true)
    (af__law_score_right : PySem.W.nsIn K mainGlobals "_law_score_right" = some (some (.ref f__law_score_right)))
    (lf__law_score_right : K.lookup f__law_score_right = some { cls := oc__law_score_right, dict := od__law_score_right, data := .func (PySem.W.fnOf "_law_score_right" "_law_score_right" (defArgs (tp 26)) (defBody (tp 26)) (defScope (tp 26)) .none kV__law_score_right dc__law_score_right pm__law_score_right an__law_score_right cd__law_score_right ct__law_score_right), slots := sl__law_score_right })
    (cf__law_score_right : PySem.W.codeIn K cd__law_score_right "_law_score_right" = true)
    (kf__law_score_right : PySem.W.keepIn K (.ref f__law_score_right) = true)
    (af__law_shared : PySem.W.nsIn K mainGlobals "_law_shared" = some (some (.ref f__law_shared)))
    (lf__law_shared : K.lookup f__law_shared = some { cls := oc__law_shared, dict := od__law_shared, data := .func (PySem.W.fnOf "_law_shared" "_law_shared" (defArgs (tp 21)) (defBody (tp 21)) (defScope (tp 21)) .none kV__law_shared dc__law_shared pm__law_shared an__law_shared cd__law_shared ct__law_shared), slots := sl__law_shared })
    (cf__law_shared : PySem.W.codeIn K cd__law_shared "_law_shared" = true)
    (kf__law_shared : PySem.W.keepIn K (.ref f__law_shared) = true)
    (af__law_sum : PySem.W.nsIn K mainGlobals "_law_sum" = some (some (.ref f__law_sum)))
    (lf__law_sum : K.lookup f__law_sum = some { cls := oc__law_sum, dict := od__law_sum, data := .func (PySem.W.fnOf "_law_sum" "_law_sum" (defArgs (tp 23)) (defBody (tp 23)) (defScope (tp 23)) .none kV__law_sum dc__law_sum pm__law_sum an__law_sum cd__law_sum ct__law_sum), slots := sl__law_sum })
    (cf__law_sum : PySem.W.codeIn K cd__law_sum "_law_sum" = true)
    (kf__law_sum : PySem.W.keepIn K (.ref f__law_sum) = true)
    (af__law_turned : PySem.W.nsIn K mainGlobals "_law_turned" = some (some (.ref f__law_turned)))
    (lf__law_turned : K.lookup f__law_turned = some { cls := oc__law_turned, dict := od__law_turned, data := .func (PySem.W.fnOf "_law_turned" "_law_turned" (defArgs (tp 22)) (defBody (tp 22)) (defScope (tp 22)) .none kV__law_turned dc__law_turned pm__law_turned an__law_turned cd__law_turned ct__law_turned), slots := sl__law_turned })
    (cf__law_turned : PySem.W.codeIn K cd__law_turned "_law_turned" = true)
    (kf__law_turned : PySem.W.keepIn K (.ref f__law_turned) = true)
    (af__law_all_product : PySem.W.nsIn K mainGlobals "_law_all_product" = some (some (.ref f__law_all_product)))
    (lf__law_all_product : K.lookup f__law_all_product = some { cls := oc__law_all_product, dict := od__law_all_product, data := .func (PySem.W.fnOf "_law_all_product" "_law_all_product" (defArgs (tp 24)) (defBody (tp 24)) (defScope (tp 24)) .none kV__law_all_product dc__law_all_product pm__law_all_product an__law_all_product cd__law_all_product ct__law_all_product), slots := sl__law_all_product })
    (cf__law_all_product : PySem.W.codeIn K cd__law_all_product "_law_all_product" = true)
    (kf__law_all_product : PySem.W.keepIn K (.ref f__law_all_product) = true)
    (af_is_less : PySem.W.nsIn K mainGlobals "is_less" = some (some (.ref f_is_less)))
    (lf_is_less : K.lookup f_is_less = some { cls := oc_is_less, dict := od_is_less, data := .func (PySem.W.fnOf "is_less" "is_less" (defArgs (tp 14)) (defBody (tp 14)) (defScope (tp 14)) .none kV_is_less dc_is_less pm_is_less an_is_less cd_is_less ct_is_less), slots := sl_is_less })
    (cf_is_less : PySem.W.codeIn K cd_is_less "is_less" = true)
    (kf_is_less : PySem.W.keepIn K (.ref f_is_less) = true)
    (af__law_row_right : PySem.W.nsIn K mainGlobals "_law_row_right" = some (some (.ref f__law_row_right)))
    (lf__law_row_right : K.lookup f__law_row_right = some { cls := oc__law_row_right, dict := od__law_row_right, data := .func (PySem.W.fnOf "_law_row_right" "_law_row_right" (defArgs (tp 25)) (defBody (tp 25)) (defScope (tp 25)) .none kV__law_row_right dc__law_row_right pm__law_row_right an__law_row_right cd__law_row_right ct__law_row_right), slots := sl__law_row_right })
    (cf__law_row_right : PySem.W.codeIn K cd__law_row_right "_law_row_right" = true)
    (kf__law_row_right : PySem.W.keepIn K (.ref f__law_row_right) = true)
    (af_law : PySem.W.nsIn K mainGlobals "law" = some (some (.ref f_law)))
    (lf_law : K.lookup f_law = some { cls := oc_law, dict := od_law, data := .func (PySem.W.fnOf "law" "law" (defArgs (tp 27)) (defBody (tp 27)) (defScope (tp 27)) .none kV_law dc_law pm_law an_law cd_law ct_law), slots := sl_law })
    (cf_law : PySem.W.codeIn K cd_law "law" = true)
    (kf_law : PySem.W.keepIn K (.ref f_law) = true) :
    ∃ fd : FuncData, (∀ (s : Shared) (u : Value), BindsTo s fd ⟨[u], []⟩ [("_law_script", u)]) ∧ ∀ base : Heap, K.In base → base.Ns mainGlobals mg → FnG P w K mg base (L2.CX P w) 200 fa fd ["_law_script"] (spM K mg m_law 1) := by
  have e := hfa.symm.trans (PySem.W.mg_of X G af_law)
  cases e
  refine ⟨PySem.W.fnOf "law" "law" (defArgs (tp 27)) (defBody (tp 27)) (defScope (tp 27)) .none kV_law dc_law pm_law an_law cd_law ct_law, fun s u => .of_eq (by kernel_rfl), fun base _ _ => ?_⟩
  have T : Txt P w K mg base := ⟨PySem.W.mg_none_of X G zn_abs,
    PySem.W.mg_none_of X G zn_bool,
    PySem.W.mg_none_of X G zn_int,
    PySem.W.mg_none_of X G zn_isinstance,
    PySem.W.mg_none_of X G zn_len,
    PySem.W.mg_none_of X G zn_list,
    PySem.W.mg_none_of X G zn_max,
    PySem.W.mg_none_of X G zn_min,
    PySem.W.mg_none_of X G zn_range,
    PySem.W.mg_none_of X G zn_repr,
    PySem.W.mg_none_of X G zn_sum,
    PySem.W.mg_none_of X G zn_tuple,
    ⟨f__law_source, _, ⟨_, _, _, _, _, _, _, _, _, rfl, lf__law_source, cf__law_source⟩, PySem.W.mg_of X G af__law_source, kf__law_source⟩,
    ⟨f__law_next, _, ⟨_, _, _, _, _, _, _, _, _, rfl, lf__law_next, cf__law_next⟩, PySem.W.mg_of X G af__law_next, kf__law_next⟩,
    ⟨f__law_pick, _, ⟨_, _, _, _, _, _, _, _, _, rfl, lf__law_pick, cf__law_pick⟩, PySem.W.mg_of X G af__law_pick, kf__law_pick⟩,
    ⟨f__law_product, _, ⟨_, _, _, _, _, _, _, _, _, rfl, lf__law_product, cf__law_product⟩, PySem.W.mg_of X G af__law_product, kf__law_product⟩,
    ⟨f__law_fraction, _, ⟨_, _, _, _, _, _, _, _, _, rfl, lf__law_fraction, cf__law_fraction⟩, PySem.W.mg_of X G af__law_fraction, kf__law_fraction⟩,
    ⟨f_is_integer, _, ⟨_, _, _, _, _, _, _, _, _, rfl, lf_is_integer, cf_is_integer⟩, PySem.W.mg_of X G af_is_integer, kf_is_integer⟩,
    ⟨f_common_divisor, _, ⟨_, _, _, _, _, _, _, _, _, rfl, lf_common_divisor, cf_common_divisor⟩, PySem.W.mg_of X G af_common_divisor, kf_common_divisor⟩,
    ⟨f_reduced, _, ⟨_, _, _, _, _, _, _, _, _, rfl, lf_reduced, cf_reduced⟩, PySem.W.mg_of X G af_reduced, kf_reduced⟩,
    ⟨f_fraction, _, ⟨_, _, _, _, _, _, _, _, _, rfl, lf_fraction, cf_fraction⟩, PySem.W.mg_of X G af_fraction, kf_fraction⟩,
    ⟨f_is_fraction, _, ⟨_, _, _, _, _, _, _, _, _, rfl, lf_is_fraction, cf_is_fraction⟩, PySem.W.mg_of X G af_is_fraction, kf_is_fraction⟩,
    ⟨f_need_fraction, _, ⟨_, _, _, _, _, _, _, _, _, rfl, lf_need_fraction, cf_need_fraction⟩, PySem.W.mg_of X G af_need_fraction, kf_need_fraction⟩,
    ⟨f_divide, _, ⟨_, _, _, _, _, _, _, _, _, rfl, lf_divide, cf_divide⟩, PySem.W.mg_of X G af_divide, kf_divide⟩,
    ⟨f_add, _, ⟨_, _, _, _, _, _, _, _, _, rfl, lf_add, cf_add⟩, PySem.W.mg_of X G af_add, kf_add⟩,
    ⟨f_multiply, _, ⟨_, _, _, _, _, _, _, _, _, rfl, lf_multiply, cf_multiply⟩, PySem.W.mg_of X G af_multiply, kf_multiply⟩,
    ⟨f__law_score_right, _, ⟨_, _, _, _, _, _, _, _, _, rfl, lf__law_score_right, cf__law_score_right⟩, PySem.W.mg_of X G af__law_score_right, kf__law_score_right⟩,
    ⟨f__law_shared, _, ⟨_, _, _, _, _, _, _, _, _, rfl, lf__law_shared, cf__law_shared⟩, PySem.W.mg_of X G af__law_shared, kf__law_shared⟩,
    ⟨f__law_sum, _, ⟨_, _, _, _, _, _, _, _, _, rfl, lf__law_sum, cf__law_sum⟩, PySem.W.mg_of X G af__law_sum, kf__law_sum⟩,
    ⟨f__law_turned, _, ⟨_, _, _, _, _, _, _, _, _, rfl, lf__law_turned, cf__law_turned⟩, PySem.W.mg_of X G af__law_turned, kf__law_turned⟩,
    ⟨f__law_all_product, _, ⟨_, _, _, _, _, _, _, _, _, rfl, lf__law_all_product, cf__law_all_product⟩, PySem.W.mg_of X G af__law_all_product, kf__law_all_product⟩,
    ⟨f_is_less, _, ⟨_, _, _, _, _, _, _, _, _, rfl, lf_is_less, cf_is_less⟩, PySem.W.mg_of X G af_is_less, kf_is_less⟩,
    ⟨f__law_row_right, _, ⟨_, _, _, _, _, _, _, _, _, rfl, lf__law_row_right, cf__law_row_right⟩, PySem.W.mg_of X G af__law_row_right, kf__law_row_right⟩⟩
  exact (g_law ⟨_, _, _, _, _, _, _, _, _, rfl, lf_law, cf_law⟩ T).mono (by decide)

end L08


open PySem PySem.W PyProof.Rows in
set_option maxRecDepth 100000 in
set_option maxHeartbeats 0 in
theorem PySem.Challenge.cw_findlang_k08_whole_rows_of_fractions_holds : PySem.Challenge.rw_findlang_k08_whole_rows_of_fractions.Holds := by
  w_on; o_law; k_head; (case hw => w_witness2)
  k_fill
  refine FL.walkG (l := PySem.Challenge.rw_findlang_k08_whole_rows_of_fractions) (k := 200) (m := L08.m_law) (x := "_law_script") rfl rfl FL.room_caller (fun w h Y => PySem.W.kIn_of Y) ?F L08.law_ok
  case F =>
    intro w mg fa h KX G hmg
    refine' L08.all_in KX G hmg ?zn_abs ?zn_bool ?zn_int ?zn_isinstance ?zn_len ?zn_list ?zn_max ?zn_min ?zn_range ?zn_repr ?zn_sum ?zn_tuple ?af__law_source ?lf__law_source ?cf__law_source ?kf__law_source ?af__law_next ?lf__law_next ?cf__law_next ?kf__law_next ?af__law_pick ?lf__law_pick ?cf__law_pick ?kf__law_pick ?af__law_product ?lf__law_product ?cf__law_product ?kf__law_product ?af__law_fraction ?lf__law_fraction ?cf__law_fraction ?kf__law_fraction ?af_is_integer ?lf_is_integer ?cf_is_integer ?kf_is_integer ?af_common_divisor ?lf_common_divisor ?cf_common_divisor ?kf_common_divisor ?af_reduced ?lf_reduced ?cf_reduced ?kf_reduced ?af_fraction ?lf_fraction ?cf_fraction ?kf_fraction ?af_is_fraction ?lf_is_fraction ?cf_is_fraction ?kf_is_fraction ?af_need_fraction ?lf_need_fraction ?cf_need_fraction ?kf_need_fraction ?af_divide ?lf_divide ?cf_divide ?kf_divide ?af_add ?lf_add ?cf_add ?kf_add ?af_multiply ?lf_multiply ?cf_multiply ?kf_multiply ?af__law_score_right ?lf__law_score_right ?cf__law_score_right ?kf__law_score_right ?af__law_shared ?lf__law_shared ?cf__law_shared ?kf__law_shared ?af__law_sum ?lf__law_sum ?cf__law_sum ?kf__law_sum ?af__law_turned ?lf__law_turned ?cf__law_turned ?kf__law_turned ?af__law_all_product ?lf__law_all_product ?cf__law_all_product ?kf__law_all_product ?af_is_less ?lf_is_less ?cf_is_less ?kf_is_less ?af__law_row_right ?lf__law_row_right ?cf__law_row_right ?kf__law_row_right ?af_law ?lf_law ?cf_law ?kf_law
    (case zn_abs => k_is)
    (case zn_bool => k_is)
    (case zn_int => k_is)
    (case zn_isinstance => k_is)
    (case zn_len => k_is)
    (case zn_list => k_is)
    (case zn_max => k_is)
    (case zn_min => k_is)
    (case zn_range => k_is)
    (case zn_repr => k_is)
    (case zn_sum => k_is)
    (case zn_tuple => k_is)
    (case af__law_source => k_is)
    (case lf__law_source => k_is)
    (case cf__law_source => k_is)
    (case kf__law_source => k_is)
    (case af__law_next => k_is)
    (case lf__law_next => k_is)
    (case cf__law_next => k_is)
    (case kf__law_next => k_is)
    (case af__law_pick => k_is)
    (case lf__law_pick => k_is)
    (case cf__law_pick => k_is)
    (case kf__law_pick => k_is)
    (case af__law_product => k_is)
    (case lf__law_product => k_is)
    (case cf__law_product => k_is)
    (case kf__law_product => k_is)
    (case af__law_fraction => k_is)
    (case lf__law_fraction => k_is)
    (case cf__law_fraction => k_is)
    (case kf__law_fraction => k_is)
    (case af_is_integer => k_is)
    (case lf_is_integer => k_is)
    (case cf_is_integer => k_is)
    (case kf_is_integer => k_is)
    (case af_common_divisor => k_is)
    (case lf_common_divisor => k_is)
    (case cf_common_divisor => k_is)
    (case kf_common_divisor => k_is)
    (case af_reduced => k_is)
    (case lf_reduced => k_is)
    (case cf_reduced => k_is)
    (case kf_reduced => k_is)
    (case af_fraction => k_is)
    (case lf_fraction => k_is)
    (case cf_fraction => k_is)
    (case kf_fraction => k_is)
    (case af_is_fraction => k_is)
    (case lf_is_fraction => k_is)
    (case cf_is_fraction => k_is)
    (case kf_is_fraction => k_is)
    (case af_need_fraction => k_is)
    (case lf_need_fraction => k_is)
    (case cf_need_fraction => k_is)
    (case kf_need_fraction => k_is)
    (case af_divide => k_is)
    (case lf_divide => k_is)
    (case cf_divide => k_is)
    (case kf_divide => k_is)
    (case af_add => k_is)
    (case lf_add => k_is)
    (case cf_add => k_is)
    (case kf_add => k_is)
    (case af_multiply => k_is)
    (case lf_multiply => k_is)
    (case cf_multiply => k_is)
    (case kf_multiply => k_is)
    (case af__law_score_right => k_is)
    (case lf__law_score_right => k_is)
    (case cf__law_score_right => k_is)
    (case kf__law_score_right => k_is)
    (case af__law_shared => k_is)
    (case lf__law_shared => k_is)
    (case cf__law_shared => k_is)
    (case kf__law_shared => k_is)
    (case af__law_sum => k_is)
    (case lf__law_sum => k_is)
    (case cf__law_sum => k_is)
    (case kf__law_sum => k_is)
    (case af__law_turned => k_is)
    (case lf__law_turned => k_is)
    (case cf__law_turned => k_is)
    (case kf__law_turned => k_is)
    (case af__law_all_product => k_is)
    (case lf__law_all_product => k_is)
    (case cf__law_all_product => k_is)
    (case kf__law_all_product => k_is)
    (case af_is_less => k_is)
    (case lf_is_less => k_is)
    (case cf_is_less => k_is)
    (case kf_is_less => k_is)
    (case af__law_row_right => k_is)
    (case lf__law_row_right => k_is)
    (case cf__law_row_right => k_is)
    (case kf__law_row_right => k_is)
    (case af_law => k_is)
    (case lf_law => k_is)
    (case cf_law => k_is)
    (case kf_law => k_is)
