import PyProof.Rows.All
import PySem.Challenge.RW_findlang_k09_terms_prefixes_and_ranges
import Wide.All
import OpenK.AllK
import Wide.FinOn
import HandS.ForMost
import HandS.ForExc
import HandS.CallSlots
import HandS.ExcInit
import HandS.Wide
import HandS.IsInst
import HandS.Flow
import HandS.Lambda
import HandS.EndTab
import HandS.TupAny
import KE.KExcSuper
import KE.KDflt
import HandS.Style
import KE.KExcIs
import HandS.Property
import HandS.MakeKwOnly
import HandS.ClsMeth
import HandS.Nested
import HandS.HeadHook1
import HandS.Head2
import HandS.More
import HandS.SortRule
import HandS.Iter
import HandS.Deep
import HandS.DictComp
import KE.GoesEnum
import HandS.FStr
import HandS.SetTxt0
import HandS.SetFor
import HandS.SortOrd
import HandS.Strs
import HandS.Conv
import HandS.SortInts
import HandS.Star
import HandS.OwnEq
import HandS.ListEq
import HandS.Text
import HandS.GenList
import KE.KUnpackStar
import KE.KOpsOwn
import HandS.NoneIn
import PyProof.RulesMatch
import PyProof.WalksMore
import PyProof.P3Eq
set_option Elab.async false
set_option linter.all false
set_option maxRecDepth 100000
set_option maxHeartbeats 4000000
namespace FL
open PySem L2 LamX
abbrev Tx := List Nat
def toS (x : Tx) : Str := ⟨x.toArray⟩
theorem toS_inj {x y : Tx} (h : toS x = toS y) : x = y := by
  have := congrArg (fun z => z.cps.toList) h
  simpa [toS] using this
def lit (s : String) : Tx := s.toList.map Char.toNat
inductive DK where
  | i (n : Int) | s (x : Tx)
  deriving DecidableEq
def DK.key : DK → Key
  | .i n => .inl n
  | .s x => .inr (toS x)
inductive D where
  | non | bl (b : Bool) | int (i : Int) | str (x : Tx)
  | lst (xs : List D) | tup (xs : List D)
  | ro (xs : List D)
  | dct (ks : List DK) (vs : List D)
  | obj (k : Nat)
  | glo (x : String)
  | ty (n : String)
  | exn (c attr : String) (v : D)
  | ins (c : String) (ks : List String) (vs : List D)
  | unk
inductive Own where
  | lst (xs : List D)
  | dct (ks : List DK) (vs : List D)
  | tab (P : Addr) (q : Str)
  | ins (c : String) (kd : Nat) (ks : List String) (vs : List D)
  | idc (k : Nat)
def Own.d : Own → D
  | .lst xs => .lst xs
  | .dct ks vs => .dct ks vs
  | .tab _ _ => .unk
  | .ins _ _ _ _ => .unk
  | .idc _ => .unk
inductive Slot where
  | fr (d : D) | own (o : Own)
def Slot.d : Slot → D
  | .fr d => d
  | .own o => o.d
def ErrO (a : Addr) (cls : Value) (d : Option Addr) : HO := .ext fun h => ∃ oe vs, h.get? a = some oe ∧ oe.cls = cls ∧ oe.dict = d ∧ oe.data = .fields vs
section
variable (K : PySem.W.Frag) (mg : Str → Option Value) (F : Hp) (ρ : List Addr)
mutual
inductive Rep : V → D → Prop where
  | non : Rep .non .non
  | bl {b} : Rep (.bl b) (.bl b)
  | int {i} : Rep (.int i) (.int i)
  | str {x} : Rep (.str (toS x)) (.str x)
  | lst {p vs ds} (h : F p = some (.lst vs)) (r : RepL vs ds) : Rep (.ref p) (.lst ds)
  | ro {p vs ds} (h : SqL K F p vs) (r : RepL vs ds) : Rep (.ref p) (.ro ds)
  | tup {p vs ds} (h : SqT K F p vs) (r : RepL vs ds) : Rep (.ref p) (.tup ds)
  | dct {p ks vs ds} (h : Rd F p (.dK ((ks.map DK.key).zip vs))) (l : ks.length = vs.length) (r : RepL vs ds) : Rep (.ref p) (.dct ks ds)
  | obj {k p} (h : ρ[k]? = some p) : Rep (.ref p) (.obj k)
  | glo {x v u} (h : mg (Str.ofString x) = some u) (r : RelV v u) : Rep v (.glo x)
  | ty {n} : Rep (.ty n) (.ty n)
  | exn {c attr C dx v d p} (h : mg (Str.ofString c) = some (.ref C)) (e : Rd F dx (.xd [(Str.ofString attr, v)])) (o : F p = some (ErrO p (.ref C) (some dx))) (r : Rep v d) : Rep (.ref p) (.exn c attr d)
  | ins {c C dx ks vs ds p} (h : mg (Str.ofString c) = some (.ref C)) (e : F p = some (.ins C dx ((ks.map Str.ofString).zip vs))) (o : F dx = some (.own p)) (l : ks.length = vs.length) (r : RepL vs ds) : Rep (.ref p) (.ins c ks ds)
  | unk {p} : Rep (.ref p) .unk
inductive RepL : List V → List D → Prop where
  | nil : RepL [] []
  | cons {v d vs ds} (h : Rep v d) (t : RepL vs ds) : RepL (v :: vs) (d :: ds)
end
end
structure Le (Z F F' : Hp) : Prop where
  to : ∀ p o, F p = some o → F' p = some o
  new : ∀ p o, F' p = some o → F p = some o ∨ Z p = none
structure LeR (Z : Hp) (ρ ρ' : List Addr) : Prop where
  to : ∀ (k : Nat) p, ρ[k]? = some p → ρ'[k]? = some p
  new : ∀ p ∈ ρ', p ∈ ρ ∨ Z p = none
theorem Le.refl {Z F : Hp} : Le Z F F := ⟨fun _ _ h => h, fun _ _ h => .inl h⟩
theorem Le.trans {Z F F1 F2 : Hp} (a : Le Z F F1) (b : Le Z F1 F2) : Le Z F F2 :=
  ⟨fun p o h => b.to p o (a.to p o h), fun p o h => (b.new p o h).elim (fun h => a.new p o h) .inr⟩
theorem LeR.refl {Z : Hp} {ρ : List Addr} : LeR Z ρ ρ := ⟨fun _ _ h => h, fun _ h => .inl h⟩
theorem LeR.trans {Z : Hp} {ρ ρ1 ρ2 : List Addr} (a : LeR Z ρ ρ1) (b : LeR Z ρ1 ρ2) : LeR Z ρ ρ2 :=
  ⟨fun k p h => b.to k p (a.to k p h), fun p h => (b.new p h).elim (fun h => a.new p h) .inr⟩
section
variable {K : PySem.W.Frag} {mg : Str → Option Value} {Z F F' : Hp} {ρ ρ' : List Addr}
theorem Rd.up (l : ∀ p o, F p = some o → F' p = some o) {p : Addr} {u : HO} (h : Rd F p u) : Rd F' p u := by
  rcases h with h | ⟨o, h⟩
  · exact .inl (l _ _ h)
  · exact .inr ⟨o, l _ _ h⟩
theorem SqL.up (l : ∀ p o, F p = some o → F' p = some o) {p : Addr} {xs : List V} (h : SqL K F p xs) : SqL K F' p xs :=
  h.elim (fun h => .inl (Rd.up l h)) .inr
theorem SqT.up (l : ∀ p o, F p = some o → F' p = some o) {p : Addr} {xs : List V} (h : SqT K F p xs) : SqT K F' p xs :=
  h.elim (fun h => .inl (Rd.up l h)) .inr
mutual
theorem Rep.up (l : ∀ p o, F p = some o → F' p = some o) (lr : ∀ (k : Nat) p, ρ[k]? = some p → ρ'[k]? = some p) :
    ∀ {v : V} {d : D}, Rep K mg F ρ v d → Rep K mg F' ρ' v d
  | _, _, .non => .non
  | _, _, .bl => .bl
  | _, _, .int => .int
  | _, _, .str => .str
  | _, _, .lst h r => .lst (l _ _ h) (RepL.up l lr r)
  | _, _, .ro h r => .ro (SqL.up l h) (RepL.up l lr r)
  | _, _, .tup h r => .tup (SqT.up l h) (RepL.up l lr r)
  | _, _, .dct h e r => .dct (Rd.up l h) e (RepL.up l lr r)
  | _, _, .obj h => .obj (lr _ _ h)
  | _, _, .glo h r => .glo h r
  | _, _, .ty => .ty
  | _, _, .exn h e o r => .exn h (Rd.up l e) (l _ _ o) (Rep.up l lr r)
  | _, _, .ins h e o n r => .ins h (l _ _ e) (l _ _ o) n (RepL.up l lr r)
  | _, _, .unk => .unk
theorem RepL.up (l : ∀ p o, F p = some o → F' p = some o) (lr : ∀ (k : Nat) p, ρ[k]? = some p → ρ'[k]? = some p) :
    ∀ {vs : List V} {ds : List D}, RepL K mg F ρ vs ds → RepL K mg F' ρ' vs ds
  | _, _, .nil => .nil
  | _, _, .cons h t => .cons (Rep.up l lr h) (RepL.up l lr t)
end
theorem RepL.len : ∀ {vs : List V} {ds : List D}, RepL K mg F ρ vs ds → vs.length = ds.length
  | _, _, .nil => rfl
  | _, _, .cons _ t => by rw [List.length_cons, List.length_cons, RepL.len t]
theorem RepL.app : ∀ {vs ws : List V} {ds es : List D}, RepL K mg F ρ vs ds → RepL K mg F ρ ws es → RepL K mg F ρ (vs ++ ws) (ds ++ es)
  | _, _, _, _, .nil, h => h
  | _, _, _, _, .cons h t, r => .cons h (RepL.app t r)
theorem RepL.get : ∀ {vs : List V} {ds : List D} {i : Nat} {d : D}, RepL K mg F ρ vs ds → ds[i]? = some d → ∃ v, vs[i]? = some v ∧ Rep K mg F ρ v d
  | _, _, _, _, .nil, e => by simp at e
  | _, _, 0, _, .cons h _, e => by simp at e; subst e; exact ⟨_, rfl, h⟩
  | _, _, i + 1, _, .cons _ t, e => by
    obtain ⟨v, h1, h2⟩ := RepL.get (i := i) t (by simpa using e)
    exact ⟨v, by simpa using h1, h2⟩
theorem RepL.drop : ∀ {vs : List V} {ds : List D} (n : Nat), RepL K mg F ρ vs ds → RepL K mg F ρ (vs.drop n) (ds.drop n)
  | _, _, 0, r => r
  | _, _, _ + 1, .nil => .nil
  | _, _, n + 1, .cons h t => RepL.drop n t
theorem RepL.set {v : V} {d : D} (r : Rep K mg F ρ v d) : ∀ {vs : List V} {ds : List D} (i : Nat), RepL K mg F ρ vs ds → RepL K mg F ρ (vs.set i v) (ds.set i d)
  | _, _, _, .nil => .nil
  | _, _, 0, .cons _ t => .cons r t
  | _, _, i + 1, .cons h t => .cons h (RepL.set r i t)
end
abbrev Loc := List (Option Slot)
abbrev Mem := List Own
section
variable (K : PySem.W.Frag) (mg : Str → Option Value)
def OwnR (F : Hp) (ρ : List Addr) (H : Hp) (p : Addr) : Own → Prop
  | .lst ds => ∃ vs, H p = some (.lst vs) ∧ RepL K mg F ρ vs ds
  | .dct ks ds => ∃ vs, H p = some (.dK ((ks.map DK.key).zip vs)) ∧ ks.length = vs.length ∧ RepL K mg F ρ vs ds
  | .ins c kd ks ds => ∃ C dx vs, mg (Str.ofString c) = some (.ref C) ∧ ρ[kd]? = some dx ∧ H p = some (.ins C dx ((ks.map Str.ofString).zip vs)) ∧ ks.length = vs.length ∧ RepL K mg F ρ vs ds
  | .idc k => ∃ q, ρ[k]? = some q ∧ H p = some (.own q)
  | .tab P q => p = P ∧ ∃ ps, H p = some (.tbl ps) ∧ TriplesOk ps.toList ∧ ∀ (pos : Pos) (cv : Value), codeAmong pos ps.toList = some cv → ∃ c, cv = .ref c ∧ F c = some (CodeO c q)
structure Free (Z F : Hp) (ρ : List Addr) (p : Addr) : Prop where
  f : F p = none
  z : Z p = none
  r : p ∉ ρ
def SlotR (Z F : Hp) (ρ : List Addr) (H : Hp) (v : V) : Slot → Prop
  | .fr d => Rep K mg F ρ v d
  | .own o => ∃ p, v = .ref p ∧ Free Z F ρ p ∧ OwnR K mg F ρ H p o
structure Sim (Z F : Hp) (ρ : List Addr) (μ : Mem) (δ : Loc) (σ : St) (H : Hp) : Prop where
  le : ∀ p o, F p = some o → H p = some o ∨ ∃ ob kvs, o = .dK kvs ∧ H p = some (.frz ob (.dK kvs))
  zk : ∀ p o, Z p = some o → H p = some o
  len : σ.length = δ.length
  slot : ∀ (i : Nat) s, δ[i]? = some (some s) → ∃ v, σ[i]? = some (some v) ∧ SlotR K mg Z F ρ H v s
  apart : ∀ (i j : Nat) p s s', δ[i]? = some (some (.own s)) → δ[j]? = some (some (.own s')) → σ[i]? = some (some (.ref p)) → σ[j]? = some (some (.ref p)) → i = j
  mem : ∀ (k : Nat) c, μ[k]? = some c → ∃ a, ρ[k]? = some a ∧ F a = none ∧ Z a = none ∧ OwnR K mg F ρ H a c
  mlen : ρ.length = μ.length
  nod : ρ.Nodup
structure VR (Z F : Hp) (ρ : List Addr) (δ : Loc) (σ : St) (H : Hp) (v : V) (s : Slot) : Prop where
  r : SlotR K mg Z F ρ H v s
  no : ∀ o p, s = .own o → v = .ref p → ∀ (i : Nat) o', δ[i]? = some (some (.own o')) → σ[i]? ≠ some (some (.ref p))
end
section
variable {K : PySem.W.Frag} {mg : Str → Option Value} {Z F F' : Hp} {ρ ρ' : List Addr} {μ : Mem} {δ : Loc} {σ : St} {H H' : Hp} {p : Addr} {o : HO} {v : V} {s : Slot}
theorem OwnR.up {c : Own} (l : ∀ p o, F p = some o → F' p = some o) (lr : ∀ (k : Nat) p, ρ[k]? = some p → ρ'[k]? = some p) (hp : H' p = H p) (h : OwnR K mg F ρ H p c) : OwnR K mg F' ρ' H' p c := by
  cases c with
  | lst ds =>
    obtain ⟨vs, e, r⟩ := h
    exact ⟨vs, by rw [hp]; exact e, r.up l lr⟩
  | dct ks ds =>
    obtain ⟨vs, e, n, r⟩ := h
    exact ⟨vs, by rw [hp]; exact e, n, r.up l lr⟩
  | tab P q =>
    obtain ⟨e0, ps, e, t, r⟩ := h
    exact ⟨e0, ps, by rw [hp]; exact e, t, fun pos cv hc => by
      obtain ⟨c, e1, e2⟩ := r pos cv hc
      exact ⟨c, e1, l _ _ e2⟩⟩
  | ins c kd ks ds =>
    obtain ⟨C, dx, vs, e1, e2, e3, n, r⟩ := h
    exact ⟨C, dx, vs, e1, lr _ _ e2, by rw [hp]; exact e3, n, r.up l lr⟩
  | idc k =>
    obtain ⟨q, e1, e2⟩ := h
    exact ⟨q, lr _ _ e1, by rw [hp]; exact e2⟩
theorem OwnR.some {c : Own} (h : OwnR K mg F ρ H p c) : ∃ o, H p = Option.some o := by
  cases c with
  | lst ds => obtain ⟨vs, e, r⟩ := h; exact ⟨_, e⟩
  | dct ks ds => obtain ⟨vs, e, n, r⟩ := h; exact ⟨_, e⟩
  | tab P q => obtain ⟨_, ps, e, _⟩ := h; exact ⟨_, e⟩
  | ins c kd ks ds => obtain ⟨C, dx, vs, _, _, e, _⟩ := h; exact ⟨_, e⟩
  | idc k => obtain ⟨q, _, e⟩ := h; exact ⟨_, e⟩
theorem Sim.rd (S : Sim K mg Z F ρ μ δ σ H) {u : HO} (h : Rd F p u) : Rd H p u := by
  rcases h with h | ⟨ob, h⟩
  · rcases S.le p u h with q | ⟨ob, kvs, e, q⟩
    · exact .inl q
    · subst e; exact .inr ⟨ob, q⟩
  · rcases S.le p _ h with q | ⟨ob, kvs, e, q⟩
    · exact .inr ⟨_, q⟩
    · have e' : HO.frz _ u = HO.dK kvs := e
      cases e'
theorem Sim.notIn (S : Sim K mg Z F ρ μ δ σ H) (h : H p = none) : F p = none ∧ Z p = none ∧ p ∉ ρ ∧ ∀ (i : Nat) s, δ[i]? = some (some (.own s)) → σ[i]? ≠ some (some (.ref p)) := by
  refine ⟨?_, ?_, ?_, ?_⟩
  · cases e : F p with
    | none => rfl
    | some o =>
      rcases S.le p o e with q | ⟨_, _, _, q⟩ <;> rw [h] at q <;> cases q
  · cases e : Z p with
    | none => rfl
    | some o => have := S.zk p o e; rw [h] at this; cases this
  · intro hm
    obtain ⟨k, hk⟩ := List.getElem?_of_mem hm
    have hlt : k < μ.length := by
      rw [← S.mlen]; exact (List.getElem?_eq_some_iff.mp hk).1
    obtain ⟨a, e, _, _, r⟩ := S.mem k μ[k] (List.getElem?_eq_getElem hlt)
    rw [hk] at e; cases e
    obtain ⟨o, q⟩ := r.some
    rw [h] at q; cases q
  · intro i s hi hs
    obtain ⟨v, e, p', ev, fr, r⟩ := S.slot i _ hi
    rw [hs] at e; cases e
    cases ev
    obtain ⟨o, q⟩ := r.some
    rw [h] at q; cases q
theorem Sim.free (S : Sim K mg Z F ρ μ δ σ H) (h : H p = none) : Free Z F ρ p := let ⟨a, b, c, _⟩ := S.notIn h; ⟨a, b, c⟩
theorem Sim.heap (S : Sim K mg Z F ρ μ δ σ H) (hk : ∀ a, a ≠ p → H' a = H a) (hF : F p = none) (hZ : Z p = none) (hρ : p ∉ ρ)
    (hs : ∀ (i : Nat) s, δ[i]? = some (some (.own s)) → σ[i]? ≠ some (some (.ref p))) : Sim K mg Z F ρ μ δ σ H' := by
  refine ⟨fun a u h => ?_, fun a u h => ?_, S.len, fun i s h => ?_, S.apart, fun k c h => ?_, S.mlen, S.nod⟩
  · have ne : a ≠ p := fun e => by
      subst e
      rw [hF] at h; cases h
    have := S.le a u h
    rw [hk a ne]; exact this
  · have ne : a ≠ p := fun e => by subst e; rw [hZ] at h; cases h
    rw [hk a ne]; exact S.zk a u h
  · obtain ⟨v, e, r⟩ := S.slot i s h
    refine ⟨v, e, ?_⟩
    cases s with
    | fr d => exact r
    | own c =>
      obtain ⟨q, ev, fr, r⟩ := r
      subst ev
      have ne : q ≠ p := fun z => by subst z; exact hs i c h e
      exact ⟨q, rfl, fr, r.up (fun _ _ h => h) (fun _ _ h => h) (hk q ne)⟩
  · obtain ⟨a, e, f1, f2, r⟩ := S.mem k c h
    have ne : a ≠ p := fun z => by subst z; exact hρ (List.mem_of_getElem? e)
    exact ⟨a, e, f1, f2, r.up (fun _ _ h => h) (fun _ _ h => h) (hk a ne)⟩
theorem Sim.laid (S : Sim K mg Z F ρ μ δ σ H) (h : H p = none) : Sim K mg Z F ρ μ δ σ (upd H p o) := by
  obtain ⟨a, b, c, d⟩ := S.notIn h
  exact S.heap (fun q ne => upd_ne ne) a b c d
theorem Sim.freeze (S : Sim K mg Z F ρ μ δ σ H) (h : H p = some o) (fr : Free Z F ρ p) (hs : ∀ (i : Nat) s, δ[i]? = some (some (.own s)) → σ[i]? ≠ some (some (.ref p))) :
    Le Z F (upd F p o) ∧ Sim K mg Z (upd F p o) ρ μ δ σ H := by
  have to : ∀ q u, F q = some u → upd F p o q = some u := fun q u e => by
    rw [upd_ne (fun z => by subst z; rw [fr.f] at e; cases e)]; exact e
  refine ⟨⟨to, fun q u e => ?_⟩, ⟨fun q u e => ?_, S.zk, S.len, fun i s e => ?_, S.apart, fun k c e => ?_, S.mlen, S.nod⟩⟩
  · by_cases z : q = p
    · subst z; exact .inr fr.z
    · rw [upd_ne z] at e; exact .inl e
  · by_cases z : q = p
    · subst z
      rw [upd_same] at e; cases e; exact .inl h
    · refine S.le q u ?_
      rw [upd_ne z] at e; exact e
  · obtain ⟨v, e1, r⟩ := S.slot i s e
    refine ⟨v, e1, ?_⟩
    cases s with
    | fr d => exact Rep.up to (fun _ _ h => h) r
    | own c =>
      obtain ⟨q, ev, f1, r⟩ := r
      subst ev
      have ne : q ≠ p := fun z => by subst z; exact hs i c e e1
      exact ⟨q, rfl, ⟨by rw [upd_ne ne]; exact f1.f, f1.z, f1.r⟩, r.up to (fun _ _ h => h) rfl⟩
  · obtain ⟨a, e1, f1, f2, r⟩ := S.mem k c e
    have ne : a ≠ p := fun z => by subst z; exact fr.r (List.mem_of_getElem? e1)
    exact ⟨a, e1, by rw [upd_ne ne]; exact f1, f2, r.up to (fun _ _ h => h) rfl⟩
theorem OwnR.rep {c : Own} (h : OwnR K mg F ρ H p c) : ∃ o, H p = Option.some o ∧ ∀ F' ρ', (∀ p o, F p = Option.some o → F' p = Option.some o) → (∀ (k : Nat) p, ρ[k]? = Option.some p → ρ'[k]? = Option.some p) → F' p = Option.some o → Rep K mg F' ρ' (.ref p) c.d := by
  cases c with
  | lst ds =>
    obtain ⟨vs, e, r⟩ := h
    exact ⟨_, e, fun F' ρ' l lr q => .lst q (r.up l lr)⟩
  | dct ks ds =>
    obtain ⟨vs, e, n, r⟩ := h
    exact ⟨_, e, fun F' ρ' l lr q => .dct (.inl q) n (r.up l lr)⟩
  | tab P q =>
    obtain ⟨_, ps, e, _⟩ := h
    exact ⟨_, e, fun F' ρ' l lr q => .unk⟩
  | ins c kd ks ds =>
    obtain ⟨C, dx, vs, _, _, e, _⟩ := h
    exact ⟨_, e, fun F' ρ' l lr q => .unk⟩
  | idc k =>
    obtain ⟨q, _, e⟩ := h
    exact ⟨_, e, fun F' ρ' l lr q => .unk⟩
theorem Sim.lock (S : Sim K mg Z F ρ μ δ σ H) (h : VR K mg Z F ρ δ σ H v s) : ∃ F', Le Z F F' ∧ Sim K mg Z F' ρ μ δ σ H ∧ Rep K mg F' ρ v s.d := by
  cases s with
  | fr d => exact ⟨F, .refl, S, h.r⟩
  | own c =>
    obtain ⟨p, ev, fr, r⟩ := h.r
    subst ev
    obtain ⟨o, e, rep⟩ := r.rep
    obtain ⟨l, S'⟩ := S.freeze e fr (h.no c p rfl rfl)
    exact ⟨_, l, S', rep _ _ l.to (fun _ _ h => h) upd_same⟩
theorem Sim.store {i : Nat} (S : Sim K mg Z F ρ μ δ σ H) (h : VR K mg Z F ρ δ σ H v s) (hi : i < δ.length) : Sim K mg Z F ρ μ (δ.set i (some s)) (σ.set i (some v)) H := by
  refine ⟨S.le, S.zk, by simp [S.len], fun j t e => ?_, fun j k p t t' e1 e2 e3 e4 => ?_, S.mem, S.mlen, S.nod⟩
  · by_cases z : j = i
    · subst z
      rw [List.getElem?_set_self hi] at e
      cases e
      exact ⟨v, List.getElem?_set_self (by rw [S.len]; exact hi), h.r⟩
    · rw [List.getElem?_set_ne (Ne.symm z)] at e
      obtain ⟨w, e1, r⟩ := S.slot j t e
      exact ⟨w, by rw [List.getElem?_set_ne (Ne.symm z)]; exact e1, r⟩
  · by_cases z1 : j = i
    · by_cases z2 : k = i
      · rw [z1, z2]
      · subst z1
        rw [List.getElem?_set_self hi] at e1
        cases e1
        rw [List.getElem?_set_self (by rw [S.len]; exact hi)] at e3
        cases e3
        rw [List.getElem?_set_ne (Ne.symm z2)] at e2 e4
        exact absurd e4 (h.no _ _ rfl rfl k _ e2)
    · by_cases z2 : k = i
      · subst z2
        rw [List.getElem?_set_self hi] at e2
        cases e2
        rw [List.getElem?_set_self (by rw [S.len]; exact hi)] at e4
        cases e4
        rw [List.getElem?_set_ne (Ne.symm z1)] at e1 e3
        exact absurd e3 (h.no _ _ rfl rfl j _ e1)
      · rw [List.getElem?_set_ne (Ne.symm z1)] at e1 e3
        rw [List.getElem?_set_ne (Ne.symm z2)] at e2 e4
        exact S.apart j k p t t' e1 e2 e3 e4
theorem Sim.forget {i : Nat} {x : Option V} (S : Sim K mg Z F ρ μ δ σ H) : Sim K mg Z F ρ μ (δ.set i none) (σ.set i x) H := by
  refine ⟨S.le, S.zk, by simp [S.len], fun j t e => ?_, fun j k p t t' e1 e2 e3 e4 => ?_, S.mem, S.mlen, S.nod⟩
  · by_cases z : j = i
    · subst z
      by_cases hj : j < δ.length
      · rw [List.getElem?_set_self hj] at e; cases e
      · rw [List.getElem?_eq_none (by simpa using hj)] at e; cases e
    · rw [List.getElem?_set_ne (Ne.symm z)] at e
      obtain ⟨w, e1, r⟩ := S.slot j t e
      exact ⟨w, by rw [List.getElem?_set_ne (Ne.symm z)]; exact e1, r⟩
  · have n : ∀ {j : Nat} {t}, (δ.set i none)[j]? = some (some t) → j ≠ i := fun {j t} e z => by
      subst z
      by_cases hj : j < δ.length
      · rw [List.getElem?_set_self hj] at e; cases e
      · rw [List.getElem?_eq_none (by simpa using hj)] at e; cases e
    have z1 := n e1
    have z2 := n e2
    rw [List.getElem?_set_ne (Ne.symm z1)] at e1 e3
    rw [List.getElem?_set_ne (Ne.symm z2)] at e2 e4
    exact S.apart j k p t t' e1 e2 e3 e4
theorem Sim.lockAt {i : Nat} (S : Sim K mg Z F ρ μ δ σ H) (e : δ[i]? = some (some s)) :
    ∃ F' v, Le Z F F' ∧ σ[i]? = some (some v) ∧ Sim K mg Z F' ρ μ (δ.set i (some (.fr s.d))) σ H ∧ Rep K mg F' ρ v s.d := by
  obtain ⟨v, ev, r⟩ := S.slot i s e
  have hi : i < δ.length := (List.getElem?_eq_some_iff.mp e).1
  have same : σ.set i (some v) = σ := by
    apply List.ext_getElem?
    intro j
    by_cases z : j = i
    · subst z; rw [List.getElem?_set_self (by rw [S.len]; exact hi), ev]
    · rw [List.getElem?_set_ne (Ne.symm z)]
  cases s with
  | fr d =>
    have S1 := S.store (i := i) (v := v) (s := .fr d) ⟨r, fun o p z => by cases z⟩ hi
    rw [same] at S1
    exact ⟨F, v, .refl, ev, S1, r⟩
  | own c =>
    obtain ⟨p, evp, fr, r⟩ := r
    subst evp
    obtain ⟨o, eo, rep⟩ := r.rep
    have S0 := S.forget (i := i) (x := some (.ref p))
    rw [same] at S0
    obtain ⟨l, S1⟩ := S0.freeze eo fr (fun j t ej => by
      have nj : j ≠ i := fun z => by
        subst z; rw [List.getElem?_set_self hi] at ej; cases ej
      rw [List.getElem?_set_ne (Ne.symm nj)] at ej
      intro q
      exact nj (S.apart j i p t c ej e q ev))
    have rp := rep _ ρ l.to (fun _ _ h => h) upd_same
    have S2 := S1.store (i := i) (v := .ref p) (s := .fr c.d) ⟨rp, fun o p z => by cases z⟩ (by simpa using hi)
    rw [same, List.set_set] at S2
    exact ⟨_, _, l, ev, S2, rp⟩
end
end FL
namespace FL
open PySem L2
structure Exc where
  cls : String
  attr : String
  arg : D
inductive Out (α : Type) where
  | ok (a : α) (δ : Loc) (μ : Mem)
  | exc (x : Exc) (δ : Loc) (μ : Mem)
  | bad
def Out.bind {α β : Type} (r : Out α) (f : α → Loc → Mem → Out β) : Out β :=
  match r with
  | .ok a δ μ => f a δ μ
  | .exc x δ μ => .exc x δ μ
  | .bad => .bad
abbrev MM (α : Type) := Loc → Mem → Out α
abbrev ME := MM Slot
abbrev MT := MM Bool
def ExcR (K : PySem.W.Frag) (mg : Str → Option Value) (F : Hp) (ρ : List Addr) (c : Value) (d : Option Addr) (x : Exc) : Prop :=
  ∃ C dx v, c = .ref C ∧ d = some dx ∧ mg (Str.ofString x.cls) = some (.ref C) ∧ Rd F dx (.xd [(Str.ofString x.attr, v)]) ∧ Rep K mg F ρ v x.arg
section
variable (X : Cx) (W : WX)
def FinE {α : Type} (Z F : Hp) (ρ : List Addr) (σ : St) (P : α → Loc → Mem → Hp → List Addr → Hp → Prop) : Out α → Prop
  | .ok a δ μ => ∀ H' F' ρ', Le Z F F' → LeR Z ρ ρ' → Sim X.K X.mg Z F' ρ' μ δ σ H' → P a δ μ F' ρ' H'
  | .exc x δ μ => ∀ c d H' F' ρ', Le Z F F' → LeR Z ρ ρ' → Sim X.K X.mg Z F' ρ' μ δ σ H' → ExcR X.K X.mg F' ρ' c d x → W c d σ H'
  | .bad => False
end
section
variable {X : Cx} {W : WX} {Z F F1 : Hp} {ρ ρ1 : List Addr} {σ : St} {α β : Type}
theorem FinE.mono {P : α → Loc → Mem → Hp → List Addr → Hp → Prop} {r : Out α} (h : FinE X W Z F ρ σ P r) (l : Le Z F F1) (lr : LeR Z ρ ρ1) : FinE X W Z F1 ρ1 σ P r := by
  cases r with
  | ok a δ μ => exact fun H' F' ρ' l' lr' S => h H' F' ρ' (l.trans l') (lr.trans lr') S
  | exc x δ μ => exact fun c d H' F' ρ' l' lr' S e => h c d H' F' ρ' (l.trans l') (lr.trans lr') S e
  | bad => exact h
theorem FinE.bind {P : β → Loc → Mem → Hp → List Addr → Hp → Prop} {r : Out α} {f : α → Loc → Mem → Out β} (h : FinE X W Z F ρ σ P (r.bind f)) :
    FinE X W Z F ρ σ (fun a δ μ F' ρ' H' => Sim X.K X.mg Z F' ρ' μ δ σ H' ∧ Le Z F F' ∧ LeR Z ρ ρ' ∧ FinE X W Z F' ρ' σ P (f a δ μ)) r := by
  cases r with
  | ok a δ μ => exact fun H' F' ρ' l lr S => ⟨S, l, lr, h.mono l lr⟩
  | exc x δ μ => exact h
  | bad => exact h
theorem FinE.imp {P P' : α → Loc → Mem → Hp → List Addr → Hp → Prop} {r : Out α} (h : FinE X W Z F ρ σ P r)
    (hp : ∀ a δ μ H' F' ρ', Le Z F F' → LeR Z ρ ρ' → Sim X.K X.mg Z F' ρ' μ δ σ H' → P a δ μ F' ρ' H' → P' a δ μ F' ρ' H') : FinE X W Z F ρ σ P' r := by
  cases r with
  | ok a δ μ => exact fun H' F' ρ' l lr S => hp a δ μ H' F' ρ' l lr S (h H' F' ρ' l lr S)
  | exc x δ μ => exact h
  | bad => exact h
end
theorem _root_.L2.PE.imp {X : Cx} {e : Expr} {t t' : TE} (h : PE X e t) (hi : ∀ σ H Q, t' σ H Q → t σ H Q) : PE X e t' := ⟨fun pins s σ H Q I q => h.run pins s σ H Q I (hi σ H Q q)⟩
theorem _root_.L2.PT.imp {X : Cx} {e : Expr} {t t' : TT} (h : PT X e t) (hi : ∀ σ H Q, t' σ H Q → t σ H Q) : PT X e t' := ⟨fun pins s σ H Q I q => h.run pins s σ H Q I (hi σ H Q q)⟩
theorem _root_.L2.PW.imp {X : Cx} {e : Expr} {t t' : TT} (h : PW X e t) (hi : ∀ σ H Q, t' σ H Q → t σ H Q) : PW X e t' := ⟨fun wh pins s σ H Q I q => h.run wh pins s σ H Q I (hi σ H Q q)⟩
theorem _root_.L2.PA.imp {X : Cx} {e : List Expr} {t t' : TA} (h : PA X e t) (hi : ∀ σ H Q, t' σ H Q → t σ H Q) : PA X e t' := ⟨fun pos pins s σ H Q I q => h.run pos pins s σ H Q I (hi σ H Q q)⟩
section
variable (X : Cx) (W : WX)
def rdE (m : ME) : TE := fun σ H Q => ∃ Z F ρ μ δ, Sim X.K X.mg Z F ρ μ δ σ H ∧
  FinE X W Z F ρ σ (fun s δ' _ F' ρ' H' => ∀ v, VR X.K X.mg Z F' ρ' δ' σ H' v s → Q v H') (m δ μ)
def rdT (m : MT) : TT := fun σ H Q => ∃ Z F ρ μ δ, Sim X.K X.mg Z F ρ μ δ σ H ∧ FinE X W Z F ρ σ (fun b _ _ _ _ H' => Q b H') (m δ μ)
end
abbrev JE (X : Cx) (W : WX) (e : Expr) (m : ME) : Prop := PE X e (rdE X W m)
inductive Opn where
  | e (m : ME) | v (i : Nat)
inductive OR where
  | d (d : D) | i (i : Nat)
def Opn.ev : Opn → MM OR
  | .e m => fun δ μ => (m δ μ).bind fun s δ1 μ1 => .ok (.d s.d) δ1 μ1
  | .v i => fun δ μ => match δ[i]? with
    | some (some _) => .ok (.i i) δ μ
    | _ => .bad
def look (μ : Mem) : D → Option D
  | .obj k => (μ[k]?).map Own.d
  | d => some d
def OR.at (δ : Loc) (μ : Mem) : OR → Option D
  | .d x => look μ x
  | .i j => match δ[j]? with
    | some (some s) => look μ s.d
    | _ => none
section
variable (K : PySem.W.Frag) (mg : Str → Option Value)
def OrR (F : Hp) (ρ : List Addr) (σ : St) (v : V) : OR → Prop
  | .d x => Rep K mg F ρ v x
  | .i j => σ[j]? = some (some v)
inductive Bor (F : Hp) (ρ : List Addr) (H : Hp) : V → D → Prop where
  | fr {v d} (h : Rep K mg F ρ v d) : Bor F ρ H v d
  | own {p o} (h : OwnR K mg F ρ H p o) : Bor F ρ H (.ref p) o.d
inductive OrRs (F : Hp) (ρ : List Addr) (σ : St) : List V → List OR → Prop where
  | nil : OrRs F ρ σ [] []
  | cons {v d vs ds} (h : OrR K mg F ρ σ v d) (t : OrRs F ρ σ vs ds) : OrRs F ρ σ (v :: vs) (d :: ds)
end
section
variable {K : PySem.W.Frag} {mg : Str → Option Value} {Z F F' : Hp} {ρ ρ' : List Addr} {μ : Mem} {δ : Loc} {σ : St} {H H' : Hp} {v : V} {d : D}
theorem OrR.up {r : OR} (h : OrR K mg F ρ σ v r) (l : Le Z F F') (lr : LeR Z ρ ρ') : OrR K mg F' ρ' σ v r := by
  cases r with
  | d x => exact Rep.up l.to lr.to h
  | i j => exact h
theorem OrRs.up {vs : List V} {rs : List OR} (h : OrRs K mg F ρ σ vs rs) (l : Le Z F F') (lr : LeR Z ρ ρ') : OrRs K mg F' ρ' σ vs rs := by
  induction h with
  | nil => exact .nil
  | cons h t ih => exact .cons (h.up l lr) ih
theorem look_flat {d d' : D} (e : look μ d = some d') : (∃ k c, d = .obj k ∧ μ[k]? = some c ∧ d' = c.d) ∨ d' = d := by
  cases d <;> first
    | (right; have e' := e; unfold look at e'; exact (Option.some.inj e').symm)
    | (rename_i k
       left
       unfold look at e
       obtain ⟨c, e1, e2⟩ := Option.map_eq_some_iff.mp e
       exact ⟨k, c, rfl, e1, e2.symm⟩)
theorem Rep.seen (S : Sim K mg Z F ρ μ δ σ H) {d' : D} (h : Rep K mg F ρ v d) (e : look μ d = some d') : Bor K mg F ρ H v d' := by
  rcases look_flat e with ⟨k, c, rfl, hc, rfl⟩ | rfl
  · cases h with
    | obj hp =>
      obtain ⟨a, ea, _, _, r⟩ := S.mem k c hc
      rw [hp] at ea; cases ea
      exact .own r
  · exact .fr h
theorem Bor.lst (S : Sim K mg Z F ρ μ δ σ H) {ds : List D} (h : Bor K mg F ρ H v (.lst ds)) : ∃ p vs, v = .ref p ∧ H p = some (.lst vs) ∧ RepL K mg F ρ vs ds := by
  generalize e : D.lst ds = d at h
  cases h with
  | fr h =>
    subst e
    cases h with
    | lst h r =>
      refine ⟨_, _, rfl, ?_, r⟩
      rcases S.le _ _ h with q | ⟨ob, kvs, e, q⟩
      · exact q
      · cases e
  | @own p o h =>
    cases o with
    | lst xs =>
      cases e
      obtain ⟨vs, e, r⟩ := h
      exact ⟨p, vs, rfl, e, r⟩
    | dct ks xs => cases e
    | tab P q => cases e
    | ins c kd ks xs => cases e
    | idc k => cases e
theorem Bor.tup (S : Sim K mg Z F ρ μ δ σ H) {ds : List D} (h : Bor K mg F ρ H v (.tup ds)) : ∃ p vs, v = .ref p ∧ SqT K H p vs ∧ RepL K mg F ρ vs ds := by
  generalize e : D.tup ds = d at h
  cases h with
  | fr h =>
    subst e
    cases h with
    | tup h r => exact ⟨_, _, rfl, h.elim (fun h => .inl (S.rd h)) .inr, r⟩
  | @own p o h => cases o <;> cases e
theorem Bor.ro (S : Sim K mg Z F ρ μ δ σ H) {ds : List D} (h : Bor K mg F ρ H v (.ro ds)) : ∃ p vs, v = .ref p ∧ SqL K H p vs ∧ RepL K mg F ρ vs ds := by
  generalize e : D.ro ds = d at h
  cases h with
  | fr h =>
    subst e
    cases h with
    | ro h r => exact ⟨_, _, rfl, h.elim (fun h => .inl (S.rd h)) .inr, r⟩
  | @own p o h => cases o <;> cases e
theorem Bor.dct (S : Sim K mg Z F ρ μ δ σ H) {ks : List DK} {ds : List D} (h : Bor K mg F ρ H v (.dct ks ds)) : ∃ p vs, v = .ref p ∧ Rd H p (.dK ((ks.map DK.key).zip vs)) ∧ ks.length = vs.length ∧ RepL K mg F ρ vs ds := by
  generalize e : D.dct ks ds = d at h
  cases h with
  | fr h =>
    subst e
    cases h with
    | dct h l r => exact ⟨_, _, rfl, S.rd h, l, r⟩
  | @own p o h =>
    cases o with
    | lst xs => cases e
    | dct ks xs =>
      cases e
      obtain ⟨vs, e, n, r⟩ := h
      exact ⟨p, vs, rfl, .inl e, n, r⟩
    | tab P q => cases e
    | ins c kd ks xs => cases e
    | idc k => cases e
theorem Bor.rep (h : Bor K mg F ρ H v d) (n : ∀ o, d ≠ Own.d o) : Rep K mg F ρ v d := by
  cases h with
  | fr h => exact h
  | own h => exact absurd rfl (n _)
theorem Bor.int {i : Int} (h : Bor K mg F ρ H v (.int i)) : v = .int i := by
  cases h.rep (fun o e => by cases o <;> cases e); rfl
theorem Bor.bl {i : Bool} (h : Bor K mg F ρ H v (.bl i)) : v = .bl i := by
  cases h.rep (fun o e => by cases o <;> cases e); rfl
theorem Bor.str {i : Tx} (h : Bor K mg F ρ H v (.str i)) : v = .str (toS i) := by
  cases h.rep (fun o e => by cases o <;> cases e); rfl
theorem Bor.non (h : Bor K mg F ρ H v .non) : v = .non := by
  cases h.rep (fun o e => by cases o <;> cases e); rfl
end
section
variable {X : Cx} {W : WX} {e a b : Expr} {es : List Expr} {pos : Pos}
def mD (d : D) : ME := fun δ μ => .ok (.fr d) δ μ
theorem je_c {v : V} {d : D} (h : PE X e (tC v)) (r : ∀ F ρ, Rep X.K X.mg F ρ v d) : JE X W e (mD d) :=
  h.imp fun σ H Q ⟨Z, F, ρ, μ, δ, S, q⟩ => q H F ρ .refl .refl S v ⟨r F ρ, fun o p z => by cases z⟩
def mV (i : Nat) : ME := fun δ μ => match δ[i]? with
  | some (some s) => .ok (.fr s.d) (δ.set i (some (.fr s.d))) μ
  | _ => .bad
theorem je_v {i : Nat} (h : PE X e (tVar i)) : JE X W e (mV i) := by
  refine h.imp fun σ H Q ⟨Z, F, ρ, μ, δ, S, q⟩ => ?_
  unfold mV at q
  cases e1 : δ[i]? with
  | none => simp only [e1] at q; exact q.elim
  | some o =>
    cases o with
    | none => simp only [e1] at q; exact q.elim
    | some s =>
      simp only [e1] at q
      obtain ⟨F', v, l, ev, S', r⟩ := S.lockAt e1
      exact ⟨v, ev, q H F' ρ l .refl S' v ⟨r, fun o p z => by cases z⟩⟩
theorem je_glo {x : String} {u : Value} {v : V} {p : Pos} (hg : Gl X (Str.ofString x)) (hm : X.mg (Str.ofString x) = some u) (r : RelV v u) (hd : (Str.ofString x == ("__debug__" : Str)) = false := by decide +kernel) : JE X W (.Name (Str.ofString x) p) (mD (.glo x)) :=
  je_c (pe_glob hg hm r hd) fun _ _ => .glo hm r
theorem VR.bl {K : PySem.W.Frag} {mg : Str → Option Value} {Z F H : Hp} {ρ : List Addr} {δ : Loc} {σ : St} {b : Bool} : VR K mg Z F ρ δ σ H (.bl b) (.fr (.bl b)) := ⟨.bl, fun o p z => by cases z⟩
end
end FL
namespace FL
open PySem L2
theorem line_eq : sizeLine = 16777216 := sizeLine_eq
section
variable {X : Cx} {W : WX} {e a b : Expr} {es : List Expr} {pos : Pos}
theorem RepL.rep {F : Hp} {ρ : List Addr} {vs : List V} {ds : List D} (h : RepL X.K X.mg F ρ vs ds) : ∀ n : Nat, RepL X.K X.mg F ρ (List.replicate n vs).flatten (List.replicate n ds).flatten
  | 0 => .nil
  | n + 1 => by
    rw [List.replicate_succ, List.replicate_succ, List.flatten_cons, List.flatten_cons]
    exact h.app (RepL.rep h n)
mutual
def D.py : D → Option PyData
  | .non => some .none
  | .bl b => some (.bool b)
  | .int i => some (.int i)
  | .str x => some (.str (toS x))
  | .lst xs => (D.pys xs).map .list
  | .tup xs => (D.pys xs).map .tuple
  | .ro xs => (D.pys xs).map .list
  | _ => none
def D.pys : List D → Option (List PyData)
  | [] => some []
  | x :: xs => match D.py x, D.pys xs with
    | some a, some r => some (a :: r)
    | _, _ => none
end
end
end FL
namespace FL
open PySem L2
section
variable {X : Cx} {W : WX} {e a b o : Expr} {es : List Expr} {pos p apos : Pos}
theorem je_ty {x : Str} {T : String} (hg : Gl X x) (hm : X.mg x = none) (hv : bootBuiltins x = some (.type T)) (hn : x ≠ "__name__" := by decide) (hdb : (x == ("__debug__" : Str)) = false := by decide) : JE X W (.Name x pos) (mD (.ty T)) :=
  je_c (pe_bltn hg hm hv (v := .ty T) rfl hn hdb) fun _ _ => .ty
theorem Bor.ty {F H : Hp} {ρ : List Addr} {v : V} {T : String} (h : Bor X.K X.mg F ρ H v (.ty T)) : v = .ty T := by
  cases h.rep (fun o e => by cases o <;> cases e)
  rfl
end
end FL
namespace FL
open PySem L2
section
variable {K : PySem.W.Frag} {mg : Str → Option Value} {Z F F' : Hp} {ρ ρ' : List Addr} {μ : Mem} {δ : Loc} {σ : St} {H H' : Hp} {p : Addr} {o : HO} {v : V} {s : Slot}
theorem Sim.put {i : Nat} (S : Sim K mg Z F ρ μ δ σ H) (h : VR K mg Z F ρ δ σ H v s) : Sim K mg Z F ρ μ (δ.set i (some s)) (σ.set i (some v)) H := by
  by_cases hi : i < δ.length
  · exact S.store h hi
  · rw [List.set_eq_of_length_le (by omega), List.set_eq_of_length_le (by rw [S.len]; omega)]
    exact S
theorem Sim.drop (S : Sim K mg Z F ρ μ δ σ H) : Sim K mg Z F ρ μ [] [] H :=
  ⟨S.le, S.zk, rfl, fun i s e => by simp at e, fun i j p s s' e => by simp at e, S.mem, S.mlen, S.nod⟩
theorem Sim.guard (S : Sim K mg Z F ρ μ δ σ H) (hp : H p = some o) (fr : Free Z F ρ p) (no : ∀ (i : Nat) s, δ[i]? = some (some (.own s)) → σ[i]? ≠ some (some (.ref p))) : Sim K mg (upd Z p o) F ρ μ δ σ H := by
  refine ⟨S.le, fun q u h => ?_, S.len, fun i t e => ?_, S.apart, fun k c e => ?_, S.mlen, S.nod⟩
  · by_cases z : q = p
    · subst z; rw [upd_same] at h; cases h; exact hp
    · rw [upd_ne z] at h; exact S.zk q u h
  · obtain ⟨w, e1, r⟩ := S.slot i t e
    refine ⟨w, e1, ?_⟩
    cases t with
    | fr d => exact r
    | own c =>
      obtain ⟨q, ev, f1, r⟩ := r
      subst ev
      have ne : q ≠ p := fun z => by subst z; exact no i c e e1
      exact ⟨q, rfl, ⟨f1.f, by rw [upd_ne ne]; exact f1.z, f1.r⟩, r⟩
  · obtain ⟨a, e1, f1, f2, r⟩ := S.mem k c e
    have ne : a ≠ p := fun z => by subst z; exact fr.r (List.mem_of_getElem? e1)
    exact ⟨a, e1, f1, by rw [upd_ne ne]; exact f2, r⟩
theorem guard_z {q : Addr} (h : upd Z p o q = none) : q ≠ p ∧ Z q = none := by
  by_cases z : q = p
  · subst z; rw [upd_same] at h; cases h
  · rw [upd_ne z] at h; exact ⟨z, h⟩
theorem Sim.unguard (S : Sim K mg (upd Z p o) F ρ μ δ σ H) (hz : Z p = none) : Sim K mg Z F ρ μ δ σ H := by
  refine ⟨S.le, fun q u h => S.zk q u ?_, S.len, fun i t e => ?_, S.apart, fun k c e => ?_, S.mlen, S.nod⟩
  · rw [upd_ne (fun z => by subst z; rw [hz] at h; cases h)]; exact h
  · obtain ⟨w, e1, r⟩ := S.slot i t e
    refine ⟨w, e1, ?_⟩
    cases t with
    | fr d => exact r
    | own c =>
      obtain ⟨q, ev, f1, r⟩ := r
      exact ⟨q, ev, ⟨f1.f, (guard_z f1.z).2, f1.r⟩, r⟩
  · obtain ⟨a, e1, f1, f2, r⟩ := S.mem k c e
    exact ⟨a, e1, f1, (guard_z f2).2, r⟩
theorem Sim.guarded (S : Sim K mg (upd Z p o) F ρ μ δ σ H) : H p = some o := S.zk p o upd_same
theorem Sim.guardNo (S : Sim K mg (upd Z p o) F ρ μ δ σ H) : ∀ (i : Nat) s, δ[i]? = some (some (.own s)) → σ[i]? ≠ some (some (.ref p)) := by
  intro i c e e1
  obtain ⟨w, e2, q, ev, f1, r⟩ := S.slot i _ e
  rw [e1] at e2; cases e2; cases ev
  exact (guard_z f1.z).1 rfl
theorem Le.unguard (l : Le (upd Z p o) F F') : Le Z F F' := ⟨l.to, fun q u h => (l.new q u h).elim .inl fun z => .inr (guard_z z).2⟩
theorem LeR.unguard (l : LeR (upd Z p o) ρ ρ') : LeR Z ρ ρ' := ⟨l.to, fun q h => (l.new q h).elim .inl fun z => .inr (guard_z z).2⟩
theorem Free.on (fr : Free Z F ρ p) (l : Le (upd Z p o) F F') (lr : LeR (upd Z p o) ρ ρ') : Free Z F' ρ' p := by
  refine ⟨?_, fr.z, fun h => ?_⟩
  · cases e : F' p with
    | none => rfl
    | some u =>
      rcases l.new p u e with h | h
      · rw [fr.f] at h; cases h
      · exact absurd rfl (guard_z h).1
  · rcases lr.new p h with h | h
    · exact fr.r h
    · exact absurd rfl (guard_z h).1
end
inductive OutS where
  | nx (δ : Loc) (μ : Mem)
  | rt (s : Slot) (μ : Mem)
  | bk (δ : Loc) (μ : Mem)
  | ct (δ : Loc) (μ : Mem)
  | exc (x : Exc) (δ : Loc) (μ : Mem)
  | bad
abbrev MS := Loc → Mem → OutS
def Out.thn {α : Type} (r : Out α) (f : α → Loc → Mem → OutS) : OutS :=
  match r with
  | .ok a δ μ => f a δ μ
  | .exc x δ μ => .exc x δ μ
  | .bad => .bad
def OutS.seq (r : OutS) (k : MS) : OutS :=
  match r with
  | .nx δ μ => k δ μ
  | .rt s μ => .rt s μ
  | .bk δ μ => .bk δ μ
  | .ct δ μ => .ct δ μ
  | .exc x δ μ => .exc x δ μ
  | .bad => .bad
section
variable (X : Cx) (W : WX)
def FinS (Z F : Hp) (ρ : List Addr) (D : Ends) : OutS → Prop
  | .nx δ μ => ∀ σ' H' F' ρ', Le Z F F' → LeR Z ρ ρ' → Sim X.K X.mg Z F' ρ' μ δ σ' H' → D.nx σ' H'
  | .bk δ μ => ∀ σ' H' F' ρ', Le Z F F' → LeR Z ρ ρ' → Sim X.K X.mg Z F' ρ' μ δ σ' H' → D.bk σ' H'
  | .ct δ μ => ∀ σ' H' F' ρ', Le Z F F' → LeR Z ρ ρ' → Sim X.K X.mg Z F' ρ' μ δ σ' H' → D.ct σ' H'
  | .rt s μ => ∀ v H' F' ρ', Le Z F F' → LeR Z ρ ρ' → Sim X.K X.mg Z F' ρ' μ [] [] H' → SlotR X.K X.mg Z F' ρ' H' v s → D.rt v H'
  | .exc x δ μ => ∀ c d σ' H' F' ρ', Le Z F F' → LeR Z ρ ρ' → Sim X.K X.mg Z F' ρ' μ δ σ' H' → ExcR X.K X.mg F' ρ' c d x → W c d σ' H'
  | .bad => False
def rdS (m : MS) : TS := fun D σ H => ∃ Z F ρ μ δ, Sim X.K X.mg Z F ρ μ δ σ H ∧ FinS X W Z F ρ D (m δ μ)
end
theorem _root_.L2.PS.imp {X : Cx} {s : Stmt} {t t' : TS} (h : PS X s t) (hi : ∀ D σ H, t' D σ H → t D σ H) : PS X s t' := ⟨fun pins s σ H D I q => h.run pins s σ H D I (hi D σ H q)⟩
theorem _root_.L2.PSs.imp {X : Cx} {s : List Stmt} {t t' : TS} (h : PSs X s t) (hi : ∀ D σ H, t' D σ H → t D σ H) : PSs X s t' := ⟨fun pins s σ H D I q => h.run pins s σ H D I (hi D σ H q)⟩
abbrev JS (X : Cx) (W : WX) (s : Stmt) (m : MS) : Prop := PS X s (rdS X W m)
section
variable {X : Cx} {W : WX} {Z F F1 : Hp} {ρ ρ1 : List Addr} {D : Ends} {σ : St} {H : Hp} {μ : Mem} {δ : Loc}
theorem FinS.mono {r : OutS} (h : FinS X W Z F ρ D r) (l : Le Z F F1) (lr : LeR Z ρ ρ1) : FinS X W Z F1 ρ1 D r := by
  cases r with
  | nx δ μ => exact fun σ' H' F' ρ' l' lr' S => h σ' H' F' ρ' (l.trans l') (lr.trans lr') S
  | bk δ μ => exact fun σ' H' F' ρ' l' lr' S => h σ' H' F' ρ' (l.trans l') (lr.trans lr') S
  | ct δ μ => exact fun σ' H' F' ρ' l' lr' S => h σ' H' F' ρ' (l.trans l') (lr.trans lr') S
  | rt s μ => exact fun v H' F' ρ' l' lr' S r => h v H' F' ρ' (l.trans l') (lr.trans lr') S r
  | exc x δ μ => exact fun c d σ' H' F' ρ' l' lr' S e => h c d σ' H' F' ρ' (l.trans l') (lr.trans lr') S e
  | bad => exact h
theorem FinS.thn {α : Type} {r : Out α} {f : α → Loc → Mem → OutS} (h : FinS X W Z F ρ D (r.thn f)) :
    FinE X W Z F ρ σ (fun a δ μ F' ρ' H' => Sim X.K X.mg Z F' ρ' μ δ σ H' ∧ FinS X W Z F' ρ' D (f a δ μ)) r := by
  cases r with
  | ok a δ μ => exact fun H' F' ρ' l lr S => ⟨S, h.mono l lr⟩
  | exc x δ μ => exact fun c d H' F' ρ' l lr S e => h c d σ H' F' ρ' l lr S e
  | bad => exact h
theorem FinS.nx {δ : Loc} {μ : Mem} {σ' : St} {H' : Hp} (h : FinS X W Z F ρ D (.nx δ μ)) (S : Sim X.K X.mg Z F ρ μ δ σ' H') : D.nx σ' H' := h σ' H' F ρ .refl .refl S
theorem FinS.seq {r : OutS} {k : MS} (h : FinS X W Z F ρ D (r.seq k)) : FinS X W Z F ρ { D with nx := rdS X W k D } r := by
  cases r with
  | nx δ μ => exact fun σ' H' F' ρ' l lr S => ⟨Z, F', ρ', μ, δ, S, FinS.mono h l lr⟩
  | bk δ μ => exact h
  | ct δ μ => exact h
  | rt s μ => exact h
  | exc x δ μ => exact h
  | bad => exact h
variable {st : Stmt} {sts rest : List Stmt} {e : Expr} {pos : Pos}
def mSet (i : Nat) (m : ME) : MS := fun δ μ => (m δ μ).thn fun s δ1 μ1 => .nx (δ1.set i (some s)) μ1
theorem set_read {i : Nat} {m : ME} : ∀ D σ H, rdS X W (mSet i m) D σ H → tAsg (rdE X W m) (gName i) D σ H := by
  intro D σ H ⟨Z, F, ρ, μ, δ, S, q⟩
  exact ⟨Z, F, ρ, μ, δ, S, (FinS.thn q).imp fun a δ1 μ1 H1 F1 ρ1 l lr S1 ⟨_, p⟩ v vr => p.nx (S1.put vr)⟩
theorem js_set {i : Nat} {x : Str} {m : ME} {pos' : Pos} (hN : X.N.Nodup) (hi : X.N[i]? = some x) (hx : L2.Loc X.env.scope x) (he : JE X W e m) (hs : swapsWith e (some (.Name x pos')) pos.line X.env = pure false := by rfl) (hf : X.fn x = true ∨ X.env.scope.names.lookup x = some .local := by first | exact .inl rfl | exact .inr rfl | assumption) :
    JS X W (.Assign [.Name x pos'] e pos) (mSet i m) := (ps_set hN hi hx he hs hf).imp set_read
end
end FL
namespace FL
open PySem L2
section
variable {X : Cx} {W : WX} {e a b : Expr} {es : List Expr} {pos : Pos}
abbrev TgF := D → Loc → Option Loc
def rdG (X : Cx) (f : TgF) (is : List Nat) : TG := fun v σ H Q => ∃ Z F ρ μ δ d, Sim X.K X.mg Z F ρ μ δ σ H ∧ Rep X.K X.mg F ρ v d ∧ ∃ δ', f d δ = some δ' ∧
  ∀ σ', (∀ j : Nat, j ∉ is → σ'[j]? = σ[j]?) → σ'.length = σ.length → Sim X.K X.mg Z F ρ μ δ' σ' H → Q σ' H
theorem _root_.L2.PG.imp {X : Cx} {e : Expr} {t t' : TG} (h : PG X e t) (hi : ∀ v σ H Q, t' v σ H Q → t v σ H Q) : PG X e t' := ⟨fun pins s σ H v u Q I r q => h.run pins s σ H v u Q I r (hi v σ H Q q)⟩
theorem _root_.L2.PGs.imp {X : Cx} {e : List Expr} {t t' : TGs} (h : PGs X e t) (hi : ∀ v σ H Q, t' v σ H Q → t v σ H Q) : PGs X e t' := ⟨fun pins s σ H v u Q I r q => h.run pins s σ H v u Q I r (hi v σ H Q q)⟩
abbrev JG (X : Cx) (e : Expr) (f : TgF) (is : List Nat) : Prop := PG X e (rdG X f is)
def tgV (i : Nat) : TgF := fun d δ => some (δ.set i (some (.fr d)))
theorem jg_v {i : Nat} {x : Str} (hN : X.N.Nodup) (hi : X.N[i]? = some x) (hx : L2.Loc X.env.scope x) (hf : X.fn x = true ∨ X.env.scope.names.lookup x = some .local := by first | exact .inl rfl | exact .inr rfl | assumption) : JG X (.Name x pos) (tgV i) [i] :=
  (pg_name hN hi hx hf).imp fun v σ H Q ⟨Z, F, ρ, μ, δ, d, S, r, δ', e1, q⟩ => by
    cases e1
    refine q _ (fun j hj => ?_) (by simp) (S.put ⟨r, fun o p z => by cases z⟩)
    rw [List.getElem?_set_ne (fun z => hj (by simp [z]))]
def ItR (X : Cx) (F : Hp) (ρ : List Addr) (J : It) (ds : List D) : Prop := ∀ Z' F' ρ' μ δ σ H (i : Nat), (∀ p o, F p = some o → F' p = some o) → (∀ (k : Nat) p, ρ[k]? = some p → ρ'[k]? = some p) → Sim X.K X.mg Z' F' ρ' μ δ σ H →
  (ds.length ≤ i → J.stop i H) ∧ ∀ d, ds[i]? = some d → J.go i H ∧ ∀ x H', J.yld i H x H' → ∃ F2, Le Z' F' F2 ∧ Sim X.K X.mg Z' F2 ρ' μ δ σ H' ∧ Rep X.K X.mg F2 ρ' x d
def rdI (X : Cx) (W : WX) (m : MM (List D)) : TI := fun σ H R => ∃ Z F ρ μ δ, Sim X.K X.mg Z F ρ μ δ σ H ∧
  FinE X W Z F ρ σ (fun ds _ _ F' ρ' H' => ∀ J, ItR X F' ρ' J ds → R J H') (m δ μ)
theorem _root_.L2.PI.imp {X : Cx} {tg e : Expr} {t t' : TI} (h : PI X tg e t) (hi : ∀ σ H Q, t' σ H Q → t σ H Q) : PI X tg e t' := ⟨fun pins s σ H R I q => h.run pins s σ H R I (hi σ H R q)⟩
abbrev JI (X : Cx) (W : WX) (tg e : Expr) (m : MM (List D)) : Prop := PI X tg e (rdI X W m)
def Out.cut {α : Type} (r : Out α) : Out α := match r with
  | .exc _ _ _ => .bad
  | r => r
def wipeD (δ : Loc) : List Nat → Loc
  | [] => δ
  | v :: vs => (wipeD δ vs).set v none
theorem Sim.wipe {K : PySem.W.Frag} {mg : Str → Option Value} {Z F H : Hp} {ρ : List Addr} {μ : Mem} {δ : Loc} {σ : St} (S : Sim K mg Z F ρ μ δ σ H) : ∀ vs, Sim K mg Z F ρ μ (wipeD δ vs) (L2.wipe σ vs) H
  | [] => S
  | v :: vs => (Sim.wipe S vs).forget
theorem Sim.agree {K : PySem.W.Frag} {mg : Str → Option Value} {Z F H : Hp} {ρ : List Addr} {μ : Mem} {δ : Loc} {σ σ' : St} (S : Sim K mg Z F ρ μ δ σ H) (hl : σ'.length = σ.length) (ha : ∀ (i : Nat) s, δ[i]? = some (some s) → σ'[i]? = σ[i]?) : Sim K mg Z F ρ μ δ σ' H :=
  ⟨S.le, S.zk, hl.trans S.len, fun i s e => by rw [ha i s e]; exact S.slot i s e, fun i j p s s' e1 e2 e3 e4 => S.apart i j p s s' e1 e2 (by rw [← ha i _ e1]; exact e3) (by rw [← ha j _ e2]; exact e4), S.mem, S.mlen, S.nod⟩
theorem wipeD_in {δ : Loc} {i : Nat} {s : Slot} : ∀ {vs : List Nat}, (wipeD δ vs)[i]? = some (some s) → i ∉ vs
  | [], _ => by simp
  | v :: vs, h => by
    unfold wipeD at h
    by_cases z : i = v
    · subst z
      by_cases hl : i < (wipeD δ vs).length
      · rw [List.getElem?_set_self hl] at h; cases h
      · rw [List.getElem?_eq_none (by simpa using hl)] at h; cases h
    · rw [List.getElem?_set_ne (Ne.symm z)] at h
      have := wipeD_in h
      simp [z, this]
theorem wipe_out {σ : St} {i : Nat} : ∀ {vs : List Nat}, i ∉ vs → (L2.wipe σ vs)[i]? = σ[i]?
  | [], _ => rfl
  | v :: vs, h => by
    unfold L2.wipe
    rw [List.getElem?_set_ne (fun z => h (by simp [z]))]
    exact wipe_out fun z => h (List.mem_cons_of_mem _ z)
theorem wipe_same {σ σ' : St} (hl : σ'.length = σ.length) : ∀ {vs : List Nat}, (∀ j : Nat, j ∉ vs → σ'[j]? = σ[j]?) → L2.wipe σ' vs = L2.wipe σ vs := by
  intro vs h
  apply List.ext_getElem?
  intro i
  by_cases hi : i ∈ vs
  · have no : ∀ (τ : St), τ.length = σ.length → ∀ vs : List Nat, i ∈ vs → (L2.wipe τ vs)[i]? = if i < σ.length then some none else none := by
      intro τ hτ vs
      induction vs with
      | nil => intro z; cases z
      | cons v vs ih =>
        intro z
        unfold L2.wipe
        by_cases e : i = v
        · subst e
          by_cases hlt : i < σ.length
          · rw [List.getElem?_set_self (by rw [wipe_length, hτ]; exact hlt), if_pos hlt]
          · rw [List.getElem?_eq_none (by rw [List.length_set, wipe_length, hτ]; omega), if_neg hlt]
        · rw [List.getElem?_set_ne (Ne.symm e)]
          exact ih ((List.mem_cons.mp z).resolve_left e)
    rw [no σ' hl vs hi, no σ rfl vs hi]
  · rw [wipe_out hi, wipe_out hi]
    exact h i hi
def lcD (f : TgF) (tests : MT) (elt : ME) (vs : List Nat) : List D → List D → ME
  | [], acc => fun δ μ => .ok (.own (.lst acc)) δ μ
  | d :: ds, acc => fun δ μ => match f d δ with
    | none => .bad
    | some δ' => (tests δ' μ).cut.bind fun b δ2 μ2 => if b = true then (elt δ2 μ2).cut.bind fun s δ3 μ3 => if acc.length < 16777216 then lcD f tests elt vs ds (acc ++ [s.d]) (wipeD δ3 vs) μ3 else .bad
      else lcD f tests elt vs ds acc (wipeD δ2 vs) μ2
def mLc (mi : MM (List D)) (f : TgF) (tests : MT) (elt : ME) (vs : List Nat) : ME := fun δ μ => (mi δ μ).bind fun ds δ1 μ1 => lcD f tests elt vs ds [] (wipeD δ1 vs) μ1
abbrev W0 : WX := fun _ _ _ _ => False
theorem FinE.cut {Y : Cx} {Z F : Hp} {ρ : List Addr} {σ σ' : St} {α β : Type} {P : β → Loc → Mem → Hp → List Addr → Hp → Prop} {r : Out α} {g : α → Loc → Mem → Out β} {p : Addr} {o : HO} (hK : Y.K = X.K) (hm : Y.mg = X.mg) (h : FinE X W Z F ρ σ P (r.cut.bind g)) :
    FinE Y W0 (upd Z p o) F ρ σ' (fun a δ μ F' ρ' H' => Sim X.K X.mg (upd Z p o) F' ρ' μ δ σ' H' ∧ Le (upd Z p o) F F' ∧ LeR (upd Z p o) ρ ρ' ∧ FinE X W Z F' ρ' σ P (g a δ μ)) r := by
  cases r with
  | ok a δ μ =>
    intro H' F' ρ' l lr S
    rw [hK, hm] at S
    exact ⟨S, l, lr, FinE.mono h l.unguard lr.unguard⟩
  | exc x δ μ => exact h.elim
  | bad => exact h
theorem lc_read {Y : Cx → Prop} {mi : MM (List D)} {f : TgF} {tests : MT} {elt : ME} {vs is : List Nat} {B : Cx} (hK : B.K = X.K) (hm : B.mg = X.mg) (hsub : ∀ j ∈ is, j ∈ vs) : ∀ σ H Q, rdE X W (mLc mi f tests elt vs) σ H Q → tLc (rdI X W mi) (rdG X f is) (rdT B W0 tests) (rdE B W0 elt) vs σ H Q := by
  intro σ H Q ⟨Z, F, ρ, μ, δ, S, q⟩
  refine ⟨Z, F, ρ, μ, δ, S, (FinE.bind q).imp fun ds δ1 μ1 H1 F1 ρ1 l lr S1 ⟨_, _, _, p⟩ J hJ A hA => ?_⟩
  obtain ⟨n1, n2, n3, n4⟩ := S1.notIn hA
  let P : Slot → Loc → Mem → Hp → List Addr → Hp → Prop := fun s δ' _ F' ρ' H' => ∀ v, VR X.K X.mg Z F' ρ' δ' σ H' v s → Q v H'
  let Wd : Nat → Nat → Hp → Prop := fun i k H => k = ds.length - i ∧ i ≤ ds.length ∧ ∃ F' ρ' μ δ vals acc, (∀ p o, F1 p = some o → F' p = some o) ∧ (∀ (k : Nat) p, ρ1[k]? = some p → ρ'[k]? = some p) ∧ Sim X.K X.mg Z F' ρ' μ (wipeD δ vs) (L2.wipe σ vs) H ∧
    Free Z F' ρ' A ∧ (∀ (i : Nat) s, (wipeD δ vs)[i]? = some (some (.own s)) → (L2.wipe σ vs)[i]? ≠ some (some (.ref A))) ∧ H A = some (.lst vals) ∧ RepL X.K X.mg F' ρ' vals acc ∧ FinE X W Z F' ρ' σ P (lcD f tests elt vs (ds.drop i) acc (wipeD δ vs) μ)
  have wout : ∀ {δ : Loc} {s : Slot} (i : Nat), (wipeD δ vs)[i]? = some (some s) → (L2.wipe σ vs)[i]? = σ[i]? := fun i h => wipe_out (wipeD_in h)
  have Sw := (S1.laid (o := .lst []) hA).wipe vs
  refine ⟨Wd, ⟨ds.length, by simp, Nat.zero_le _, F1, ρ1, μ1, δ1, [], [], fun _ _ h => h, fun _ _ h => h, Sw, ⟨n1, n2, n3⟩, fun i s e1 e2 => ?_, upd_same, .nil, by rw [List.drop_zero]; exact p⟩, ?_⟩
  · obtain ⟨w, e3, q', eq', f', r'⟩ := Sw.slot i _ e1
    rw [e2] at e3; cases e3; cases eq'
    have e4 := wout i e1
    rw [e2] at e4
    have e5 : δ1[i]? = some (some (.own s)) := by
      have : ∀ vs : List Nat, (wipeD δ1 vs)[i]? = some (some (.own s)) → δ1[i]? = some (some (.own s)) := by
        intro vs
        induction vs with
        | nil => exact id
        | cons v vs ih =>
          intro h
          have hn := wipeD_in h
          unfold wipeD at h
          rw [List.getElem?_set_ne (fun z => hn (by simp [z]))] at h
          exact ih h
      exact this vs e1
    exact n4 i s e5 e4.symm
  rintro i k H2 ⟨rfl, hle, F2, ρ2, μ2, δ2, vals, acc, to, tr, S2, fA, nA, hL, rL, p2⟩
  obtain ⟨j1, j2⟩ := hJ Z F2 ρ2 μ2 _ _ H2 i to tr S2
  by_cases hlt : i < ds.length
  · refine .inr ?_
    have hd : ds.drop i = ds[i] :: ds.drop (i + 1) := List.drop_eq_getElem_cons hlt
    have SG := S2.guard hL fA nA
    obtain ⟨go, yl⟩ := hJ (upd Z A (.lst vals)) F2 ρ2 μ2 _ _ H2 i to tr SG |>.2 ds[i] (List.getElem?_eq_getElem hlt)
    refine ⟨go, fun H' => Wd (i + 1) (ds.length - (i + 1)) H', fun H' w => ⟨ds.length - (i + 1), by omega, w⟩, fun x H' y => ?_⟩
    obtain ⟨F3, l3, S3, r3⟩ := yl x H' y
    rw [hd] at p2
    unfold lcD at p2
    cases ef : f ds[i] (wipeD δ2 vs) with
    | none => simp only [ef] at p2; exact p2.elim
    | some δ3 =>
      simp only [ef] at p2
      refine ⟨_, F3, ρ2, μ2, _, _, S3, r3, δ3, ef, fun σ4 hσ hl4 S4 => ?_⟩
      have ws : L2.wipe σ4 vs = L2.wipe σ vs := by
        have h1 := wipe_same (σ := L2.wipe σ vs) (σ' := σ4) hl4 (vs := vs) fun j hj => hσ j fun z => hj (hsub j z)
        rw [h1]
        apply wipe_same (wipe_length _ _)
        intro j hj
        exact wipe_out hj
      refine ⟨by rw [ws, wipe_same (σ := σ) (σ' := σ) rfl fun _ _ => rfl], ?_⟩
      -- the tests
      refine ⟨_, F3, ρ2, μ2, δ3, by rw [hK, hm]; exact S4, (FinE.cut (p := A) (o := .lst vals) hK hm (p2.mono l3.unguard .refl)).imp fun b δ5 μ5 H5 F5 ρ5 l5 lr5 _ ⟨S5, l5', lr5', p5⟩ => ?_⟩
      have fin : ∀ {F6 : Hp} {ρ6 : List Addr} {μ6 : Mem} {δ6 : Loc} {H6 H7 : Hp} {vals' : List V} {acc' : List D}, Sim X.K X.mg (upd Z A (.lst vals)) F6 ρ6 μ6 δ6 σ4 H6 → Le (upd Z A (.lst vals)) F3 F6 → LeR (upd Z A (.lst vals)) ρ2 ρ6 →
          (∀ a, a ≠ A → H7 a = H6 a) → H7 A = some (.lst vals') → RepL X.K X.mg F6 ρ6 vals' acc' → FinE X W Z F6 ρ6 σ P (lcD f tests elt vs (ds.drop (i + 1)) acc' (wipeD δ6 vs) μ6) → Wd (i + 1) (ds.length - (i + 1)) H7 := by
        intro F6 ρ6 μ6 δ6 H6 H7 vals' acc' S6 l6 lr6 hne hA7 rL' p6
        have fA6 : Free Z F6 ρ6 A := (fA.on l3 .refl).on l6 lr6
        have S7 := (S6.unguard fA.z).heap hne fA6.f fA6.z fA6.r S6.guardNo
        have S8 := S7.wipe vs
        rw [ws] at S8
        refine ⟨rfl, hlt, F6, ρ6, μ6, δ6, vals', acc', fun p o h => l6.to p o (l3.to p o (to p o h)), fun k p h => lr6.to k p (tr k p h), S8, fA6, fun i' s e1 e2 => ?_, hA7, rL', p6⟩
        obtain ⟨w, e3, q', eq', f', r'⟩ := S8.slot i' _ e1
        rw [e2] at e3; cases e3; cases eq'
        have e4 : (L2.wipe σ4 vs)[i']? = σ4[i']? := wipe_out (wipeD_in e1)
        rw [ws, e2] at e4
        have e5 : δ6[i']? = some (some (.own s)) := by
          have : ∀ vs : List Nat, (wipeD δ6 vs)[i']? = some (some (.own s)) → δ6[i']? = some (some (.own s)) := by
            intro vs
            induction vs with
            | nil => exact id
            | cons v vs ih =>
              intro h
              have hn := wipeD_in h
              unfold wipeD at h
              rw [List.getElem?_set_ne (fun z => hn (by simp [z]))] at h
              exact ih h
          exact this vs e1
        exact S6.guardNo i' s e5 e4.symm
      cases b with
      | false =>
        simp only [if_neg Bool.false_ne_true] at p5 ⊢
        exact fin S5 l5' lr5' (fun _ _ => rfl) S5.guarded (rL.up (fun p o h => l5'.to p o (l3.to p o h)) lr5'.to) p5
      | true =>
        simp only [if_true] at p5 ⊢
        refine ⟨_, F5, ρ5, μ5, δ5, by rw [hK, hm]; exact S5, (FinE.cut (p := A) (o := .lst vals) hK hm p5).imp fun s δ6 μ6 H6 F6 ρ6 l6 lr6 _ ⟨S6, l6', lr6', p6⟩ v vr => ?_⟩
        rw [hK, hm] at vr
        obtain ⟨F7, l7, S7, r7⟩ := S6.lock vr
        by_cases hz : acc.length < 16777216
        · rw [if_pos hz] at p6
          have rL6 := rL.up (fun p o h => l7.to p o (l6'.to p o (l5'.to p o (l3.to p o h)))) fun k p h => lr6'.to k p (lr5'.to k p h)
          refine ⟨vals, S7.guarded, by rw [rL.len, line_eq]; exact hz, ?_⟩
          exact fin S7 (l5'.trans (l6'.trans l7)) (lr5'.trans lr6') (fun a ne => upd_ne ne) upd_same (rL6.app (.cons r7 .nil)) (p6.mono l7.unguard .refl)
        · rw [if_neg hz] at p6; exact p6.elim
  · have e : i = ds.length := by omega
    subst e
    rw [List.drop_length] at p2
    refine .inl ⟨j1 (Nat.le_refl _), ?_⟩
    have S3 : Sim X.K X.mg Z F2 ρ2 μ2 (wipeD δ2 vs) σ H2 := S2.agree (wipe_length _ _).symm fun i s e => (wout i e).symm
    exact p2 H2 F2 ρ2 .refl .refl S3 (.ref A) ⟨⟨A, rfl, fA, vals, hL, rL⟩, fun o p z1 z2 i o' e1 e2 => by
      cases z2
      exact nA i o' e1 (by rw [wout i e1]; exact e2)⟩
abbrev JTs (X : Cx) (W : WX) (ifs : List Expr) (m : MT) : Prop := PTs X ifs (rdT X W m)
theorem je_lc {elt tg iter : Expr} {ifs : List Expr} {scope : Scope} {own : List (Str × Nat)} {mi : MM (List D)} {f : TgF} {is : List Nat} {tests : MT} {m : ME} (hc : X.calm = true) (hN : X.N.Nodup) (hi : JI X W tg iter mi) (ok : BlkOk X.N X.env.scope scope own)
    (hg : ∀ (s : Shared) (H : Hp) (C : Addr) (cl : List (Str × Addr)) (fp : List Addr), JG (X.blk s H scope (compEnvC scope cl C X.env) fp) tg f is) (ht : ∀ (s : Shared) (H : Hp) (C : Addr) (cl : List (Str × Addr)) (fp : List Addr), JTs (X.blk s H scope (compEnvC scope cl C X.env) fp) W0 ifs tests)
    (he : ∀ (s : Shared) (H : Hp) (C : Addr) (cl : List (Str × Addr)) (fp : List Addr), JE (X.blk s H scope (compEnvC scope cl C X.env) fp) W0 elt m) (hsub : ∀ j ∈ is, j ∈ own.map (·.2)) (hs : ∀ x, foldedSetIterable iter X.env x = pure x := by intro _; rfl) :
    JE X W (.ListComp elt [⟨tg, iter, ifs, 0⟩] scope pos) (mLc mi f tests m (own.map (·.2))) :=
  (pe_lc (g := rdG X f is) (tt := rdT X W0 tests) (te := rdE X W0 m) hc hN hi ok hg ht he hs).imp (lc_read (Y := fun _ => True) (B := X) rfl rfl hsub)
end
end FL
namespace FL
open PySem PySem.Spec PyProof.Rows L2
structure RmG (k : Nat) (A : Around) : Prop where
  r : Room k A
  g : A.guards = some []
structure FnG (P : Program) (w : World) (K : PySem.W.Frag) (mg : Str → Option Value) (base : Heap) (Y : CXT) (k : Nat) (f : Addr) (fd : FuncData) (ps : List Str) (sp : Sp) : Prop where
  len : ∀ vs H Q E, sp vs H Q E → vs.length = ps.length
  run : ∀ (A : Around) (outer : List Env) (s : Shared) (H : Hp) (args : Args) (us : List Value) (vs : List V) (Q : VK) (E : XK), RmG k A → Env0 P w K mg base A outer s H → BindsTo s fd args (ps.zip us) → Vals vs us → sp vs H Q E →
    codeAny (model P w) A (.call (.ref f) args) (CR Y outer P w H s Q E) s
structure Fd (K : PySem.W.Frag) (x qual : Str) (st : Stmt) (f : Addr) (fd : FuncData) (dV : Value) : Prop where
  ex : ∃ (oc : Value) (od : Option Addr) (kV doc pm : Value) (an : Option Addr) (cdv ct : Value) (osl : Array (Option Value)),
    fd = PySem.W.fnOf x qual (defArgs st) (defBody st) (defScope st) dV kV doc pm an cdv ct ∧ K.lookup f = some { cls := oc, dict := od, data := .func fd, slots := osl } ∧ PySem.W.codeIn K cdv qual = true
inductive OutF where
  | ok (s : Slot) (μ : Mem)
  | exc (x : Exc) (μ : Mem)
  | bad
abbrev MF := List D → Mem → OutF
section
variable (K : PySem.W.Frag) (mg : Str → Option Value)
def FinF (Z F : Hp) (ρ : List Addr) (Q : VK) (E : XK) : OutF → Prop
  | .ok s μ => ∀ v H' F' ρ', Le Z F F' → LeR Z ρ ρ' → Sim K mg Z F' ρ' μ [] [] H' → SlotR K mg Z F' ρ' H' v s → Q v H'
  | .exc x μ => ∀ c d H' F' ρ', Le Z F F' → LeR Z ρ ρ' → Sim K mg Z F' ρ' μ [] [] H' → ExcR K mg F' ρ' c d x → E c d H'
  | .bad => False
def spM (m : MF) (n : Nat) : Sp := fun vs H Q E => vs.length = n ∧ ∃ Z F ρ μ ds, Sim K mg Z F ρ μ [] [] H ∧ RepL K mg F ρ vs ds ∧ FinF K mg Z F ρ Q E (m ds μ)
end
structure Cs (X : Cx) (W : WX) (k : Nat) (N : List Str) (sc : Scope) : Prop where
  calm : X.calm = true
  rm : RmG k X.A
  tk : Takes X W
  hN : X.N = N
  hsc : X.env.scope = sc
  nd : N.Nodup
structure Cd (X : Cx) (W : WX) (k : Nat) (N : List Str) (sc : Scope) : Prop extends Cs X W k N sc where
  hp : PassesOwn (model X.prog X.w) X.A X.env X.xe
  fn : ∀ x, L2.Loc X.env.scope x → X.fn x = true
section
variable {X : Cx} {W : WX} {k j : Nat} {N : List Str} {sc : Scope} {e : Expr} {es : List Expr} {pos p : Pos} {f : Addr} {fd : FuncData} {ps : List Str} {x : Str}
structure Fu (P : Program) (w : World) (K : PySem.W.Frag) (mg : Str → Option Value) (base : Heap) (k : Nat) (x : Str) (m : MF) (n : Nat) (dds : List D) : Prop where
  ex : ∃ (f : Addr) (fd : FuncData) (ps : List Str) (ds : List Value) (dvs : List V), FnG P w K mg base (L2.CX P w) k f fd ps (spM K mg m n) ∧ mg x = some (.ref f) ∧ PySem.W.keepIn K (.ref f) = true ∧ Binds K fd ps ds ∧ Vals dvs ds ∧ ∀ F ρ, RepL K mg F ρ dvs dds
abbrev FuX (X : Cx) (k : Nat) (x : Str) (m : MF) (n : Nat) (dds : List D) : Prop := Fu X.prog X.w X.K X.mg X.base k x m n dds
theorem run_callG {Y : CXT} {sp : Sp} {dvs : List V} {ds : List Value} {E : L2.St → XK} {pins : List (Addr × Obj)} {σ : L2.St} {H : Hp} {s : Shared} {Q : VK} {us : List Value} {vs : List V} (F : FnG X.prog X.w X.K X.mg X.base Y j f fd ps sp) (hr : RmG j X.A) (hb : Binds X.K fd ps ds) (hd : Vals dvs ds) (hx : PassesAt Y X σ (E σ))
    (I : Inv X pins σ H s) (r : Vals vs us) (h : sp (vs ++ dvs) H Q (E σ)) : wpAny (model X.prog X.w) X.A (call (.ref f) us) (EP X pins σ Q) X.xe s := by
  have r' : Vals (vs ++ dvs) (us ++ ds) := r.append hd
  have hlen : (us ++ ds).length = ps.length := by rw [← r'.length]; exact F.len _ _ _ _ h
  refine wpAny_call (codeAny_mono (F.run X.A X.stack s H ⟨us, []⟩ _ _ Q (E σ) hr I.env0 (hb s us I.kIn hlen) r' h) fun res s' hq => ?_)
  cases res with
  | error e => exact hx pins H s e s' I hq
  | ok fl =>
    cases fl with
    | ret u => exact I.after hq
    | next => exact False.elim hq
    | brk => exact False.elim hq
    | cont => exact False.elim hq
def glC (sc : Scope) (x : Str) : Bool := decide (sc.names.lookup x = some .globalImplicit) && !(x == ("__debug__" : Str)) && !decide (x = "__name__")
theorem Cs.gl (C : Cs X W k N sc) (h : glC sc x = true) : Gl X x ∧ (x == ("__debug__" : Str)) = false ∧ x ≠ "__name__" := by
  unfold glC at h
  simp only [Bool.and_eq_true, Bool.not_eq_true', decide_eq_true_eq, decide_eq_false_iff_not] at h
  refine ⟨?_, h.1.2, h.2⟩
  show X.env.scope.names.lookup x = _
  rw [C.hsc]; exact h.1.1
def varC (N : List Str) (sc : Scope) (i : Nat) (x : Str) : Bool := decide (N[i]? = some x) && (decide (sc.names.lookup x = some .local) || (decide (sc.names.lookup x = some .cell) || decide (sc.names.lookup x = some .free))) && !(x == ("__debug__" : Str)) && !(x == ("__classdict__" : Str))
theorem Cs.var {i : Nat} (C : Cs X W k N sc) (h : varC N sc i x = true) : PE X (.Name x p) (tVar i) := by
  unfold varC at h
  simp only [Bool.and_eq_true, Bool.not_eq_true', decide_eq_true_eq, Bool.or_eq_true] at h
  obtain ⟨⟨⟨h1, h2⟩, h3⟩, h4⟩ := h
  refine pe_var (by rw [C.hN]; exact h1) ?_ h3 h4
  show X.env.scope.names.lookup x = _ ∨ X.env.scope.names.lookup x = _ ∨ X.env.scope.names.lookup x = _
  rw [C.hsc]; exact h2
theorem Cs.v {i : Nat} (C : Cs X W k N sc) (h : varC N sc i x = true) : JE X W (.Name x p) (mV i) := je_v (C.var h)
def locC (N : List Str) (sc : Scope) (i : Nat) (x : Str) : Bool := decide (N[i]? = some x) && (decide (sc.names.lookup x = some .local) || decide (sc.names.lookup x = some .cell))
theorem Cd.loc {i : Nat} (C : Cd X W k N sc) (h : locC N sc i x = true) : X.N.Nodup ∧ X.N[i]? = some x ∧ L2.Loc X.env.scope x := by
  unfold locC at h
  simp only [Bool.and_eq_true, decide_eq_true_eq, Bool.or_eq_true] at h
  refine ⟨by rw [C.hN]; exact C.nd, by rw [C.hN]; exact h.1, ?_⟩
  show X.env.scope.names.lookup x = _ ∨ X.env.scope.names.lookup x = _
  rw [C.hsc]; exact h.2
theorem Cd.set {i : Nat} {m : ME} {pos' : Pos} (C : Cd X W k N sc) (h : locC N sc i x = true) (he : JE X W e m) (hs : swapsWith e (some (.Name x pos')) pos.line X.env = pure false := by rfl) : JS X W (.Assign [.Name x pos'] e pos) (mSet i m) :=
  let ⟨a, b, c⟩ := C.loc h
  js_set a b c he hs (.inl (C.fn x c))
theorem Cd.tg {i : Nat} (C : Cd X W k N sc) (h : locC N sc i x = true) : JG X (.Name x pos) (tgV i) [i] :=
  let ⟨a, b, c⟩ := C.loc h
  jg_v a b c (.inl (C.fn x c))
def ownC (N : List Str) (sc : Scope) (i : Nat) (x : Str) : Bool := decide (N[i]? = some x) && decide (sc.names.lookup x = some .local)
theorem Cs.own {i : Nat} (C : Cs X W k N sc) (h : ownC N sc i x = true) : X.N.Nodup ∧ X.N[i]? = some x ∧ X.env.scope.names.lookup x = some .local := by
  unfold ownC at h
  simp only [Bool.and_eq_true, decide_eq_true_eq] at h
  exact ⟨by rw [C.hN]; exact C.nd, by rw [C.hN]; exact h.1, by rw [C.hsc]; exact h.2⟩
theorem Cs.tg {i : Nat} (C : Cs X W k N sc) (h : ownC N sc i x = true) : JG X (.Name x pos) (tgV i) [i] :=
  let ⟨a, b, c⟩ := C.own h
  jg_v a b (.inl c) (.inr c)
theorem Cs.blk (C : Cs X W k N sc) (scope : Scope) (s : Shared) (H : Hp) (c : Addr) (cl : List (Str × Addr)) (fp : List Addr) : Cs (X.blk s H scope (compEnvC scope cl c X.env) fp) W0 k N (relS scope sc) :=
  ⟨C.calm, C.rm, fun _ _ ⟨_, _, _, _, _, _, _, _, _, _, _, _, _, _, _, _, z⟩ => z.elim, C.hN, by
    show relabel scope X.env = relS scope sc
    rw [← C.hsc]; rfl, C.nd⟩
theorem Cs.lc {elt tg iter : Expr} {ifs : List Expr} {scope : Scope} {mi : MM (List D)} {f : TgF} {is : List Nat} {tests : MT} {m : ME} {Tx : Program → World → PySem.W.Frag → (Str → Option Value) → Heap → Prop} (C : Cs X W k N sc) (T : Tx X.prog X.w X.K X.mg X.base) (own : List (Str × Nat)) (hi : JI X W tg iter mi) (ok : blkC N sc scope own = true)
    (hb : ∀ (Y : Cx), Tx Y.prog Y.w Y.K Y.mg Y.base → Cs Y W0 k N (relS scope sc) → JG Y tg f is ∧ JTs Y W0 ifs tests ∧ JE Y W0 elt m) (hsub : (is.all fun j => (own.map (·.2)).contains j) = true) (hs : ∀ x, foldedSetIterable iter X.env x = pure x := by intro _; rfl) :
    JE X W (.ListComp elt [⟨tg, iter, ifs, 0⟩] scope pos) (mLc mi f tests m (own.map (·.2))) :=
  je_lc C.calm (by rw [C.hN]; exact C.nd) hi (by rw [C.hN, C.hsc]; exact blkOk_by ok) (fun s H c cl fp => (hb (X.blk s H scope (compEnvC scope cl c X.env) fp) T (C.blk scope s H c cl fp)).1) (fun s H c cl fp => (hb (X.blk s H scope (compEnvC scope cl c X.env) fp) T (C.blk scope s H c cl fp)).2.1)
    (fun s H c cl fp => (hb (X.blk s H scope (compEnvC scope cl c X.env) fp) T (C.blk scope s H c cl fp)).2.2) (fun j hj => by simpa using List.all_eq_true.mp hsub j hj) hs
end
end FL
namespace FL
open PySem PySem.Spec PyProof.Rows L2
section
variable {X : Cx} {W : WX} {k j : Nat} {N : List Str} {sc : Scope} {a b c e o : Expr} {es : List Expr} {pos p apos : Pos} {x : Str} {oa ob : Opn}
theorem Cs.ty {T : String} (C : Cs X W k N sc) (h : glC sc x = true) (hm : X.mg x = none) (hv : bootBuiltins x = some (.type T)) : JE X W (.Name x pos) (mD (.ty T)) :=
  let ⟨g1, g2, g3⟩ := C.gl h
  je_ty g1 hm hv g3 g2
end
end FL
namespace FL
open PySem PySem.Spec PyProof.Rows L2
def clsDef (j : Nat) : Stmt → Stmt
  | .ClassDef _ _ _ body _ _ _ _ _ _ _ => body.getD j (.Pass ⟨0, 0, 0, 0⟩)
  | s => s
end FL
namespace FL
open PySem PySem.Spec PyProof.Rows L2 LamX
structure LmS (N : List Str) (sc scope : Scope) : Prop where
  kind : scope.kind = .function
  co : scope.isCoroutine = false
  gen : scope.isGenerator = false
  own : ∀ y ∈ scope.names, y.2 ≠ .cell ∧ (y.2 = .local → y.1 ∉ N)
  free : ∀ y ∈ scope.names, y.2 = .free → sc.names.lookup y.1 = some .cell ∨ sc.names.lookup y.1 = some .free
theorem LmS.has {N : List Str} {X : Cx} {scope : Scope} (L : LmS N X.env.scope scope) (ok : X.Ok) (y) (hy : y ∈ scope.names) (e : y.2 = .free) : ∃ c, X.env.cells.lookup y.1 = some c :=
  (L.free y hy e).elim (fun k => ok.has _ (Or.inl k)) fun k => ok.has _ (Or.inr k)
structure Cm (X : Cx) (W : WX) (k : Nat) (N : List Str) (sc : Scope) (q : Str) (P : Addr) : Prop extends Cd X W k N sc where
  tab : ∃ c, X.env.code = .ref c ∧ TabB X.base X.mg c P
  qual : X.env.qual ++ "<lambda>" = q
structure FdL (K : PySem.W.Frag) (x qual : Str) (st : Stmt) (f : Addr) (fd : FuncData) (dV : Value) (c : Addr) : Prop where
  ex : ∃ (oc : Value) (od : Option Addr) (kV doc pm : Value) (an : Option Addr) (ct : Value) (osl : Array (Option Value)),
    fd = PySem.W.fnOf x qual (defArgs st) (defBody st) (defScope st) dV kV doc pm an (.ref c) ct ∧ K.lookup f = some { cls := oc, dict := od, data := .func fd, slots := osl } ∧ PySem.W.codeIn K (.ref c) qual = true
theorem FdL.fd {K : PySem.W.Frag} {x qual : Str} {st : Stmt} {f : Addr} {fd : FuncData} {dV : Value} {c : Addr} (F : FdL K x qual st f fd dV c) : Fd K x qual st f fd dV :=
  let ⟨oc, od, kV, doc, pm, an, ct, osl, h1, h2, h3⟩ := F.ex
  ⟨oc, od, kV, doc, pm, an, .ref c, ct, osl, h1, h2, h3⟩
theorem Cm.body {X : Cx} {W : WX} {k kh : Nat} {N : List Str} {sc scope : Scope} {q : Str} {P : Addr} {Tx : Program → World → PySem.W.Frag → (Str → Option Value) → Heap → Prop} {body : Expr} {m : ME} (C : Cm X W k N sc q P) (T : Tx X.prog X.w X.K X.mg X.base)
    (h : ∀ (Y : Cx) (V : WX), Tx Y.prog Y.w Y.K Y.mg Y.base → Cs Y V kh N scope → JE Y V body m) :
    ∀ (Y : Cx) (V : WX), Y.prog = X.prog → Y.w = X.w → Y.K = X.K → Y.mg = X.mg → Y.base = X.base → Cs Y V kh N scope → JE Y V body m := fun Y V e1 e2 e3 e4 e5 c => h Y V (by rw [e1, e2, e3, e4, e5]; exact T) c
end FL
namespace FL
open PySem PySem.Spec PyProof.Rows L2 LamX
theorem Cs.cls {X : Cx} {W : WX} {k : Nat} {N : List Str} {sc : Scope} {x : String} {pos : Pos} (C : Cs X W k N sc) (h : glC sc (Str.ofString x) = true) (hm : ∃ D : Addr, X.mg (Str.ofString x) = some (.ref D)) : JE X W (.Name (Str.ofString x) pos) (mD (.glo x)) :=
  let ⟨g1, g2, g3⟩ := C.gl h
  let ⟨D, hm⟩ := hm
  je_glo g1 hm (v := .ref D) rfl g2
end FL
namespace FL
open PySem PySem.Spec PyProof.Rows L2
inductive Att where
  | fld | con (d : D) | no
structure CallD (X : Cx) (k : Nat) (a : Addr) (m : MF) (n : Nat) (dds : List D) : Prop where
  ex : ∃ dvs : List V, (∀ F ρ, RepL X.K X.mg F ρ dvs dds) ∧ (RmG k X.A → ∀ (pins : List (Addr × Obj)) (σ : L2.St) (H : Hp) (s : Shared) (us : List Value) (vs : List V) (Q : VK) (E : XK), PassesAt (L2.CX X.prog X.w) X σ E → Inv X pins σ H s → Vals vs us →
    spM X.K X.mg m n (vs ++ dvs) H Q E → wpAny (model X.prog X.w) X.A (call (.ref a) us) (EP X pins σ Q) X.xe s)
section
variable {X : Cx} {W : WX} {k j n : Nat} {N : List Str} {sc : Scope} {e : Expr} {es : List Expr} {pos p : Pos} {f C : Addr} {fd : FuncData} {ps : List Str} {ds : List Value} {dvs : List V} {dds : List D} {m : MF} {x : Str}
theorem CallD.fn (F : FnG X.prog X.w X.K X.mg X.base (L2.CX X.prog X.w) j f fd ps (spM X.K X.mg m n)) (hb : Binds X.K fd ps ds) (hd : Vals dvs ds) (hdd : ∀ F ρ, RepL X.K X.mg F ρ dvs dds) : CallD X j f m n dds :=
  ⟨dvs, hdd, fun hr pins σ H s us vs Q E hx I r h => run_callG (E := fun _ => E) F hr hb hd hx I r h⟩
theorem CallD.of (F : FuX X j x m n dds) : ∃ a, X.mg x = some (.ref a) ∧ PySem.W.keepIn X.K (.ref a) = true ∧ CallD X j a m n dds := by
  obtain ⟨f, fd, ps, ds, dvs, F, hm, hk, hb, hd, hdd⟩ := F.ex
  exact ⟨f, hm, hk, .fn F hb hd hdd⟩
end
end FL
namespace FL
open PySem PySem.Spec PyProof.Rows L2
inductive Sel where
  | pos (i : Nat) | key (i : Nat) | dfl (i : Nat)
def Sel.get {α : Type} (vs ds zs : List α) : Sel → Option α
  | .pos i => vs[i]?
  | .key i => zs[i]?
  | .dfl i => ds[i]?
def pickS {α : Type} (sel : List Sel) (vs ds zs : List α) : List α := sel.filterMap (Sel.get vs ds zs)
theorem vals_nth : ∀ {vs : List V} {us : List Value}, Vals vs us → ∀ i : Nat, (vs[i]? = none ∧ us[i]? = none) ∨ ∃ v u, vs[i]? = some v ∧ us[i]? = some u ∧ RelV v u
  | _, _, .nil, i => .inl ⟨rfl, rfl⟩
  | _, _, .cons h t, 0 => .inr ⟨_, _, rfl, rfl, h⟩
  | _, _, .cons h t, i + 1 => by simpa using vals_nth t i
theorem pickS_vals {vs dv zs : List V} {us dw ws : List Value} (h1 : Vals vs us) (h2 : Vals dv dw) (h3 : Vals zs ws) : ∀ sel : List Sel, Vals (pickS sel vs dv zs) (pickS sel us dw ws)
  | [] => .nil
  | a :: sel => by
    have ih := pickS_vals h1 h2 h3 sel
    have q : (a.get vs dv zs = none ∧ a.get us dw ws = none) ∨ ∃ v u, a.get vs dv zs = some v ∧ a.get us dw ws = some u ∧ RelV v u := by
      cases a with
      | pos i => exact vals_nth h1 i
      | key i => exact vals_nth h3 i
      | dfl i => exact vals_nth h2 i
    unfold pickS at ih ⊢
    rcases q with ⟨e1, e2⟩ | ⟨v, u, e1, e2, r⟩
    · rw [List.filterMap_cons_none e1, List.filterMap_cons_none e2]; exact ih
    · rw [List.filterMap_cons_some e1, List.filterMap_cons_some e2]; exact .cons r ih
def BindW (K : PySem.W.Frag) (fd : FuncData) (ps : List Str) (n : Nat) (ks : List Str) (sel : List Sel) (dw : List Value) : Prop :=
  ∀ (s : Shared) (us ws : List Value), K.In s.heap → us.length = n → ws.length = ks.length → BindsTo s fd ⟨us, ks.zip ws⟩ (ps.zip (pickS sel us dw ws))
structure CallW (X : Cx) (k : Nat) (a : Addr) (n : Nat) (ks : List Str) (sel : List Sel) (m : MF) (N : Nat) (dds : List D) : Prop where
  kp : PySem.W.keepIn X.K (.ref a) = true
  len : ∀ {α : Type} (vs ds zs : List α), vs.length = n → ds.length = dds.length → zs.length = ks.length → (pickS sel vs ds zs).length = N
  ex : ∃ dvs : List V, (∀ F ρ, RepL X.K X.mg F ρ dvs dds) ∧ (RmG k X.A → ∀ (pins : List (Addr × Obj)) (σ : L2.St) (H : Hp) (s : Shared) (us ws : List Value) (vs zs : List V) (Q : VK) (E : XK), PassesAt (L2.CX X.prog X.w) X σ E → Inv X pins σ H s → Vals vs us → Vals zs ws → vs.length = n → zs.length = ks.length →
    spM X.K X.mg m N (pickS sel vs dvs zs) H Q E → wpAny (model X.prog X.w) X.A (call (.ref a) us (ks.zip ws)) (EP X pins σ Q) X.xe s)
section
variable {X : Cx} {W : WX} {k j n N : Nat} {e : Expr} {es : List Expr} {kws : List Keyword} {pos p : Pos} {f C a : Addr} {fd : FuncData} {ps ks : List Str} {ds : List Value} {dvs : List V} {dds : List D} {m mi : MF} {x : Str} {c : String} {sel : List Sel}
theorem run_callW {pins : List (Addr × Obj)} {σ : L2.St} {H : Hp} {s : Shared} {Q : VK} {E : XK} {us ws : List Value} {vs zs : List V} {sp : Sp} (F : FnG X.prog X.w X.K X.mg X.base (L2.CX X.prog X.w) j f fd ps sp) (hr : RmG j X.A) (hb : BindW X.K fd ps n ks sel ds) (hd : Vals dvs ds)
    (hx : PassesAt (L2.CX X.prog X.w) X σ E) (I : Inv X pins σ H s) (r : Vals vs us) (rz : Vals zs ws) (l1 : vs.length = n) (l2 : zs.length = ks.length) (h : sp (pickS sel vs dvs zs) H Q E) :
    wpAny (model X.prog X.w) X.A (call (.ref f) us (ks.zip ws)) (EP X pins σ Q) X.xe s := by
  refine wpAny_call (codeAny_mono (F.run X.A X.stack s H ⟨us, ks.zip ws⟩ _ _ Q E hr I.env0 (hb s us ws I.kIn (by rw [← r.length, l1]) (by rw [← rz.length, l2])) (pickS_vals r hd rz sel) h) fun res t ht => ?_)
  match res, ht with
  | .error er, ht => exact hx pins H s er t I ht
  | .ok (.ret u), ht => exact I.after ht
theorem CallW.fn (F : FnG X.prog X.w X.K X.mg X.base (L2.CX X.prog X.w) j f fd ps (spM X.K X.mg m N)) (hk : PySem.W.keepIn X.K (.ref f) = true) (hb : BindW X.K fd ps n ks sel ds) (hd : Vals dvs ds) (hdd : ∀ F ρ, RepL X.K X.mg F ρ dvs dds)
    (len : ∀ {α : Type} (vs ds zs : List α), vs.length = n → ds.length = dds.length → zs.length = ks.length → (pickS sel vs ds zs).length = N) : CallW X j f n ks sel m N dds :=
  ⟨hk, len, dvs, hdd, fun hr pins σ H s us ws vs zs Q E hx I r rz l1 l2 h => run_callW F hr hb hd hx I r rz l1 l2 h⟩
end
end FL
namespace FL
open PySem PySem.Spec PyProof.Rows L2
section
variable {X : Cx} {W : WX} {k j n N : Nat} {e o : Expr} {es : List Expr} {kws : List Keyword} {pos p apos : Pos} {C g a dx q : Addr} {fd : FuncData} {ps : List Str} {fs : List (Str × V)} {f : Str} {sp : Sp} {nm : Str}
def PropG (X : Cx) (j : Nat) (c f : String) (m : MF) : Prop :=
  ∀ C, X.mg (Str.ofString c) = some (.ref C) → Cls X.K C ∧ ∃ (p g : Addr) (fd : FuncData) (nm : Str), PropOf X.K C (Str.ofString f) p g ∧ FnG X.prog X.w X.K X.mg X.base (L2.CX X.prog X.w) j g fd [nm] (spM X.K X.mg m 1) ∧ Binds X.K fd [nm] []
def PropsOk (X : Cx) (j : Nat) (pt : String → String → Option MF) : Prop := ∀ c f m, pt c f = some m → PropG X j c f m
def MethG (X : Cx) (j : Nat) (c f : String) (n : Nat) (m : MF) : Prop :=
  ∀ C, X.mg (Str.ofString c) = some (.ref C) → Cls X.K C ∧ ∃ (g : Addr) (fd : FuncData) (ps : List Str) (ds : List Value) (dvs : List V) (dds : List D) (m' : MF) (N : Nat), Meth X.K C (Str.ofString f) g ∧ FnG X.prog X.w X.K X.mg X.base (L2.CX X.prog X.w) j g fd ps (spM X.K X.mg m' N) ∧ Binds X.K fd ps ds ∧ Vals dvs ds ∧
    (∀ F ρ, RepL X.K X.mg F ρ dvs dds) ∧ n + 1 + dds.length = N ∧ ∀ ds' μ, m ds' μ = m' (ds' ++ dds) μ
def MethsOk (X : Cx) (j : Nat) (mt : String → String → Nat → Option MF) : Prop := ∀ c f n m, mt c f n = some m → MethG X j c f n m
end
end FL
namespace FL
open PySem PySem.Spec PyProof.Rows L2
abbrev clsE (qual : Str) (scope : Scope) (L f : Addr) (cd : Value) (cc : Addr) : Env := PySem.W.ksEnv qual scope L f cd cc
structure FdC (K : PySem.W.Frag) (x qual : Str) (st : Stmt) (f : Addr) (fd : FuncData) (dV : Value) (cda cc D : Addr) : Prop where
  ex : ∃ (oc : Value) (od : Option Addr) (kV doc pm : Value) (an : Option Addr) (ct : Value) (osl : Array (Option Value)),
    fd = PySem.W.ksFn x qual (defArgs st) (defBody st) (defScope st) dV kV doc pm an (.ref cda) ct cc ∧ K.lookup f = some { cls := oc, dict := od, data := .func fd, slots := osl }
  cd : PySem.W.codeIn K (.ref cda) qual = true
  cell : ∃ cl cld csl, K.lookup cc = some { cls := cl, dict := cld, data := .cell (some (.ref D)), slots := csl }
structure CsK (X : Cx) (f cda cc D : Addr) (st : Stmt) : Prop where
  fd : ∃ fd x qual dV, FdC X.K x qual st f fd dV cda cc D ∧ X.env = clsE qual (defScope st) X.env.locals f (.ref cda) cc
end FL
namespace FL
open PySem PySem.Spec PyProof.Rows L2
structure SupT (X : Cx) (f cda cc D : Addr) (p0 : Str) : Prop where
  lk : ∃ o fd ar, X.K.lookup f = some o ∧ o.data = .func fd ∧ (fd.params.posonlyargs ++ fd.params.args).head? = some ar ∧ ar.arg = p0
  code : ∃ ccl cdd vs ccs file tf, X.K.lookup cda = some { cls := ccl, dict := cdd, data := .fields vs, slots := ccs } ∧ vs[2]? = some (.str file tf) ∧ ((X.prog.main.file : Str) == file) = true
  cell : ∃ cl cld csl, X.K.lookup cc = some { cls := cl, dict := cld, data := .cell (some (.ref D)), slots := csl }
  clsD : ∃ cdD, PySem.W.clsIn X.K D = some cdD
  any : PySem.W.nsIn X.K cStatics "thirdparty.any" = some none
  top : (X.prog.main.scope.names.lookup ("super" : Str)).isSome = false
  sup : X.mg "super" = none
  ls : X.env.scope.names.lookup ("super" : Str) = some .globalImplicit
  lc : X.env.scope.names.lookup ("__class__" : Str) = some .free
  l0 : X.env.scope.names.lookup p0 = some .local
  n0 : X.N[0]? = some p0
  func : X.env.func = some f
  ecode : X.env.code = .ref cda
  cells : X.env.cells.lookup ("__class__" : Str) = some cc
def SupG (X : Cx) (j : Nat) (c f : String) (D : Addr) (mi : MF) (N : Nat) : Prop :=
  ∀ C, X.mg (Str.ofString c) = some (.ref C) → ∃ (g : Addr) (og : Obj) (fd : FuncData) (ps : List Str) (ds : List Value) (dvs : List V) (cdC : ClassData), PySem.W.clsIn X.K C = some cdC ∧ PySem.W.alongIn X.K (Str.ofString f) ((cdC.mro.dropWhile (· != .ref D)).drop 1) = some (some (.ref g)) ∧
    X.K.lookup g = some og ∧ og.cls = .type "function" ∧ PySem.W.fnIn X.K g = true ∧ PySem.W.mroIn X.K C (.ref D) = some true ∧ FnG X.prog X.w X.K X.mg X.base (L2.CX X.prog X.w) j g fd ps (spM X.K X.mg mi N) ∧ Binds X.K fd ps []
end FL
namespace FL
open PySem PySem.Spec PyProof.Rows L2 LamX
abbrev oTab : Obj := { cls := .none, data := .fields #[] }
end FL
namespace FL
open PySem PySem.Spec PyProof.Rows L2 LamX
structure Dsc where
  p : Str × Option Str
  x : Str
  qual : Str
  st : Stmt
  clo : List Str
  /-- it has no positional defaults -/
  nd : Bool := true
def fAdF (K : PySem.W.Frag) (p : Str × Option Str) : Addr := match PySem.W.recIn K (He.fAd K p) "property" with
  | some (.ref g :: _) => g
  | _ => (match PySem.W.recIn K (He.fAd K p) "staticmethod" with
    | some (.ref g :: _) => g
    | _ => He.fAd K p)
abbrev FnS : Type := Option (Str × Str × Arguments × FuncBody × Scope × Addr × List Str × Addr)
def fnS (K : PySem.W.Frag) (p : Str × Option Str) : FnS := match K.lookup (fAdF K p) with
  | some ⟨_, _, .func fd, _⟩ => some (fd.name, fd.qualname, fd.params, fd.body, fd.scope, fd.globals, fd.closure.map (·.1), fd.builtins)
  | _ => none
def Dsc.val (d : Dsc) : FnS := some (d.x, d.qual, defArgs d.st, .stmts (defBody d.st), defScope d.st, mainGlobals, d.clo, builtinsNs)
def Dsc.ok (K : PySem.W.Frag) (d : Dsc) : Bool := match K.lookup (fAdF K d.p) with
  | some ⟨_, _, .func fd, _⟩ => PySem.W.codeIn K fd.code d.qual && (!d.nd || decide (fd.defaults = .none))
  | _ => false
def refsF (o : Obj) : List Addr := He.refsO o ++ match o.data with
  | .func fd => fd.closure.map (·.2) ++ He.refV fd.kwdefaults
  | .cell (some v) => He.refV v
  | _ => []
def ddF (p : Nat × List Addr) : List Addr → Nat × List Addr
  | [] => p
  | a :: as => ddF (bif Nat.beq (Nat.mod (Nat.shiftRight p.1 a) 2) 1 then p else (Nat.lor p.1 (Nat.shiftLeft 1 a), a :: p.2)) as
def growF (g : Addr → Option Obj) : Nat → Nat → List Addr → List Addr
  | 0, _, new => new
  | n + 1, seen, new => (fun p : Nat × List Addr => new ++ growF g n p.1 p.2.reverse) (ddF (seen, []) (new.flatMap fun a => match g a with
    | some o => refsF o
    | none => []))
def asF (g : Addr → Option Obj) (n : Nat) : List Addr := (fun p : Nat × List Addr => growF g n p.1 p.2.reverse) (ddF (Nat.shiftLeft 1 cStatics, []) [mainGlobals]) ++ [cStatics]
def keepO (o : Obj) : Bool := match o.cls, o.data with
  | .none, .fields _ => false
  | _, _ => true
def frF (g : Addr → Option Obj) (n : Nat) : PySem.W.Frag := He.frG g ((asF g n).filter fun a => match g a with
  | some o => keepO o
  | none => false)
abbrev FnP : Type := Str × Option Str
def codeAd (K : PySem.W.Frag) (p : FnP) : Addr := match K.lookup (fAdF K p) with
  | some ⟨_, _, .func fd, _⟩ => (match fd.code with
    | .ref c => c
    | _ => 0)
  | _ => 0
def tabAd (K : PySem.W.Frag) (p : FnP) : Addr := match K.lookup (codeAd K p) with
  | some ⟨_, _, .fields vs, _⟩ => (match (vs[11]? : Option Value) with
    | some (Value.ref P) => P
    | _ => 0)
  | _ => 0
abbrev Mks : Type := List (FnP × Str)
def tabOk (K : PySem.W.Frag) (ts : Mks) : Bool := (ts.all fun t => PySem.W.codeHdIn K (codeAd K t.1) (tabAd K t.1) && (K.lookup (tabAd K t.1)).isNone) && decide (ts.map fun t => tabAd K t.1).Nodup
abbrev HkA : Type := Bool × List FnS × List (Option Obj)
def hkObs (fs : List (PySem.W.Frag → Bool)) (ds : List Dsc) (ts : Mks) (g : Addr → Option Obj) (K : PySem.W.Frag) : HkA := (((fs.all fun f => f K) && ds.all fun d => d.ok K) && tabOk K ts, ds.map (fun d => fnS K d.p), ts.map fun t => g (tabAd K t.1))
def hkVal (ds : List Dsc) (ts : Mks) : HkA := (true, ds.map Dsc.val, ts.map fun _ => some oTab)
structure HkSays (fs : List (PySem.W.Frag → Bool)) (ds : List Dsc) (ts : Mks) (K : PySem.W.Frag) : Prop where
  t : (((fs.all fun f => f K) && ds.all fun d => d.ok K) && tabOk K ts) = true
  d : (ds.map fun d => fnS K d.p) = ds.map Dsc.val
def hkG (n : Nat) (fs : List (PySem.W.Frag → Bool)) (ds : List Dsc) (ts : Mks) (g : Addr → Option Obj) : HkA := hkObs fs ds ts g (frF g n)
theorem frF_in {n : Nat} {h : Heap} : (frF h.get? n).In h := fun _ _ e => He.frG_at _ e
def hookF (n : Nat) (fs : List (PySem.W.Frag → Bool)) (ds : List Dsc) (ts : Mks) : PySem.W.Hook where
  α := HkA
  obs := fun s => hkG n fs ds ts s.heap.get?
  val := fun _ => hkVal ds ts
  says := fun _ h => ∃ K : PySem.W.Frag, K.In h ∧ HkSays fs ds ts K ∧ ∀ t ∈ ts, h.get? (tabAd K t.1) = some oTab
  of := fun _ s e => ⟨_, frF_in, ⟨congrArg (fun z : HkA => z.1) e, congrArg (fun z : HkA => z.2.1) e⟩, fun t ht => by
    have z : (ts.map fun t => s.heap.get? (tabAd (frF s.heap.get? n) t.1)) = ts.map fun _ => some oTab := congrArg (fun z : HkA => z.2.2) e
    exact List.map_inj_left.mp z t ht⟩
  keeps := fun _ _ _ ⟨K, hK, c, x⟩ k => ⟨K, PySem.W.Frag.In.keeps hK k, c, fun t ht => k _ _ (x t ht)⟩
section
variable {fs : List (PySem.W.Frag → Bool)} {ds : List Dsc} {ts : Mks} {K : PySem.W.Frag}
theorem HkSays.both (c : HkSays fs ds ts K) : (fs.all fun f => f K) = true ∧ (ds.all fun d => d.ok K) = true := Bool.and_eq_true_iff.mp (Bool.and_eq_true_iff.mp c.t).1
theorem HkSays.fn0 (c : HkSays fs ds ts K) (i : Nat) {d : Dsc} (h : ds[i]? = some d) : ∃ oc od osl dV kV doc pm an cdv ct clo, clo.map (·.1) = d.clo ∧ K.lookup (fAdF K d.p) = some ⟨oc, od, .func (PySem.W.fnX d.x d.qual (defArgs d.st) (defBody d.st) (defScope d.st) clo dV kV doc pm an cdv ct), osl⟩ ∧ PySem.W.codeIn K cdv d.qual = true ∧ (d.nd = true → dV = .none) := by
  have e : (ds.map fun d => fnS K d.p)[i]? = (ds.map Dsc.val)[i]? := by rw [c.d]
  rw [List.getElem?_map, List.getElem?_map, h] at e
  have e : fnS K d.p = d.val := Option.some.inj e
  have k : d.ok K = true := List.all_eq_true.mp c.both.2 d (List.mem_of_getElem? h)
  unfold fnS at e
  unfold Dsc.ok at k
  cases q : K.lookup (fAdF K d.p) with
  | none => rw [q] at k; cases k
  | some o =>
    obtain ⟨oc, od, dt, osl⟩ := o
    rw [q] at k e
    cases dt with
    | func fd =>
      obtain ⟨n1, n2, n3, n4, n5, n6, n7, n8, n9, n10, n11, n12, n13, n14, n15⟩ := fd
      have e2 : (some (n1, n2, n3, n4, n5, n6, n7.map (·.1), n15) : FnS) = some (d.x, d.qual, defArgs d.st, .stmts (defBody d.st), defScope d.st, mainGlobals, d.clo, builtinsNs) := e
      simp only [Option.some.injEq, Prod.mk.injEq] at e2
      obtain ⟨h1, h2, h3, h4, h5, h6, h7, h8⟩ := e2
      obtain ⟨k1, k2⟩ := Bool.and_eq_true_iff.mp (show (PySem.W.codeIn K n13 d.qual && (!d.nd || decide (n8 = Value.none))) = true from k)
      subst h1 h2 h3 h4 h5 h6 h8
      refine ⟨oc, od, osl, n8, n9, n10, n11, n12, n13, n14, n7, h7, rfl, k1, fun hn => ?_⟩
      rw [hn] at k2
      exact of_decide_eq_true (by simpa using k2)
    | _ => cases k
theorem HkSays.fn (c : HkSays fs ds ts K) (i : Nat) {d : Dsc} (h : ds[i]? = some d) (hn : d.nd = true) : ∃ oc od osl kV doc pm an cdv ct clo, clo.map (·.1) = d.clo ∧ K.lookup (fAdF K d.p) = some ⟨oc, od, .func (PySem.W.fnX d.x d.qual (defArgs d.st) (defBody d.st) (defScope d.st) clo .none kV doc pm an cdv ct), osl⟩ ∧ PySem.W.codeIn K cdv d.qual = true := by
  obtain ⟨oc, od, osl, dV, kV, doc, pm, an, cdv, ct, clo, e1, e2, e3, e4⟩ := c.fn0 i h
  cases e4 hn
  exact ⟨oc, od, osl, kV, doc, pm, an, cdv, ct, clo, e1, e2, e3⟩
theorem HkSays.fd (c : HkSays fs ds ts K) (i : Nat) {d : Dsc} (h : ds[i]? = some d) (hc : d.clo = []) (hn : d.nd = true := by rfl) : ∃ fd, Fd K d.x d.qual d.st (fAdF K d.p) fd .none := by
  obtain ⟨oc, od, osl, kV, doc, pm, an, cdv, ct, clo, e1, e2, e3⟩ := c.fn i h hn
  rw [hc] at e1
  have e1 : clo = [] := List.map_eq_nil_iff.mp e1
  subst e1
  exact ⟨_, oc, od, kV, doc, pm, an, cdv, ct, osl, rfl, e2, e3⟩
end
end FL
namespace FL
open PySem PySem.Spec PyProof.Rows L2 LamX
def tFld (c f : Str) (K : PySem.W.Frag) : Bool := (He.Fa.cls c).ok K && (He.Fa.noat c f).ok K
def tCon (c f s : Str) (K : PySem.W.Frag) : Bool := (He.Fa.cls c).ok K && (match PySem.W.findIn K (.ref (He.ga K c)) f with
  | some (some (.str y t)) => decide (y = s) && (decide (PySem.W.specialIn K (.str y t) "__get__" = some none) && !PySem.W.copiedNames.contains f)
  | _ => false)
def tPrp (c f : Str) (K : PySem.W.Frag) : Bool := (He.Fa.cls c).ok K && (decide (PySem.W.findIn K (.ref (He.ga K c)) f = some (some (.ref (He.ma K (He.ga K c) f)))) && (decide (PySem.W.specialIn K (.ref (He.ma K (He.ga K c) f)) "__get__" = some (some (.builtin "property.__get__"))) &&
  (decide (PySem.W.takesIn K (.ref (He.ma K (He.ga K c) f)) = some true) && (match PySem.W.recIn K (He.ma K (He.ga K c) f) "property" with
    | some (.ref _ :: _) => true
    | _ => false))))
def tInit (c f : Str) (K : PySem.W.Frag) : Bool := decide (fAdF K (c, some f) = He.ma K (He.ga K c) f)
def strsB : List Value → List Str → Bool
  | [], [] => true
  | .str y _ :: vs, x :: xs => decide (y = x) && strsB vs xs
  | _, _ => false
def tTup (x : Str) (xs : List Str) (K : PySem.W.Frag) : Bool := match PySem.W.nsIn K mainGlobals x with
  | some (some (.ref a)) => (match K.lookup a with
    | some ⟨.type T, _, .seq its _, _⟩ => decide (T = "tuple") && (strsB its.toList xs && decide (xs.length ≤ 1000))
    | _ => false)
  | _ => false
def tSup (c D B f : Str) (K : PySem.W.Frag) : Bool := (match PySem.W.clsIn K (He.ga K c) with
  | some cd => decide (PySem.W.alongIn K f ((cd.mro.dropWhile (· != .ref (He.ga K D))).drop 1) = some (some (.ref (fAdF K (B, some f)))))
  | none => false) && ((match K.lookup (fAdF K (B, some f)) with
  | some ⟨.type T, _, _, _⟩ => decide (T = "function")
  | _ => false) && (PySem.W.fnIn K (fAdF K (B, some f)) && decide (PySem.W.mroIn K (He.ga K c) (.ref (He.ga K D)) = some true)))
def tIsa (c d : Str) (b : Bool) (K : PySem.W.Frag) : Bool := (He.Fa.cls c).ok K && (decide (PySem.W.findIn K (.ref (He.ga K c)) "__class__" = some (some (.builtin "object.__class__"))) && (decide (PySem.W.specialIn K (.builtin "object.__class__") "__get__" = some (some (.builtin "getset_descriptor.__get__"))) &&
  (decide (PySem.W.takesIn K (.builtin "object.__class__") = some true) && (decide (PySem.W.mroIn K (He.ga K c) (.type "object") = some true) && decide (PySem.W.kitOne K (.ref (He.ga K c)) (.ref (He.ga K d)) = some b)))))
def tIsb (T : String) (d : Str) (b : Bool) (K : PySem.W.Frag) : Bool := decide (PySem.W.kitOne K (.type T) (.ref (He.ga K d)) = some b)
abbrev pM (c m : String) : FnP := (Str.ofString c, some (Str.ofString m))
def ccAd (K : PySem.W.Frag) (p : FnP) : Addr := match K.lookup (fAdF K p) with
  | some ⟨_, _, .func fd, _⟩ => (match fd.closure with
    | [(_, c)] => c
    | _ => 0)
  | _ => 0
def tCell (c m file : Str) (K : PySem.W.Frag) : Bool := (match K.lookup (ccAd K (c, some m)) with
  | some ⟨_, _, .cell (some v), _⟩ => decide (v = .ref (He.ga K c))
  | _ => false) && ((match K.lookup (codeAd K (c, some m)) with
  | some ⟨_, _, .fields vs, _⟩ => (match (vs[2]? : Option Value) with
    | some (Value.str f _) => file == f
    | _ => false)
  | _ => false) && ((PySem.W.clsIn K (He.ga K c)).isSome && decide (PySem.W.nsIn K cStatics "thirdparty.any" = some none)))
def tFn (x : Str) (K : PySem.W.Frag) : Bool := (He.Fa.glo x).ok K && ((He.Fa.keep x).ok K && decide (fAdF K (x, none) = He.ga K x))
def tExc (c at_ : Str) (K : PySem.W.Frag) : Bool := (match K.lookup (He.ga K c) with
  | some ⟨.type T, _, .cls cd, sl⟩ => (match cd.mro, sl.toList with
    | .ref C' :: bm, [_, _, _, _, some (.builtin n), _] => decide (T = "type") && (C' == He.ga K c && (n == "ValueError.__new__" && (!cd.hasDel && (cd.hasDict && PySem.HandSPX.refsVE bm))))
    | _, _ => false)
  | _ => false) && (decide (PySem.W.findIn K (.ref (He.ga K c)) "__setattr__" = some (some (.builtin "object.__setattr__"))) && (decide (PySem.W.subIn K (.ref (He.ga K c)) (.type "BaseException") = some true) &&
  (decide (PySem.W.typeIn K (.ref (He.ga K c)) = some (.type "type")) && (PySem.W.keepIn K (.ref (He.ga K c)) && (decide (PySem.W.findIn K (.ref (He.ga K c)) "__init__" = some (some (.ref (fAdF K (c, some "__init__"))))) && (decide (PySem.W.typeIn K (.ref (fAdF K (c, some "__init__"))) = some (.type "function")) &&
  (decide (PySem.W.mroIn K (He.ga K c) (.ref (He.ga K c)) = some true) && (decide (PySem.W.ks_superIn K (He.ga K c) (He.ga K c) "__init__" = some (some (.builtin "ValueError.__init__"))) && (decide (PySem.W.subIn K (.ref (He.ga K c)) (.type "ValueError") = some true) &&
  decide (PySem.W.findIn K (.ref (He.ga K c)) at_ = some none))))))))))
abbrev AttTb : Type := List (String × String × Option String)
def attV : Option String → Att
  | none => .fld
  | some s => .con (.str (lit s))
def attT : AttTb → String → String → Att
  | [], _, _ => .no
  | (c', f', o) :: t, c, f => if c = c' ∧ f = f' then attV o else attT t c f
def tAtt1 (e : String × String × Option String) (K : PySem.W.Frag) : Bool := (He.Fa.glo (Str.ofString e.1)).ok K && match e.2.2 with
  | none => tFld (Str.ofString e.1) (Str.ofString e.2.1) K
  | some s => tCon (Str.ofString e.1) (Str.ofString e.2.1) (Str.ofString s) K
def tAtts (t : AttTb) (K : PySem.W.Frag) : Bool := t.all fun e => tAtt1 e K
abbrev PrpTb : Type := List (String × String × String)
def tPrp1 (e : String × String × String) (K : PySem.W.Frag) : Bool := (He.Fa.glo (Str.ofString e.1)).ok K && (tPrp (Str.ofString e.1) (Str.ofString e.2.1) K && decide (fAdF K (Str.ofString e.1, some (Str.ofString e.2.1)) = fAdF K (Str.ofString e.2.2, some (Str.ofString e.2.1))))
def tPrps (t : PrpTb) (K : PySem.W.Frag) : Bool := t.all fun e => tPrp1 e K
abbrev IsaTb : Type := List (String × String × Bool)
def tIsas (t : IsaTb) (K : PySem.W.Frag) : Bool := t.all fun e => (He.Fa.glo (Str.ofString e.1)).ok K && ((He.Fa.glo (Str.ofString e.2.1)).ok K && tIsa (Str.ofString e.1) (Str.ofString e.2.1) e.2.2 K)
def tIsbs (t : IsaTb) (K : PySem.W.Frag) : Bool := t.all fun e => (He.Fa.glo (Str.ofString e.2.1)).ok K && tIsb e.1 (Str.ofString e.2.1) e.2.2 K
def tSubs (ec : String) (t : List (String × Bool)) (K : PySem.W.Frag) : Bool := t.all fun e => (He.Fa.glo (Str.ofString e.1)).ok K && (He.Fa.exm (Str.ofString e.1) (Str.ofString ec) e.2).ok K
def tNf (cs ts : List String) (K : PySem.W.Frag) : Bool := cs.all fun c => (He.Fa.glo (Str.ofString c)).ok K && ((cs.all fun c' => PySem.W.notFirst K (He.ga K (Str.ofString c)) (.ref (He.ga K (Str.ofString c')))) && ts.all fun t => PySem.W.notFirst K (He.ga K (Str.ofString c)) (.type t))
def tInsK (c : Str) (K : PySem.W.Frag) : Bool := (He.Fa.cls c).ok K && (decide (PySem.W.findIn K (.ref (He.ga K c)) "__class__" = some (some (.builtin "object.__class__"))) && (decide (PySem.W.specialIn K (.builtin "object.__class__") "__get__" = some (some (.builtin "getset_descriptor.__get__"))) &&
  (decide (PySem.W.takesIn K (.builtin "object.__class__") = some true) && decide (PySem.W.mroIn K (He.ga K c) (.type "object") = some true))))
def tEqB (cs : List String) (b : Str) (K : PySem.W.Frag) : Bool := cs.all fun c => (He.Fa.glo (Str.ofString c)).ok K && (tInsK (Str.ofString c) K && (decide (PySem.W.findIn K (.ref (He.ga K (Str.ofString c))) "__eq__" = some (some (.ref (fAdF K (b, some "__eq__"))))) && (PySem.W.isFn K (.ref (fAdF K (b, some "__eq__"))) &&
  decide (PySem.W.findIn K (.ref (He.ga K (Str.ofString c))) "__ne__" = some (some (.builtin "object.__ne__"))))))
end FL
namespace FL
open PySem L2
def tMths (cs : List String) (b f : Str) (K : PySem.W.Frag) : Bool := PySem.W.isFn K (.ref (fAdF K (b, some f))) && (PySem.W.keepIn K (.ref (fAdF K (b, some f))) && cs.all fun c => (He.Fa.glo (Str.ofString c)).ok K && ((He.Fa.cls (Str.ofString c)).ok K &&
  decide (PySem.W.findIn K (.ref (He.ga K (Str.ofString c))) f = some (some (.ref (fAdF K (b, some f)))))))
end FL
namespace L09
open PySem PySem.Spec PyProof.Rows L2 FL LamX
abbrev tp (i : Nat) : Stmt := PySem.Challenge.pw_findlang_k09_terms_prefixes_and_ranges.main.body.getD i (.Pass ⟨0, 0, 0, 0⟩)
def subl__law_refused : List (String × Bool) := [("BadQuery", true)]
def attl : AttTb := [("Prefix", "KIND", some "prefix"), ("Prefix", "field", none), ("Prefix", "own_fields", none), ("Prefix", "own_key", none), ("Prefix", "own_levels", none), ("Prefix", "own_parts", none), ("Prefix", "own_size", none), ("Prefix", "own_text", none), ("Prefix", "start", none), ("Term", "KIND", some "term"), ("Term", "field", none), ("Term", "own_fields", none), ("Term", "own_key", none), ("Term", "own_levels", none), ("Term", "own_parts", none), ("Term", "own_size", none), ("Term", "own_text", none), ("Term", "word", none), ("Range", "KIND", some "range"), ("Range", "field", none), ("Range", "high", none), ("Range", "low", none), ("Range", "own_fields", none), ("Range", "own_key", none), ("Range", "own_levels", none), ("Range", "own_parts", none), ("Range", "own_size", none), ("Range", "own_text", none), ("Everything", "KIND", some "everything"), ("Everything", "own_fields", none), ("Everything", "own_key", none), ("Everything", "own_levels", none), ("Everything", "own_parts", none), ("Everything", "own_size", none), ("Everything", "own_text", none)]
def at_ : String → String → Att := attT attl
def prps : PrpTb := [("Prefix", "parts", "Query"), ("Prefix", "size", "Query"), ("Prefix", "levels", "Query"), ("Term", "parts", "Query"), ("Term", "size", "Query"), ("Term", "levels", "Query"), ("Range", "parts", "Query"), ("Range", "size", "Query"), ("Range", "levels", "Query"), ("Everything", "parts", "Query"), ("Everything", "size", "Query"), ("Everything", "levels", "Query")]
def eqcs : List String := ["Prefix", "Term", "Range", "Everything"]
def eqts : List String := ["int", "bool", "str", "NoneType", "list", "tuple", "dict"]
def gncs : List String := ["Prefix", "Term", "Range", "Everything"]
def isal : IsaTb := [("Prefix", "Query", true), ("Term", "Query", true), ("Range", "Query", true), ("Everything", "Query", true)]
def isbl : IsaTb := [("int", "Query", false), ("bool", "Query", false), ("str", "Query", false), ("NoneType", "Query", false), ("list", "Query", false), ("tuple", "Query", false), ("dict", "Query", false)]
end L09
namespace FL
open PySem PySem.Spec PyProof.Rows L2
def tNb (ts : Mks) (x : Str) (K : PySem.W.Frag) : Bool := (K.lookup (fAdF K (x, none))).isSome && ts.all fun t => decide (tabAd K t.1 < fAdF K (x, none))
end FL
namespace L09
open PySem PySem.Spec PySem.W PySem.Calls PyProof.Rows FL
abbrev Rw : OpenRow := OpenLaw.row PySem.Challenge.rw_findlang_k09_terms_prefixes_and_ranges
abbrev qv : Program := view Rw.prog [74]
def names : List PySem.Str := ((["_wall", "__name__", "Invalid", "BadQuery", "BadSource", "MAX_WORD", "MAX_PARTS", "MAX_SIZE", "MAX_LEVELS", "MAX_DISTANCE", "MAX_NAME", "LETTERS", "WORD_SIGNS", "is_integer", "is_made_of", "is_field_name", "is_word", "common_divisor", "is_fraction", "DIGITS", "RUNS", "SIGNS", "MAX_RUN", "MAX_OPEN", "MAX_SOURCE", "run_end", "symbol_at", "SourceReader", "whole", "read_form", "bound_text", "phrase_text", "some_text", "factor_text", "LEAST_WORDS", "MOST_WORDS", "MAX_BOUND", "MAX_FACTOR", "need_query", "need_parts"] : List String) ++ (["need_field", "need_word", "Query", "FIELD_KINDS", "GROUPED", "fields_of", "parts_for", "is_closed", "grouped", "Term", "Phrase", "Prefix", "Range", "Everything", "All", "Some", "Without", "Weighted", "built_chain", "built", "_law_source", "_law_next", "_law_pick", "_law_refused", "_law_is_run", "_law_is_bound", "_law_is_bare", "_law_words_right", "_law_ranges_right"] : List String)).map PySem.Str.ofString
def ds : List Dsc := [⟨pM "BadQuery" "__init__", "__init__", "BadQuery.__init__", clsDef 0 (tp 3), ["__class__"], true⟩,
  ⟨pM "Query" "__init__", "__init__", "Query.__init__", clsDef 1 (tp 46), [], true⟩,
  ⟨pM "Prefix" "__init__", "__init__", "Prefix.__init__", clsDef 1 (tp 55), ["__class__"], true⟩,
  ⟨pM "Term" "__init__", "__init__", "Term.__init__", clsDef 1 (tp 53), ["__class__"], true⟩,
  ⟨pM "Query" "parts", "parts", "Query.parts", clsDef 2 (tp 46), [], true⟩,
  ⟨pM "Query" "size", "size", "Query.size", clsDef 3 (tp 46), [], true⟩,
  ⟨pM "Query" "levels", "levels", "Query.levels", clsDef 4 (tp 46), [], true⟩,
  ⟨pM "Query" "walk", "walk", "Query.walk", clsDef 7 (tp 46), [], true⟩,
  ⟨pM "Query" "__eq__", "__eq__", "Query.__eq__", clsDef 8 (tp 46), [], true⟩,
  ⟨pM "Range" "__init__", "__init__", "Range.__init__", clsDef 1 (tp 56), ["__class__"], true⟩,
  ⟨pM "Everything" "__init__", "__init__", "Everything.__init__", clsDef 1 (tp 57), ["__class__"], true⟩,
  ⟨("_law_source", none), "_law_source", "_law_source", tp 65, [], true⟩,
  ⟨("_law_next", none), "_law_next", "_law_next", tp 66, [], true⟩,
  ⟨("_law_pick", none), "_law_pick", "_law_pick", tp 67, [], true⟩,
  ⟨("_law_is_run", none), "_law_is_run", "_law_is_run", tp 69, [], true⟩,
  ⟨("_law_refused", none), "_law_refused", "_law_refused", tp 68, [], true⟩,
  ⟨("is_made_of", none), "is_made_of", "is_made_of", tp 15, [], true⟩,
  ⟨("is_field_name", none), "is_field_name", "is_field_name", tp 16, [], true⟩,
  ⟨("need_field", none), "need_field", "need_field", tp 44, [], true⟩,
  ⟨("is_word", none), "is_word", "is_word", tp 17, [], true⟩,
  ⟨("need_word", none), "need_word", "need_word", tp 45, [], true⟩,
  ⟨("fields_of", none), "fields_of", "fields_of", tp 49, [], true⟩,
  ⟨("_law_is_bare", none), "_law_is_bare", "_law_is_bare", tp 71, [], true⟩,
  ⟨("_law_words_right", none), "_law_words_right", "_law_words_right", tp 72, [], true⟩,
  ⟨("_law_is_bound", none), "_law_is_bound", "_law_is_bound", tp 70, [], true⟩,
  ⟨("is_integer", none), "is_integer", "is_integer", tp 14, [], true⟩,
  ⟨("bound_text", none), "bound_text", "bound_text", tp 33, [], true⟩,
  ⟨("_law_ranges_right", none), "_law_ranges_right", "_law_ranges_right", tp 73, [], true⟩,
  ⟨("law", none), "law", "law", tp 74, [], true⟩]
def fs : List (PySem.W.Frag → Bool) := [fun K => (He.Fa.free "all").ok K,
  fun K => (He.Fa.free "bool").ok K,
  fun K => (He.Fa.free "int").ok K,
  fun K => (He.Fa.free "isinstance").ok K,
  fun K => (He.Fa.free "len").ok K,
  fun K => (He.Fa.free "list").ok K,
  fun K => (He.Fa.free "max").ok K,
  fun K => (He.Fa.free "min").ok K,
  fun K => (He.Fa.free "range").ok K,
  fun K => (He.Fa.free "repr").ok K,
  fun K => (He.Fa.free "set").ok K,
  fun K => (He.Fa.free "sorted").ok K,
  fun K => (He.Fa.free "str").ok K,
  fun K => (He.Fa.free "sum").ok K,
  fun K => (He.Fa.free "super").ok K,
  fun K => (He.Fa.free "tuple").ok K,
  fun K => (He.Fa.str "LETTERS" "abcdefghijklmnopqrstuvwxyz").ok K,
  fun K => (He.Fa.int "MAX_BOUND" 1000000000).ok K,
  fun K => (He.Fa.int "MAX_LEVELS" 8).ok K,
  fun K => (He.Fa.int "MAX_NAME" 12).ok K,
  fun K => (He.Fa.int "MAX_SIZE" 60).ok K,
  fun K => (He.Fa.int "MAX_WORD" 20).ok K,
  fun K => (He.Fa.str "WORD_SIGNS" "abcdefghijklmnopqrstuvwxyz0123456789").ok K,
  tTup "FIELD_KINDS" ([lit "term", lit "phrase", lit "prefix", lit "range"].map toS),
  fun K => (He.Fa.glo "BadQuery").ok K,
  tExc "BadQuery" "reason",
  tCell "BadQuery" "__init__" PySem.Challenge.pw_findlang_k09_terms_prefixes_and_ranges.main.file,
  tSubs "BadQuery" subl__law_refused,
  fun K => (He.Fa.glo "Everything").ok K,
  fun K => (He.Fa.glo "Prefix").ok K,
  fun K => (He.Fa.glo "Query").ok K,
  fun K => (He.Fa.glo "Range").ok K,
  fun K => (He.Fa.glo "Term").ok K,
  tAtts attl,
  tPrps prps,
  tIsas isal,
  tIsbs isbl,
  tEqB eqcs "Query",
  tNf eqcs eqts,
  tMths gncs (Str.ofString "Query") (Str.ofString "walk"),
  tInit "Prefix" "__init__",
  fun K => (He.Fa.mkr "Prefix").ok K,
  tInit "Term" "__init__",
  fun K => (He.Fa.mkr "Term").ok K,
  tInit "Range" "__init__",
  fun K => (He.Fa.mkr "Range").ok K,
  tInit "Everything" "__init__",
  fun K => (He.Fa.mkr "Everything").ok K,
  tCell "Prefix" "__init__" PySem.Challenge.pw_findlang_k09_terms_prefixes_and_ranges.main.file,
  tCell "Term" "__init__" PySem.Challenge.pw_findlang_k09_terms_prefixes_and_ranges.main.file,
  tCell "Range" "__init__" PySem.Challenge.pw_findlang_k09_terms_prefixes_and_ranges.main.file,
  tCell "Everything" "__init__" PySem.Challenge.pw_findlang_k09_terms_prefixes_and_ranges.main.file,
  tSup "Prefix" "Prefix" "Query" "__init__",
  tSup "Term" "Term" "Query" "__init__",
  tSup "Range" "Range" "Query" "__init__",
  tSup "Everything" "Everything" "Query" "__init__",
  tFn "_law_source",
  tFn "_law_next",
  tFn "_law_pick",
  tFn "_law_is_run",
  tFn "_law_refused",
  tFn "is_made_of",
  tFn "is_field_name",
  tFn "need_field",
  tFn "is_word",
  tFn "need_word",
  tFn "fields_of",
  tFn "_law_is_bare",
  tFn "_law_words_right",
  tFn "_law_is_bound",
  tFn "is_integer",
  tFn "bound_text",
  tFn "_law_ranges_right",
  tNb [(("_law_words_right", none), "_law_words_right.<locals>.<lambda>"), (("_law_ranges_right", none), "_law_ranges_right.<locals>.<lambda>")] "law",
  tFn "law"]
def ts : Mks := [(("_law_words_right", none), "_law_words_right.<locals>.<lambda>"), (("_law_ranges_right", none), "_law_ranges_right.<locals>.<lambda>")]
abbrev hk : PySem.W.Hook := hookF 5 fs ds ts
def ob (s : PySem.W.SharedT) : HkA := hkG 5 fs ds ts (HandSHeadRun.getT s)
set_option maxHeartbeats 0 in
theorem run (w : World) : HandSHeadRun.RunEq Rw qv hk ob 30000 names w := by
  intro os
  kernel_rfl
end L09
namespace FL
open PySem PySem.Spec PyProof.Rows L2
def PropR (P : Program) (w : World) (K : PySem.W.Frag) (mg : Str → Option Value) (base : Heap) (j : Nat) (pt : String → String → Option MF) : Prop :=
  ∀ c f m, pt c f = some m → ∀ C, mg (Str.ofString c) = some (.ref C) → Cls K C ∧ ∃ (p g : Addr) (fd : FuncData) (nm : Str), PropOf K C (Str.ofString f) p g ∧ FnG P w K mg base (L2.CX P w) j g fd [nm] (spM K mg m 1) ∧ Binds K fd [nm] []
theorem PropR.ok {X : Cx} {j : Nat} {pt : String → String → Option MF} (h : PropR X.prog X.w X.K X.mg X.base j pt) : PropsOk X j pt := h
def MethR (P : Program) (w : World) (K : PySem.W.Frag) (mg : Str → Option Value) (base : Heap) (j : Nat) (mt : String → String → Nat → Option MF) : Prop :=
  ∀ c f n m, mt c f n = some m → ∀ C, mg (Str.ofString c) = some (.ref C) → Cls K C ∧ ∃ (g : Addr) (fd : FuncData) (ps : List Str) (ds : List Value) (dvs : List V) (dds : List D) (m' : MF) (N : Nat), Meth K C (Str.ofString f) g ∧ FnG P w K mg base (L2.CX P w) j g fd ps (spM K mg m' N) ∧ Binds K fd ps ds ∧ Vals dvs ds ∧
    (∀ F ρ, RepL K mg F ρ dvs dds) ∧ n + 1 + dds.length = N ∧ ∀ ds' μ, m ds' μ = m' (ds' ++ dds) μ
theorem MethR.ok {X : Cx} {j : Nat} {mt : String → String → Nat → Option MF} (h : MethR X.prog X.w X.K X.mg X.base j mt) : MethsOk X j mt := h
def SupR (P : Program) (w : World) (K : PySem.W.Frag) (mg : Str → Option Value) (base : Heap) (j : Nat) (c f : String) (D : Addr) (mi : MF) (N : Nat) : Prop :=
  ∀ C, mg (Str.ofString c) = some (.ref C) → ∃ (g : Addr) (og : Obj) (fd : FuncData) (ps : List Str) (ds : List Value) (dvs : List V) (cdC : ClassData), PySem.W.clsIn K C = some cdC ∧ PySem.W.alongIn K (Str.ofString f) ((cdC.mro.dropWhile (· != .ref D)).drop 1) = some (some (.ref g)) ∧
    K.lookup g = some og ∧ og.cls = .type "function" ∧ PySem.W.fnIn K g = true ∧ PySem.W.mroIn K C (.ref D) = some true ∧ FnG P w K mg base (L2.CX P w) j g fd ps (spM K mg mi N) ∧ Binds K fd ps []
theorem SupR.ok {X : Cx} {j : Nat} {c f : String} {D : Addr} {mi : MF} {N : Nat} (h : SupR X.prog X.w X.K X.mg X.base j c f D mi N) : SupG X j c f D mi N := h
structure SupP (P : Program) (K : PySem.W.Frag) (mg : Str → Option Value) (f cda cc D : Addr) (p0 : Str) (sc : Scope) (N : List Str) : Prop where
  lk : ∃ o fd ar, K.lookup f = some o ∧ o.data = .func fd ∧ (fd.params.posonlyargs ++ fd.params.args).head? = some ar ∧ ar.arg = p0
  code : ∃ ccl cdd vs ccs file tf, K.lookup cda = some { cls := ccl, dict := cdd, data := .fields vs, slots := ccs } ∧ vs[2]? = some (.str file tf) ∧ ((P.main.file : Str) == file) = true
  cell : ∃ cl cld csl, K.lookup cc = some { cls := cl, dict := cld, data := .cell (some (.ref D)), slots := csl }
  clsD : ∃ cdD, PySem.W.clsIn K D = some cdD
  any : PySem.W.nsIn K cStatics "thirdparty.any" = some none
  top : (P.main.scope.names.lookup ("super" : Str)).isSome = false
  sup : mg "super" = none
  ls : sc.names.lookup ("super" : Str) = some .globalImplicit
  lc : sc.names.lookup ("__class__" : Str) = some .free
  l0 : sc.names.lookup p0 = some .local
  n0 : N[0]? = some p0
theorem SupP.t {X : Cx} {W : WX} {k : Nat} {f cda cc D : Addr} {p0 : Str} {st : Stmt} {N : List Str} (h : SupP X.prog X.K X.mg f cda cc D p0 (defScope st) N) (C : Cd X W k N (defScope st)) (S : CsK X f cda cc D st) : SupT X f cda cc D p0 := by
  obtain ⟨fd, x, qual, dV, F, e⟩ := S.fd
  refine ⟨h.lk, h.code, h.cell, h.clsD, h.any, h.top, h.sup, by rw [C.hsc]; exact h.ls, by rw [C.hsc]; exact h.lc, by rw [C.hsc]; exact h.l0, by rw [C.hN]; exact h.n0, by rw [e], by rw [e], ?_⟩
  rw [e]
  show ([(("__class__" : Str), cc)] : List (Str × Addr)).lookup ("__class__" : Str) = some cc
  simp
end FL
namespace FL
open PySem PySem.Spec PyProof.Rows L2
def DK.d : DK → D
  | .i n => .int n
  | .s x => .str x
def getA (kds : List (DK × D)) (k : DK) : Option D := (kds.find? fun p => decide (p.1 = k)).map (·.2)
theorem DK.key_inj {k j : DK} (h : k.key = j.key) : k = j := by
  cases k <;> cases j <;> first | (cases h; done) | skip
  · have h' : (Sum.inl _ : Key) = Sum.inl _ := h
    cases h'
    rfl
  · have h' : (Sum.inr _ : Key) = Sum.inr _ := h
    rw [toS_inj (Sum.inr.inj h')]
section
variable (K : PySem.W.Frag) (mg : Str → Option Value) (F : Hp) (ρ : List Addr)
inductive KV : List (Key × V) → List (DK × D) → Prop where
  | nil : KV [] []
  | cons {k v d kvs kds} (h : Rep K mg F ρ v d) (t : KV kvs kds) : KV ((DK.key k, v) :: kvs) ((k, d) :: kds)
end
section
variable {K : PySem.W.Frag} {mg : Str → Option Value} {F F' : Hp} {ρ ρ' : List Addr} {H : Hp} {p : Addr}
theorem key_dec (k j : DK) : decide (DK.key k = DK.key j) = decide (k = j) := by
  by_cases h : k = j
  · rw [h, decide_eq_true rfl, decide_eq_true rfl]
  · rw [decide_eq_false h, decide_eq_false fun z => h (DK.key_inj z)]
theorem KV.get {k : DK} {d : D} : ∀ {kvs : List (Key × V)} {kds : List (DK × D)}, KV K mg F ρ kvs kds → getA kds k = some d → ∃ v, valV kvs k.key = some v ∧ Rep K mg F ρ v d
  | _, _, .nil, e => by cases e
  | _, _, @KV.cons _ _ _ _ k1 v1 d1 kvs kds h t, e => by
    unfold getA at e
    rw [List.find?_cons] at e
    unfold valV
    rw [List.find?_cons]
    simp only [key_dec]
    by_cases z : k1 = k
    · rw [decide_eq_true z] at e ⊢
      cases e
      exact ⟨v1, rfl, h⟩
    · rw [decide_eq_false z] at e ⊢
      exact KV.get t e
end
end FL
namespace FL
open PySem PySem.Spec PyProof.Rows L2
section
variable {X : Cx} {W : WX} {e : Expr} {pos : Pos}
theorem KV.at {K : PySem.W.Frag} {mg : Str → Option Value} {F : Hp} {ρ : List Addr} : ∀ {kvs : List (Key × V)} {kds : List (DK × D)} {i : Nat} {p : DK × D}, KV K mg F ρ kvs kds → kds[i]? = some p → ∃ v, kvs[i]? = some (p.1.key, v) ∧ Rep K mg F ρ v p.2
  | _, _, _, _, .nil, e => by simp at e
  | _, _, 0, _, .cons h t, e => by simp at e; subst e; exact ⟨_, rfl, h⟩
  | _, _, i + 1, _, .cons h t, e => by
    obtain ⟨v, h1, h2⟩ := KV.at (i := i) t (by simpa using e)
    exact ⟨v, by simpa using h1, h2⟩
end
end FL
namespace FL
open PySem L2
def Fr (j : Nat) (μ μ' : Mem) : Prop := μ'.length = μ.length ∧ ∀ k : Nat, k ≠ j → μ'[k]? = μ[k]?
theorem Fr.trans {j : Nat} {μ μ1 μ2 : Mem} (a : Fr j μ μ1) (b : Fr j μ1 μ2) : Fr j μ μ2 := ⟨b.1.trans a.1, fun k h => (b.2 k h).trans (a.2 k h)⟩
theorem Fr.set {j : Nat} {μ : Mem} {c : Own} : Fr j μ (μ.set j c) := ⟨by simp, fun k h => List.getElem?_set_ne (Ne.symm h)⟩
end FL
namespace FL
open PySem L2
abbrev piles (ts : List Str) : Nat := (ts.map fun t => t.length + 2).sum
theorem join_len : ∀ ts : List Str, (Str.join ", " ts).length ≤ piles ts
  | [] => by decide
  | [x] => by simp [Str.join, piles]
  | x :: y :: r => by
    have ih := join_len (y :: r)
    show (x ++ (", " : Str) ++ Str.join ", " (y :: r)).length ≤ _
    rw [strLen_append, strLen_append]
    have e : ((", " : Str)).length = 2 := by decide
    simp only [piles, List.map_cons, List.sum_cons] at ih ⊢
    omega
theorem tup_len (ts : List Str) : (tupleText ts).length ≤ 3 + piles ts := by
  unfold tupleText
  rw [strLen_append, strLen_append]
  have h1 := join_len ts
  have h2 : (("(" : Str)).length = 1 := by decide
  have h3 : (Str.ofString (if ts.length == 1 then ",)" else ")" : String)).length ≤ 2 := by split <;> decide
  have h3' : ((if ts.length == 1 then ",)" else ")" : String) : Str).length ≤ 2 := h3
  omega
theorem from_len : ∀ (ts : List Str) (k : Nat) (acc : Str), (textFrom k acc ts).length ≤ acc.length + piles ts
  | [], _, acc => by simp [textFrom, piles]
  | t :: ts, k, acc => by
    have ih := from_len ts (k + 1) (acc ++ (if k > 0 then ", " else "" : String) ++ t)
    rw [strLen_append, strLen_append] at ih
    have h : ((if k > 0 then ", " else "" : String) : Str).length ≤ 2 := by split <;> decide
    show (textFrom (k + 1) _ ts).length ≤ _
    simp only [piles, List.map_cons, List.sum_cons] at ih ⊢
    omega
theorem lst_len (ts : List Str) : (listText ts).length ≤ 2 + piles ts := by
  unfold listText
  rw [strLen_append]
  have h1 := from_len ts 0 "["
  have h2 : (("[" : Str)).length = 1 := by decide
  have h3 : (("]" : Str)).length = 1 := by decide
  omega
def Sh (d n : Nat) (x : D) : Prop := ∃ q, D.py x = some q ∧ PyData.showable q = true ∧ PyData.hasDict q = false ∧ PyData.canLay0 q = true ∧ q.depth ≤ d ∧ (PyData.shown q).length ≤ n
theorem Sh.all {d n : Nat} : ∀ {xs : List D}, (∀ x ∈ xs, Sh d n x) → ∃ qs, D.pys xs = some qs ∧ PyData.showableAll qs = true ∧ PyData.hasDictAll qs = false ∧ PyData.canLayAll0 qs = true ∧ PyData.depthAll qs ≤ d ∧ piles (PyData.shownAll qs) ≤ xs.length * (n + 2)
  | [], _ => ⟨[], by simp [D.pys, PyData.showableAll, PyData.hasDictAll, PyData.canLayAll0, PyData.depthAll, PyData.shownAll, piles]⟩
  | x :: xs, h => by
    obtain ⟨q, a1, b1, c1, l1, g1, k1⟩ := h x (List.mem_cons_self ..)
    obtain ⟨qs, a2, b2, c2, l2, g2, k2⟩ := Sh.all (xs := xs) fun y hy => h y (List.mem_cons_of_mem _ hy)
    refine ⟨q :: qs, by simp [D.pys, a1, a2], by simp [PyData.showableAll, b1, b2], by simp [PyData.hasDictAll, c1, c2], by simp [PyData.canLayAll0, l1, l2], by simp only [PyData.depthAll]; omega, ?_⟩
    simp only [PyData.shownAll, piles, List.map_cons, List.sum_cons, List.length_cons, Nat.add_mul] at k2 ⊢
    omega
theorem Sh.tup {d n : Nat} {xs : List D} (h : ∀ x ∈ xs, Sh d n x) : Sh (d + 1) (3 + xs.length * (n + 2)) (.tup xs) := by
  obtain ⟨qs, a, b, c, l, g, k⟩ := Sh.all h
  refine ⟨.tuple qs, by simp [D.py, a], by simpa [PyData.showable] using b, by simpa [PyData.hasDict] using c, by simpa [PyData.canLay0] using l, by simp only [PyData.depth]; omega, ?_⟩
  have := tup_len (PyData.shownAll qs)
  simp only [PyData.shown]
  omega
theorem Sh.lst {d n : Nat} {xs : List D} (h : ∀ x ∈ xs, Sh d n x) : Sh (d + 1) (2 + xs.length * (n + 2)) (.lst xs) := by
  obtain ⟨qs, a, b, c, l, g, k⟩ := Sh.all h
  refine ⟨.list qs, by simp [D.py, a], by simpa [PyData.showable] using b, by simpa [PyData.hasDict] using c, by simpa [PyData.canLay0] using l, by simp only [PyData.depth]; omega, ?_⟩
  have := lst_len (PyData.shownAll qs)
  simp only [PyData.shown]
  omega
theorem small_int : ∀ k : Fin 100, PyData.showable (.int (k.val : Nat)) = true ∧ (PyData.shown (.int (k.val : Nat))).length ≤ 2 := by decide +kernel
theorem Sh.int {i : Int} (h0 : 0 ≤ i) (h1 : i < 100) : Sh 0 2 (.int i) := by
  have := small_int ⟨i.toNat, by omega⟩
  have e : ((i.toNat : Nat) : Int) = i := by omega
  simp only [e] at this
  exact ⟨.int i, rfl, this.1, by simp [PyData.hasDict], by simp [PyData.canLay0], by simp [PyData.depth], this.2⟩
end FL
namespace FL
open PySem L2
section
variable {α β : Type} {a : α} {δ : FL.Loc} {μ : Mem} {x : Exc} {s : FL.Slot}
@[simp] theorem ev_b1 {f : α → FL.Loc → Mem → Out β} : (Out.ok a δ μ).bind f = f a δ μ := rfl
@[simp] theorem ev_b2 {f : α → FL.Loc → Mem → Out β} : (Out.exc x δ μ : Out α).bind f = .exc x δ μ := rfl
@[simp] theorem ev_t1 {f : α → FL.Loc → Mem → OutS} : (Out.ok a δ μ).thn f = f a δ μ := rfl
@[simp] theorem ev_t2 {f : α → FL.Loc → Mem → OutS} : (Out.exc x δ μ : Out α).thn f = .exc x δ μ := rfl
@[simp] theorem ev_s1 {k : MS} : (OutS.nx δ μ).seq k = k δ μ := rfl
@[simp] theorem ev_s2 {k : MS} : (OutS.rt s μ).seq k = .rt s μ := rfl
@[simp] theorem ev_s3 {k : MS} : (OutS.bk δ μ).seq k = .bk δ μ := rfl
@[simp] theorem ev_s4 {k : MS} : (OutS.ct δ μ).seq k = .ct δ μ := rfl
@[simp] theorem ev_s5 {k : MS} : (OutS.exc x δ μ).seq k = .exc x δ μ := rfl
@[simp] theorem ev_c1 : (Out.ok a δ μ).cut = .ok a δ μ := rfl
end
section
variable {δ : FL.Loc} {μ : Mem} {m n : ME} {t u : MT} {p q : MS} {o oa ob oc : Opn} {os : List Opn} {ms : List ME} {d : D} {ds dds : List D} {i j k : Nat} {f : TgF} {g : D → D → Option FL.Slot}
@[simp] theorem ev_e : (Opn.e m).ev δ μ = (m δ μ).bind fun s δ1 μ1 => .ok (.d s.d) δ1 μ1 := rfl
@[simp] theorem ev_v : (Opn.v i).ev δ μ = (match δ[i]? with | some (some _) => .ok (.i i) δ μ | _ => .bad) := rfl
@[simp] theorem ev_at1 {d : D} : (OR.d d).at δ μ = look μ d := rfl
@[simp] theorem ev_at2 : (OR.i i).at δ μ = (match δ[i]? with | some (some s) => look μ s.d | _ => none) := rfl
@[simp] theorem ev_lk1 : look μ (.obj k) = (μ[k]?).map Own.d := rfl
@[simp] theorem ev_lk2 {i : Int} : look μ (.int i) = some (.int i) := rfl
@[simp] theorem ev_lk3 {x : Tx} : look μ (.str x) = some (.str x) := rfl
@[simp] theorem ev_lk4 {b : Bool} : look μ (.bl b) = some (.bl b) := rfl
@[simp] theorem ev_lk5 : look μ .non = some .non := rfl
@[simp] theorem ev_lk6 {xs : List D} : look μ (.lst xs) = some (.lst xs) := rfl
@[simp] theorem ev_lk7 {xs : List D} : look μ (.tup xs) = some (.tup xs) := rfl
@[simp] theorem ev_lk8 {xs : List D} : look μ (.ro xs) = some (.ro xs) := rfl
@[simp] theorem ev_lk9 {ks : List DK} {xs : List D} : look μ (.dct ks xs) = some (.dct ks xs) := rfl
@[simp] theorem ev_lk10 {x : String} : look μ (.glo x) = some (.glo x) := rfl
@[simp] theorem ev_lk11 {x : String} : look μ (.ty x) = some (.ty x) := rfl
@[simp] theorem ev_lk12 {c a : String} {d : D} : look μ (.exn c a d) = some (.exn c a d) := rfl
@[simp] theorem ev_dfr : (FL.Slot.fr d).d = d := rfl
@[simp] theorem ev_down {o : Own} : (FL.Slot.own o).d = o.d := rfl
@[simp] theorem ev_owd {xs : List D} : (Own.lst xs).d = .lst xs := rfl
@[simp] theorem ev_owdd {ks : List DK} {xs : List D} : (Own.dct ks xs).d = .dct ks xs := rfl
@[simp] theorem ev_D : mD d δ μ = .ok (.fr d) δ μ := rfl
@[simp] theorem ev_V : mV i δ μ = (match δ[i]? with | some (some s) => .ok (.fr s.d) (δ.set i (some (.fr s.d))) μ | _ => .bad) := rfl
@[simp] theorem ev_Set : mSet i m δ μ = (m δ μ).thn fun s δ1 μ1 => .nx (δ1.set i (some s)) μ1 := rfl
@[simp] theorem ev_tgV : tgV i d δ = some (δ.set i (some (.fr d))) := rfl
@[simp] theorem ev_Lc {mi : MM (List D)} {vs : List Nat} : mLc mi f t m vs δ μ = (mi δ μ).bind fun ds δ1 μ1 => lcD f t m vs ds [] (wipeD δ1 vs) μ1 := rfl
@[simp] theorem ev_wp0 : wipeD δ [] = δ := rfl
@[simp] theorem ev_wp1 {vs : List Nat} : wipeD δ (i :: vs) = (wipeD δ vs).set i none := rfl
@[simp] theorem ev_lc0 {vs : List Nat} {acc : List D} : lcD f t m vs [] acc δ μ = .ok (.own (.lst acc)) δ μ := rfl
end
end FL
namespace FL
open PySem PySem.Spec PyProof.Rows L2
open PySem.Froz (SD sObj TxOk addTx tailTx is_str add_ok add_x)
def inD (D : SD) : List Str := D.1.toList.map fun e => strOf e.2
structure TxSet (P : Program) (w : World) (h : Heap) (a : Addr) (l : List Str) : Prop where
  ob : ∃ D : SD, h.get? a = some (sObj "set" D) ∧ TxOk P w D l ∧ (inD D).Perm l ∧ Ris D.2.2.place.toList ∧ (w.params.followText "set-order" = true ∨ D.2.2.led = true)
  nd : l.Nodup
  few : l.length < scanBound
theorem TxSet.at {P : Program} {w : World} {h h' : Heap} {a : Addr} {l : List Str} (R : TxSet P w h a l) (k : ∀ o, h.get? a = some o → h'.get? a = some o) : TxSet P w h' a l :=
  let ⟨⟨D, g, r⟩, nd, few⟩ := R
  ⟨⟨D, k _ g, r⟩, nd, few⟩
end FL
namespace FL
open PySem PySem.Spec PyProof.Rows L2
structure Cg (X : Cx) (W : WX) (k : Nat) (N : List Str) (sc : Scope) : Prop where
  rm : Room k X.A
  tk : Takes X W
  hN : X.N = N
  hsc : X.env.scope = sc
  nd : N.Nodup
  hp : PassesOwn (model X.prog X.w) X.A X.env X.xe
  fn : ∀ x, L2.Loc X.env.scope x → X.fn x = true
  hi : interactive X.env = false
end FL
namespace FL
open PySem PySem.Spec PyProof.Rows L2
section
variable {X : Cx} {W : WX} {k j : Nat} {N : List Str} {sc : Scope} {e o a b : Expr} {es : List Expr} {pos p apos pos' : Pos} {x : Str} {i : Nat}
theorem Cg.var (C : Cg X W k N sc) (h : varC N sc i x = true) : PE X (.Name x p) (tVar i) := by
  simp only [varC, Bool.and_eq_true, Bool.not_eq_true', decide_eq_true_eq, Bool.or_eq_true] at h
  obtain ⟨⟨⟨h1, h2⟩, h3⟩, h4⟩ := h
  have hv : Vis X.env.scope x := by
    rw [C.hsc]
    exact h2
  exact pe_var (C.hN.symm ▸ h1) hv h3 h4
theorem Cg.v (C : Cg X W k N sc) (h : varC N sc i x = true) : JE X W (.Name x p) (mV i) := je_v (C.var h)
theorem Cg.set {m : ME} (C : Cg X W k N sc) (h : locC N sc i x = true) (he : JE X W e m) (hs : swapsWith e (some (.Name x pos')) pos.line X.env = pure false := by rfl) : JS X W (.Assign [.Name x pos'] e pos) (mSet i m) := by
  simp only [locC, Bool.and_eq_true, decide_eq_true_eq, Bool.or_eq_true] at h
  have hl : L2.Loc X.env.scope x := by
    rw [C.hsc]
    exact h.2
  exact js_set (C.hN.symm ▸ C.nd) (C.hN.symm ▸ h.1) hl he hs (.inl (C.fn x hl))
end
end FL
namespace FL
open PySem
abbrev NF (fs : List Frame) : Prop := splitAtGen fs = none
def NG : GenState → Prop
  | .suspended _ _ _ _ fs _ => NF fs
  | _ => True
def stuck : Resume → Sem PySem.Fin := fun _ => .unsupported ""
def Poi (x y : GenState) : Prop := ∃ k l c p fs cl, x = .suspended stuck l c p fs cl ∧ y = .suspended k l c p fs cl
def Rel (a b : Array GenState) : Prop := a.size = b.size ∧ ∀ (i : Nat) x y, a[i]? = some x → b[i]? = some y → (x = y ∧ NG x) ∨ Poi x y
def Keep (a a' b b' : Array GenState) : Prop := ∀ (i : Nat) x y, a[i]? = some x → b[i]? = some y → Poi x y → a'[i]? = some x ∧ b'[i]? = some y
theorem Keep.trans {a a' a'' b b' b'' : Array GenState} (h : Keep a a' b b') (k : Keep a' a'' b' b'') : Keep a a'' b b'' := fun i x y h1 h2 p => by
  obtain ⟨k1, k2⟩ := h i x y h1 h2 p
  exact k i x y k1 k2 p
theorem Rel.set {a b : Array GenState} {g : Nat} {x : GenState} (h : Rel a b) (hx : NG x) : Rel (a.setIfInBounds g x) (b.setIfInBounds g x) := by
  refine ⟨by simp [h.1], fun i u v h1 h2 => ?_⟩
  rw [Array.getElem?_setIfInBounds] at h1 h2
  by_cases e : g = i
  · rw [if_pos e] at h1 h2
    split at h1
    · split at h2
      · injection h1 with h1
        injection h2 with h2
        exact .inl ⟨h1.symm.trans h2, by rw [← h1]; exact hx⟩
      · cases h2
    · cases h1
  · rw [if_neg e] at h1 h2
    exact h.2 i u v h1 h2
theorem Keep.set {a b : Array GenState} {g : Nat} {x : GenState} (h : ∀ u v, a[g]? = some u → b[g]? = some v → ¬ Poi u v) : Keep a (a.setIfInBounds g x) b (b.setIfInBounds g x) := fun i u v h1 h2 p => by
  have e : g ≠ i := fun e => h u v (e ▸ h1) (e ▸ h2) p
  rw [Array.getElem?_setIfInBounds, Array.getElem?_setIfInBounds, if_neg e, if_neg e]
  exact ⟨h1, h2⟩
end FL
namespace FL
open PySem L2
section
variable {α β : Type} {δ : FL.Loc} {μ : Mem} {o : Opn} {os : List Opn} {m : ME} {ms mks : List ME} {f c : String} {at_ : String → String → Att} {d : D} {ds vs dds : List D} {k : Nat} {ks : List String}
@[simp] theorem ec_pick0 {vs ds zs : List α} : pickS [] vs ds zs = [] := rfl
@[simp] theorem ec_pick1 {vs ds zs : List α} {a : Sel} {sel : List Sel} : pickS (a :: sel) vs ds zs = (match a.get vs ds zs with | some x => x :: pickS sel vs ds zs | none => pickS sel vs ds zs) := by
  unfold pickS
  cases h : a.get vs ds zs with
  | none => rw [List.filterMap_cons_none h]
  | some x => rw [List.filterMap_cons_some h]
@[simp] theorem ec_sel1 {vs ds zs : List α} {i : Nat} : (Sel.pos i).get vs ds zs = vs[i]? := rfl
@[simp] theorem ec_sel2 {vs ds zs : List α} {i : Nat} : (Sel.key i).get vs ds zs = zs[i]? := rfl
@[simp] theorem ec_sel3 {vs ds zs : List α} {i : Nat} : (Sel.dfl i).get vs ds zs = ds[i]? := rfl
@[simp] theorem ec_end0 {a b : Own} : (μ ++ [a, b])[μ.length]? = some a := by simp
@[simp] theorem ec_end1 {a b : Own} : (μ ++ [a, b])[μ.length + 1]? = some b := by simp
@[simp] theorem ec_set0 {a b e : Own} : (μ ++ [a, b]).set μ.length e = μ ++ [e, b] := by
  rw [List.set_append_right _ _ (Nat.le_refl _)]
  simp
end
end FL
set_option Elab.async false
set_option linter.all false
set_option maxRecDepth 100000
set_option maxHeartbeats 4000000
namespace FL
open PySem L2 LamX
theorem toS_len (x : Tx) : (toS x).length = x.length := by simp [toS, Str.length]
theorem toS_of (z : Str) : toS z.cps.toList = z := by cases z; simp [toS]
theorem toS_app (x y : Tx) : toS x ++ toS y = toS (x ++ y) := by
  show Str.append (toS x) (toS y) = _
  simp [toS, Str.append]
theorem ofS_lit (s : String) : Str.ofString s = toS (lit s) := Str.ofString_eq_toList s
theorem cps_lit (s : String) : (Str.ofString s).cps.toList = lit s := by rw [ofS_lit]; rfl
section
variable {K : PySem.W.Frag} {mg : Str → Option Value} {Z F F' : Hp} {ρ ρ' : List Addr}
theorem RepL.take : ∀ {vs : List V} {ds : List D} (n : Nat), RepL K mg F ρ vs ds → RepL K mg F ρ (vs.take n) (ds.take n)
  | _, _, 0, _ => .nil
  | _, _, _ + 1, .nil => .nil
  | _, _, n + 1, .cons h t => .cons h (RepL.take n t)
theorem RepL.ints : ∀ {vs : List V} {ns : List Int}, RepL K mg F ρ vs (ns.map D.int) → vs = ns.map V.int := by
  intro vs ns
  induction ns generalizing vs with
  | nil => intro h; cases h; rfl
  | cons n ns ih =>
    intro h
    rw [List.map_cons] at h
    cases h with
    | cons h t =>
      cases h
      rw [List.map_cons, ih t]
theorem RepL.ofInts : ∀ (ns : List Int), RepL K mg F ρ (ns.map V.int) (ns.map D.int)
  | [] => .nil
  | _ :: ns => .cons .int (RepL.ofInts ns)
theorem RepL.ofStrs : ∀ (xs : List Tx), RepL K mg F ρ ((xs.map toS).map V.str) (xs.map D.str)
  | [] => .nil
  | _ :: ns => .cons .str (RepL.ofStrs ns)
theorem RepL.bls : ∀ {vs : List V} {xs : List Bool}, RepL K mg F ρ vs (xs.map D.bl) → vs = xs.map V.bl := by
  intro vs xs
  induction xs generalizing vs with
  | nil => intro h; cases h; rfl
  | cons n ns ih =>
    intro h
    rw [List.map_cons] at h
    cases h with
    | cons h t =>
      cases h
      rw [List.map_cons, ih t]
end
section
variable {K : PySem.W.Frag} {mg : Str → Option Value} {Z F F' : Hp} {ρ ρ' : List Addr} {μ : Mem} {δ : Loc} {σ : St} {H H' : Hp} {p : Addr} {o : HO} {v : V} {s : Slot}
theorem Sim.write {i : Nat} {c c' : Own} (S : Sim K mg Z F ρ μ δ σ H) (e : δ[i]? = some (some (.own c))) (ev : σ[i]? = some (some (.ref p))) (r : OwnR K mg F ρ (upd H p o) p c') :
    Sim K mg Z F ρ μ (δ.set i (some (.own c'))) σ (upd H p o) := by
  obtain ⟨v, ev', q, evq, fr, r0⟩ := S.slot i _ e
  rw [ev] at ev'; cases ev'; cases evq
  have hi : i < δ.length := (List.getElem?_eq_some_iff.mp e).1
  have same : σ.set i (some (.ref p)) = σ := by
    apply List.ext_getElem?
    intro j
    by_cases z : j = i
    · subst z; rw [List.getElem?_set_self (by rw [S.len]; exact hi), ev]
    · rw [List.getElem?_set_ne (Ne.symm z)]
  have S0 := S.forget (i := i) (x := some (.ref p))
  rw [same] at S0
  have no : ∀ (j : Nat) t, (δ.set i none)[j]? = some (some (.own t)) → σ[j]? ≠ some (some (.ref p)) := fun j t ej q => by
    have nj : j ≠ i := fun z => by
      subst z; rw [List.getElem?_set_self hi] at ej; cases ej
    rw [List.getElem?_set_ne (Ne.symm nj)] at ej
    exact nj (S.apart j i p t c ej e q ev)
  have S1 : Sim K mg Z F ρ μ (δ.set i none) σ (upd H p o) := S0.heap (fun a ne => upd_ne ne) fr.f fr.z fr.r no
  have S2 := S1.store (i := i) (v := .ref p) (s := .own c') ⟨⟨p, rfl, fr, r⟩, fun o' p' z1 z2 => by cases z2; exact fun j t ej => no j t ej⟩ (by simpa using hi)
  rw [same, List.set_set] at S2
  exact S2
theorem Sim.writeM {k : Nat} {c c' : Own} (S : Sim K mg Z F ρ μ δ σ H) (e : μ[k]? = some c) (ev : ρ[k]? = some p) (r : OwnR K mg F ρ (upd H p o) p c') :
    Sim K mg Z F ρ (μ.set k c') δ σ (upd H p o) := by
  obtain ⟨a, ea, f1, f2, r0⟩ := S.mem k c e
  rw [ev] at ea; cases ea
  have hm : p ∈ ρ := List.mem_of_getElem? ev
  have hk : k < μ.length := (List.getElem?_eq_some_iff.mp e).1
  refine ⟨fun a u h => ?_, fun a u h => ?_, S.len, fun i s h => ?_, S.apart, fun j x h => ?_, by simp [S.mlen], S.nod⟩
  · have ne : a ≠ p := fun z => by
      subst z
      rw [f1] at h; cases h
    have := S.le a u h
    rw [upd_ne ne]; exact this
  · have ne : a ≠ p := fun z => by subst z; rw [f2] at h; cases h
    rw [upd_ne ne]; exact S.zk a u h
  · obtain ⟨v, e1, r⟩ := S.slot i s h
    refine ⟨v, e1, ?_⟩
    cases s with
    | fr d => exact r
    | own c =>
      obtain ⟨q, eq, fr, r⟩ := r
      subst eq
      have ne : q ≠ p := fun z => by subst z; exact fr.r hm
      exact ⟨q, rfl, fr, r.up (fun _ _ h => h) (fun _ _ h => h) (upd_ne ne)⟩
  · by_cases z : j = k
    · subst z
      rw [List.getElem?_set_self hk] at h
      cases h
      exact ⟨p, ev, f1, f2, r⟩
    · rw [List.getElem?_set_ne (Ne.symm z)] at h
      obtain ⟨a, ea, g1, g2, r1⟩ := S.mem j x h
      have ne : a ≠ p := fun q => by
        subst q
        have h1 := (List.getElem?_eq_some_iff.mp ea).1
        exact z ((List.getElem?_inj h1 S.nod).mp (ea.trans ev.symm))
      exact ⟨a, ea, g1, g2, r1.up (fun _ _ h => h) (fun _ _ h => h) (upd_ne ne)⟩
theorem Sim.share {c : Own} (S : Sim K mg Z F ρ μ δ σ H) (h : VR K mg Z F ρ δ σ H v (.own c)) : ∃ p, v = .ref p ∧ LeR Z ρ (ρ ++ [p]) ∧ Sim K mg Z F (ρ ++ [p]) (μ ++ [c]) δ σ H ∧ Rep K mg F (ρ ++ [p]) v (.obj μ.length) := by
  obtain ⟨p, ev, fr, r⟩ := h.r
  subst ev
  have to : ∀ (k : Nat) a, ρ[k]? = some a → (ρ ++ [p])[k]? = some a := fun k a e => by
    rw [List.getElem?_append_left (List.getElem?_eq_some_iff.mp e).1]; exact e
  refine ⟨p, rfl, ⟨to, fun a ha => ?_⟩, ⟨S.le, S.zk, S.len, fun i s e => ?_, S.apart, fun k x e => ?_, by simp [S.mlen], ?_⟩, ?_⟩
  · rcases List.mem_append.mp ha with ha | ha
    · exact .inl ha
    · have : a = p := by simpa using ha
      subst this; exact .inr fr.z
  · obtain ⟨w, e1, r1⟩ := S.slot i s e
    refine ⟨w, e1, ?_⟩
    cases s with
    | fr d => exact Rep.up (fun _ _ h => h) to r1
    | own c1 =>
      obtain ⟨q, eq, fr1, r1⟩ := r1
      subst eq
      refine ⟨q, rfl, ⟨fr1.f, fr1.z, fun hm => ?_⟩, r1.up (fun _ _ h => h) to rfl⟩
      rcases List.mem_append.mp hm with hm | hm
      · exact fr1.r hm
      · have : q = p := by simpa using hm
        subst this
        exact h.no c q rfl rfl i c1 e e1
  · by_cases hk : k < μ.length
    · rw [List.getElem?_append_left hk] at e
      obtain ⟨a, ea, g1, g2, r1⟩ := S.mem k x e
      exact ⟨a, to k a ea, g1, g2, r1.up (fun _ _ h => h) to rfl⟩
    · rw [List.getElem?_append_right (by omega)] at e
      have hk2 : k = μ.length := by
        have := (List.getElem?_eq_some_iff.mp e).1
        simp at this
        omega
      subst hk2
      simp at e
      subst e
      refine ⟨p, ?_, fr.f, fr.z, r.up (fun _ _ h => h) to rfl⟩
      rw [← S.mlen]; simp
  · rw [List.nodup_append]
    refine ⟨S.nod, by simp, fun a ha b hb e => ?_⟩
    have : b = p := by simpa using hb
    subst this
    subst e
    exact fr.r ha
  · refine .obj ?_
    rw [← S.mlen]; simp
end
end FL
namespace FL
open PySem L2
theorem Out.bind_ok {α β : Type} {a : α} {δ : Loc} {μ : Mem} {f : α → Loc → Mem → Out β} : (Out.ok a δ μ).bind f = f a δ μ := rfl
def lift (o : Option Slot) : ME := fun δ μ => match o with
  | some s => .ok s δ μ
  | none => .bad
section
variable (X : Cx) (W : WX)
abbrev SimX (Z F : Hp) (ρ : List Addr) (μ : Mem) (δ : Loc) (σ : St) (H : Hp) : Prop := Sim X.K X.mg Z F ρ μ δ σ H
end
abbrev JT (X : Cx) (W : WX) (e : Expr) (m : MT) : Prop := PT X e (rdT X W m)
section
variable (K : PySem.W.Frag) (mg : Str → Option Value)
inductive BorL (F : Hp) (ρ : List Addr) (H : Hp) : List V → List D → Prop where
  | nil : BorL F ρ H [] []
  | cons {v d vs ds} (h : Bor K mg F ρ H v d) (t : BorL F ρ H vs ds) : BorL F ρ H (v :: vs) (d :: ds)
end
def OR.ats (δ : Loc) (μ : Mem) : List OR → Option (List D)
  | [] => some []
  | r :: rs => match r.at δ μ, OR.ats δ μ rs with
    | some x, some xs => some (x :: xs)
    | _, _ => none
section
variable {K : PySem.W.Frag} {mg : Str → Option Value} {Z F F' : Hp} {ρ ρ' : List Addr} {μ : Mem} {δ : Loc} {σ : St} {H H' : Hp} {v : V} {d : D}
theorem OrR.bor {r : OR} (S : Sim K mg Z F ρ μ δ σ H) (h : OrR K mg F ρ σ v r) (e : r.at δ μ = some d) : Bor K mg F ρ H v d := by
  cases r with
  | d d' => exact Rep.seen S h e
  | i i =>
    have h' : σ[i]? = some (some v) := h
    have e : (match δ[i]? with | some (some s) => look μ s.d | _ => none) = some d := e
    cases q : δ[i]? with
    | none => rw [q] at e; cases e
    | some o =>
      cases o with
      | none => rw [q] at e; cases e
      | some s =>
        rw [q] at e
        have e' : look μ s.d = some d := e
        obtain ⟨w, ew, r⟩ := S.slot i s q
        rw [h'] at ew
        cases ew
        cases s with
        | fr d => exact Rep.seen S r e'
        | own o =>
          obtain ⟨p, ep, _, r⟩ := r
          subst ep
          have e2 : look μ o.d = some o.d := by cases o <;> rfl
          have e3 : some d = some o.d := e'.symm.trans e2
          cases e3
          exact .own r
theorem OrRs.bor (S : Sim K mg Z F ρ μ δ σ H) : ∀ {vs : List V} {rs : List OR} {ds : List D}, OrRs K mg F ρ σ vs rs → OR.ats δ μ rs = some ds → BorL K mg F ρ H vs ds := by
  intro vs rs ds h
  induction h generalizing ds with
  | nil =>
    intro e
    have e' : some ([] : List D) = some ds := e
    cases e'
    exact .nil
  | @cons v r vs rs h t ih =>
    intro e
    unfold OR.ats at e
    cases q1 : r.at δ μ with
    | none => rw [q1] at e; cases e
    | some d =>
      cases q2 : OR.ats δ μ rs with
      | none => rw [q1, q2] at e; cases e
      | some dr =>
        rw [q1, q2] at e
        have e' : some (d :: dr) = some ds := e
        cases e'
        exact .cons (h.bor S q1) (ih q2)
end
section
variable (X : Cx) (W : WX)
def rdO (m : Opn) : TE := fun σ H Q => ∃ Z F ρ μ δ, Sim X.K X.mg Z F ρ μ δ σ H ∧
  FinE X W Z F ρ σ (fun r _ _ F' ρ' H' => ∀ v, OrR X.K X.mg F' ρ' σ v r → Q v H') (m.ev δ μ)
def evs : List Opn → MM (List OR)
  | [] => fun δ μ => .ok [] δ μ
  | o :: os => fun δ μ => (o.ev δ μ).bind fun r δ1 μ1 => (evs os δ1 μ1).bind fun rs δ2 μ2 => .ok (r :: rs) δ2 μ2
def rdOs (m : List Opn) : TA := fun σ H Q => ∃ Z F ρ μ δ, Sim X.K X.mg Z F ρ μ δ σ H ∧
  FinE X W Z F ρ σ (fun rs _ _ F' ρ' H' => ∀ vs, OrRs X.K X.mg F' ρ' σ vs rs → Q vs H') (evs m δ μ)
def evA : List ME → MM (List D)
  | [] => fun δ μ => .ok [] δ μ
  | m :: ms => fun δ μ => (m δ μ).bind fun s δ1 μ1 => (evA ms δ1 μ1).bind fun ds δ2 μ2 => .ok (s.d :: ds) δ2 μ2
def rdA (m : List ME) : TA := fun σ H Q => ∃ Z F ρ μ δ, Sim X.K X.mg Z F ρ μ δ σ H ∧
  FinE X W Z F ρ σ (fun ds _ _ F' ρ' H' => ∀ vs, RepL X.K X.mg F' ρ' vs ds → Q vs H') (evA m δ μ)
end
abbrev JO (X : Cx) (W : WX) (e : Expr) (m : Opn) : Prop := PE X e (rdO X W m)
abbrev JOs (X : Cx) (W : WX) (e : List Expr) (m : List Opn) : Prop := PA X e (rdOs X W m)
abbrev JA (X : Cx) (W : WX) (e : List Expr) (m : List ME) : Prop := PA X e (rdA X W m)
section
variable {X : Cx} {W : WX} {e a b : Expr} {es : List Expr} {pos : Pos}
theorem JE.locked {m : ME} (h : JE X W e m) : PE X e (fun σ H Q => ∃ Z F ρ μ δ, Sim X.K X.mg Z F ρ μ δ σ H ∧
    FinE X W Z F ρ σ (fun s δ' μ' F' ρ' H' => ∀ v, Rep X.K X.mg F' ρ' v s.d → Q v H') (m δ μ)) := by
  refine h.imp fun σ H Q ⟨Z, F, ρ, μ, δ, S, q⟩ => ⟨Z, F, ρ, μ, δ, S, ?_⟩
  cases r : m δ μ with
  | ok s δ' μ' =>
    rw [r] at q
    refine fun H' F' ρ' l lr S' v vr => ?_
    obtain ⟨F2, l2, S2, rep⟩ := S'.lock vr
    exact q H' F2 ρ' (l.trans l2) lr S2 v rep
  | exc x δ' μ' => rw [r] at q; exact q
  | bad => rw [r] at q; exact q
theorem jo_e {m : ME} (h : JE X W e m) : JO X W e (.e m) := by
  refine PE.imp h.locked fun σ H Q ⟨Z, F, ρ, μ, δ, S, q⟩ => ⟨Z, F, ρ, μ, δ, S, ?_⟩
  have q' : FinE X W Z F ρ σ (fun r _ _ F' ρ' H' => ∀ v, OrR X.K X.mg F' ρ' σ v r → Q v H') ((m δ μ).bind fun s δ1 μ1 => .ok (.d s.d) δ1 μ1) := q
  refine q'.bind.imp fun s δ' μ' H' F' ρ' l lr S' ⟨S2, l2, lr2, p⟩ v r => ?_
  exact p H' F' ρ' .refl .refl S2 v r
theorem jo_v {i : Nat} (h : PE X e (tVar i)) : JO X W e (.v i) := by
  refine h.imp fun σ H Q ⟨Z, F, ρ, μ, δ, S, q⟩ => ?_
  unfold Opn.ev at q
  cases e1 : δ[i]? with
  | none => simp only [e1] at q; exact q.elim
  | some o =>
    cases o with
    | none => simp only [e1] at q; exact q.elim
    | some s =>
      simp only [e1] at q
      obtain ⟨v, ev, _⟩ := S.slot i s e1
      exact ⟨v, ev, q H F ρ .refl .refl S v ev⟩
theorem jos_nil : JOs X W [] [] := pa_nil.imp fun σ H Q ⟨Z, F, ρ, μ, δ, S, q⟩ => q H F ρ .refl .refl S [] .nil
theorem jos_cons {o : Opn} {os : List Opn} (h : JO X W e o) (t : JOs X W es os) (hs : starEach (e :: es) X.env = (false, eval e X.env) :: starEach es X.env := by rfl) : JOs X W (e :: es) (o :: os) := by
  refine (pa_cons h t hs).imp fun σ H Q ⟨Z, F, ρ, μ, δ, S, q⟩ => ?_
  have q' : FinE X W Z F ρ σ (fun rs _ _ F' ρ' H' => ∀ vs, OrRs X.K X.mg F' ρ' σ vs rs → Q vs H') ((o.ev δ μ).bind fun r δ1 μ1 => (evs os δ1 μ1).bind fun rs δ2 μ2 => .ok (r :: rs) δ2 μ2) := q
  refine ⟨Z, F, ρ, μ, δ, S, q'.bind.imp fun r δ1 μ1 H1 F1 ρ1 l lr S1 ⟨_, _, _, p⟩ v hv => ?_⟩
  refine ⟨Z, F1, ρ1, μ1, δ1, S1, p.bind.imp fun rs δ2 μ2 H2 F2 ρ2 l2 lr2 S2 ⟨_, _, _, p2⟩ vs hvs => ?_⟩
  exact p2 H2 F2 ρ2 .refl .refl S2 (v :: vs) (.cons (hv.up l2 lr2) hvs)
theorem ja_nil : JA X W [] [] := pa_nil.imp fun σ H Q ⟨Z, F, ρ, μ, δ, S, q⟩ => q H F ρ .refl .refl S [] .nil
theorem ja_cons {m : ME} {ms : List ME} (h : JE X W e m) (t : JA X W es ms) (hs : starEach (e :: es) X.env = (false, eval e X.env) :: starEach es X.env := by rfl) : JA X W (e :: es) (m :: ms) := by
  refine (pa_cons h.locked t hs).imp fun σ H Q ⟨Z, F, ρ, μ, δ, S, q⟩ => ?_
  have q' : FinE X W Z F ρ σ (fun ds _ _ F' ρ' H' => ∀ vs, RepL X.K X.mg F' ρ' vs ds → Q vs H') ((m δ μ).bind fun s δ1 μ1 => (evA ms δ1 μ1).bind fun ds δ2 μ2 => .ok (s.d :: ds) δ2 μ2) := q
  refine ⟨Z, F, ρ, μ, δ, S, q'.bind.imp fun s δ1 μ1 H1 F1 ρ1 l lr S1 ⟨_, _, _, p⟩ v hv => ?_⟩
  refine ⟨Z, F1, ρ1, μ1, δ1, S1, p.bind.imp fun ds δ2 μ2 H2 F2 ρ2 l2 lr2 S2 ⟨_, _, _, p2⟩ vs hvs => ?_⟩
  exact p2 H2 F2 ρ2 .refl .refl S2 (v :: vs) (.cons (hv.up l2.to lr2.to) hvs)
theorem je_int {i j} : JE X W (.Constant (.int i) j pos) (mD (.int i)) := je_c pe_int fun _ _ => .int
theorem je_bl {b j} : JE X W (.Constant (.bool b) j pos) (mD (.bl b)) := je_c pe_bl fun _ _ => .bl
theorem je_non {j} : JE X W (.Constant .none j pos) (mD .non) := je_c pe_non fun _ _ => .non
theorem je_str {x j} : JE X W (.Constant (.str (Str.ofString x)) j pos) (mD (.str (lit x))) := je_c pe_str fun _ _ => by rw [ofS_lit]; exact .str
theorem je_mod {x : Str} {u : Value} {v : V} {d : D} {p : Pos} (hg : Gl X x) (hm : X.mg x = some u) (r : RelV v u) (hr : ∀ F ρ, Rep X.K X.mg F ρ v d) (hd : (x == ("__debug__" : Str)) = false := by decide +kernel) : JE X W (.Name x p) (mD d) :=
  je_c (pe_glob hg hm r hd) hr
def R2J (X : Cx) (r : R2) (g : D → D → Option Slot) : Prop := ∀ Z F ρ μ δ σ H x y dx dy s Q, Sim X.K X.mg Z F ρ μ δ σ H → Bor X.K X.mg F ρ H x dx → Bor X.K X.mg F ρ H y dy → g dx dy = some s →
  (∀ v H' F', Le Z F F' → Sim X.K X.mg Z F' ρ μ δ σ H' → VR X.K X.mg Z F' ρ δ σ H' v s → Q v H') → r x y H Q
def m2 (g : D → D → Option Slot) (oa ob : Opn) : ME := fun δ μ => (oa.ev δ μ).bind fun ra δ1 μ1 => (ob.ev δ1 μ1).bind fun rb δ2 μ2 =>
  match ra.at δ2 μ2, rb.at δ2 μ2 with
  | some da, some db => lift (g da db) δ2 μ2
  | _, _ => .bad
theorem m2_read {r : R2} {g : D → D → Option Slot} {oa ob : Opn} (hr : R2J X r g) : ∀ σ H Q, rdE X W (m2 g oa ob) σ H Q → tOp r (rdO X W oa) (rdO X W ob) σ H Q := by
  intro σ H Q ⟨Z, F, ρ, μ, δ, S, q⟩
  refine ⟨Z, F, ρ, μ, δ, S, (FinE.bind q).imp fun ra δ1 μ1 H1 F1 ρ1 l lr S1 ⟨_, _, _, p⟩ x hx => ?_⟩
  refine ⟨Z, F1, ρ1, μ1, δ1, S1, p.bind.imp fun rb δ2 μ2 H2 F2 ρ2 l2 lr2 S2 ⟨_, _, _, p2⟩ y hy => ?_⟩
  cases ea : ra.at δ2 μ2 with
  | none => rw [ea] at p2; exact p2.elim
  | some da =>
    cases eb : rb.at δ2 μ2 with
    | none => rw [ea, eb] at p2; exact p2.elim
    | some db =>
      rw [ea, eb] at p2
      unfold lift at p2
      cases eg : g da db with
      | none => simp only [eg] at p2; exact p2.elim
      | some s =>
        simp only [eg] at p2
        exact hr Z F2 ρ2 μ2 δ2 σ H2 x y da db s Q S2 ((hx.up l2 lr2).bor S2 ea) (hy.bor S2 eb) eg fun v H' F' l' S' vr => p2 H' F' ρ2 l' .refl S' v vr
theorem je_bin {op : Operator} {r : R2} {g : D → D → Option Slot} {oa ob : Opn} (ho : OpR X (binaryOp op) r) (hr : R2J X r g) (ha : JO X W a oa) (hb : JO X W b ob) : JE X W (.BinOp a op b pos) (m2 g oa ob) :=
  (pe_op ho ha hb).imp (m2_read hr)
theorem je_cmp {op : CmpOp} {r : R2} {g : D → D → Option Slot} {oa ob : Opn} (ho : OpR X (compareOp op) r) (hr : R2J X r g) (ha : JO X W a oa) (hb : JO X W b ob) (hm : behindInMarks op b = false) : JE X W (.Compare a [op] [b] pos) (m2 g oa ob) :=
  (pe_cmpR ho ha hb hm).imp (m2_read hr)
theorem je_ix {r : R2} {g : D → D → Option Slot} {oa ob : Opn} (ho : IxR X r) (hr : R2J X r g) (ha : JO X W a oa) (hb : JO X W b ob) (hs : PlainIx b) : JE X W (.Subscript a b pos) (m2 g oa ob) :=
  (pe_ix ho ha hb hs).imp (m2_read hr)
theorem R2J.or {r r' : R2} {g g' : D → D → Option Slot} (h : R2J X r g) (h' : R2J X r' g') : R2J X (fun x y H Q => r x y H Q ∨ r' x y H Q) (fun x y => (g x y).or (g' x y)) := by
  intro Z F ρ μ δ σ H x y dx dy s Q S bx bY e q
  have e : (g dx dy).or (g' dx dy) = some s := e
  cases eg : g dx dy with
  | some s' => rw [eg] at e; exact .inl (h Z F ρ μ δ σ H x y dx dy s Q S bx bY (by rw [eg]; exact e) q)
  | none => rw [eg] at e; exact .inr (h' Z F ρ μ δ σ H x y dx dy s Q S bx bY e q)
def mTb (m : ME) : MT := fun δ μ => (m δ μ).bind fun s δ1 μ1 => match s with
  | .fr (.bl b) => .ok b δ1 μ1
  | _ => .bad
theorem mTb_read {t : TE} {m : ME} (h : ∀ σ H Q, rdE X W m σ H Q → t σ H Q) : ∀ σ H Q, rdT X W (mTb m) σ H Q → t σ H fun x H' => ∃ k, x = .bl k ∧ Q k H' := by
  intro σ H Q ⟨Z, F, ρ, μ, δ, S, q⟩
  refine h σ H _ ⟨Z, F, ρ, μ, δ, S, (FinE.bind q).imp fun s δ1 μ1 H1 F1 ρ1 l lr S1 ⟨_, _, _, p⟩ v vr => ?_⟩
  cases s with
  | own o => exact p.elim
  | fr d =>
    cases d with
    | bl b =>
      cases vr.r
      exact ⟨b, rfl, p H1 F1 ρ1 .refl .refl S1⟩
    | _ => exact p.elim
theorem jt_cmp {op : CmpOp} {r : R2} {g : D → D → Option Slot} {oa ob : Opn} (ho : OpR X (compareOp op) r) (hr : R2J X r g) (ha : JO X W a oa) (hb : JO X W b ob) (hm : behindInMarks op b = false) : JT X W (.Compare a [op] [b] pos) (mTb (m2 g oa ob)) :=
  (pt_cmpR ho ha hb hm).imp (mTb_read (m2_read hr))
theorem jt_e {m : ME} (h : JE X W e m) (he : ∀ whole, isTrue e X.env whole = (do let v ← whole; standAt e.pos; holding [v] (truthy v)) := by intro _; rfl) : JT X W e (mTb m) :=
  (pt_val h he).imp (mTb_read fun _ _ _ q => q)
def mNot (m : MT) : MT := fun δ μ => (m δ μ).bind fun b δ1 μ1 => .ok (!b) δ1 μ1
theorem jt_not {m : MT} (h : JT X W a m) : JT X W (.UnaryOp .Not a pos) (mNot m) := by
  refine (pt_not h).imp fun σ H Q ⟨Z, F, ρ, μ, δ, S, q⟩ => ⟨Z, F, ρ, μ, δ, S, (FinE.bind q).imp fun b δ1 μ1 H1 F1 ρ1 l lr S1 ⟨_, _, _, p⟩ => ?_⟩
  exact p H1 F1 ρ1 .refl .refl S1
abbrev JW (X : Cx) (W : WX) (e : Expr) (m : MT) : Prop := PW X e (rdT X W m)
def mAnd (m n : MT) : MT := fun δ μ => (m δ μ).bind fun b δ1 μ1 => if b = true then n δ1 μ1 else .ok false δ1 μ1
def mOr (m n : MT) : MT := fun δ μ => (m δ μ).bind fun b δ1 μ1 => if b = true then .ok true δ1 μ1 else n δ1 μ1
theorem jw_and1 {m : MT} (h : JT X W a m) : JW X W (.BoolOp .And [a] pos) m := pw_and1 h
theorem jw_or1 {m : MT} (h : JT X W a m) : JW X W (.BoolOp .Or [a] pos) m := pw_or1 h
theorem jw_and {m n : MT} {rest : List Expr} (h : JT X W a m) (t : JW X W (.BoolOp .And (b :: rest) pos) n) : JW X W (.BoolOp .And (a :: b :: rest) pos) (mAnd m n) := by
  refine (pw_and h t).imp fun σ H Q ⟨Z, F, ρ, μ, δ, S, q⟩ => ⟨Z, F, ρ, μ, δ, S, (FinE.bind q).imp fun c δ1 μ1 H1 F1 ρ1 l lr S1 ⟨_, _, _, p⟩ => ?_⟩
  cases c with
  | true => exact ⟨Z, F1, ρ1, μ1, δ1, S1, p⟩
  | false => exact p H1 F1 ρ1 .refl .refl S1
theorem jw_or {m n : MT} {rest : List Expr} (h : JT X W a m) (t : JW X W (.BoolOp .Or (b :: rest) pos) n) : JW X W (.BoolOp .Or (a :: b :: rest) pos) (mOr m n) := by
  refine (pw_or h t).imp fun σ H Q ⟨Z, F, ρ, μ, δ, S, q⟩ => ⟨Z, F, ρ, μ, δ, S, (FinE.bind q).imp fun c δ1 μ1 H1 F1 ρ1 l lr S1 ⟨_, _, _, p⟩ => ?_⟩
  cases c with
  | false => exact ⟨Z, F1, ρ1, μ1, δ1, S1, p⟩
  | true => exact p H1 F1 ρ1 .refl .refl S1
theorem jt_w {m : MT} (h : JW X W e m) : JT X W e m := h.pt
def mIf (t : MT) (m n : ME) : ME := fun δ μ => (t δ μ).bind fun b δ1 μ1 => if b = true then m δ1 μ1 else n δ1 μ1
theorem je_if {c : Expr} {t : MT} {m n : ME} (hc : JT X W c t) (ha : JE X W a m) (hb : JE X W b n) : JE X W (.IfExp c a b pos) (mIf t m n) := by
  refine (pe_ifExp hc ha hb).imp fun σ H Q ⟨Z, F, ρ, μ, δ, S, q⟩ => ⟨Z, F, ρ, μ, δ, S, (FinE.bind q).imp fun c δ1 μ1 H1 F1 ρ1 l lr S1 ⟨_, _, _, p⟩ => ?_⟩
  cases c with
  | true => exact ⟨Z, F1, ρ1, μ1, δ1, S1, p⟩
  | false => exact ⟨Z, F1, ρ1, μ1, δ1, S1, p⟩
def mAndV (m n : ME) : ME := fun δ μ => (m δ μ).bind fun s δ1 μ1 => match s with
  | .fr (.bl true) => n δ1 μ1
  | .fr (.bl false) => .ok (.fr (.bl false)) δ1 μ1
  | _ => .bad
def mOrV (m n : ME) : ME := fun δ μ => (m δ μ).bind fun s δ1 μ1 => match s with
  | .fr (.bl false) => n δ1 μ1
  | .fr (.bl true) => .ok (.fr (.bl true)) δ1 μ1
  | _ => .bad
theorem je_one {op} {m : ME} (h : JE X W a m) : JE X W (.BoolOp op [a] pos) m := pe_one h
theorem je_and {m n : ME} {rest : List Expr} (h : JE X W a m) (t : JE X W (.BoolOp .And (b :: rest) pos) n) : JE X W (.BoolOp .And (a :: b :: rest) pos) (mAndV m n) := by
  refine (pe_and h t).imp fun σ H Q ⟨Z, F, ρ, μ, δ, S, q⟩ => ⟨Z, F, ρ, μ, δ, S, (FinE.bind q).imp fun s δ1 μ1 H1 F1 ρ1 l lr S1 ⟨_, _, _, p⟩ v vr => ?_⟩
  cases s with
  | own o => exact p.elim
  | fr d =>
    cases d with
    | bl b =>
      cases vr.r
      refine ⟨b, rfl, ?_⟩
      cases b with
      | true => exact ⟨Z, F1, ρ1, μ1, δ1, S1, p⟩
      | false => exact p H1 F1 ρ1 .refl .refl S1 _ .bl
    | _ => exact p.elim
theorem je_or {m n : ME} {rest : List Expr} (h : JE X W a m) (t : JE X W (.BoolOp .Or (b :: rest) pos) n) : JE X W (.BoolOp .Or (a :: b :: rest) pos) (mOrV m n) := by
  refine (pe_or h t).imp fun σ H Q ⟨Z, F, ρ, μ, δ, S, q⟩ => ⟨Z, F, ρ, μ, δ, S, (FinE.bind q).imp fun s δ1 μ1 H1 F1 ρ1 l lr S1 ⟨_, _, _, p⟩ v vr => ?_⟩
  cases s with
  | own o => exact p.elim
  | fr d =>
    cases d with
    | bl b =>
      cases vr.r
      refine ⟨b, rfl, ?_⟩
      cases b with
      | false => exact ⟨Z, F1, ρ1, μ1, δ1, S1, p⟩
      | true => exact p H1 F1 ρ1 .refl .refl S1 _ .bl
    | _ => exact p.elim
def mNotV (m : ME) : ME := fun δ μ => (m δ μ).bind fun s δ1 μ1 => match s with
  | .fr (.bl b) => .ok (.fr (.bl (!b))) δ1 μ1
  | _ => .bad
theorem je_not {m : ME} (h : JE X W a m) : JE X W (.UnaryOp .Not a pos) (mNotV m) := by
  refine (pe_not h).imp fun σ H Q ⟨Z, F, ρ, μ, δ, S, q⟩ => ⟨Z, F, ρ, μ, δ, S, (FinE.bind q).imp fun s δ1 μ1 H1 F1 ρ1 l lr S1 ⟨_, _, _, p⟩ v vr => ?_⟩
  cases s with
  | own o => exact p.elim
  | fr d =>
    cases d with
    | bl b =>
      cases vr.r
      exact ⟨b, rfl, p H1 F1 ρ1 .refl .refl S1 _ .bl⟩
    | _ => exact p.elim
def mTup (ms : List ME) : ME := fun δ μ => (evA ms δ μ).bind fun ds δ1 μ1 => if ds.length ≤ 16777216 then .ok (.fr (.tup ds)) δ1 μ1 else .bad
def mLst (ms : List ME) : ME := fun δ μ => (evA ms δ μ).bind fun ds δ1 μ1 => if ds.length ≤ 16777216 then .ok (.own (.lst ds)) δ1 μ1 else .bad
theorem je_tup {k} {ms : List ME} (h : JA X W es ms) : JE X W (.Tuple es k pos) (mTup ms) := by
  refine (pe_tup h).imp fun σ H Q ⟨Z, F, ρ, μ, δ, S, q⟩ => ⟨Z, F, ρ, μ, δ, S, (FinE.bind q).imp fun ds δ1 μ1 H1 F1 ρ1 l lr S1 ⟨_, _, _, p⟩ vs hv => ?_⟩
  by_cases hz : ds.length ≤ 16777216
  · rw [if_pos hz] at p
    refine ⟨by rw [hv.len, sizeLine_eq]; exact hz, fun a ha => ?_⟩
    obtain ⟨n1, n2, n3, n4⟩ := S1.notIn ha
    have S2 := S1.laid (o := .tup vs) ha
    obtain ⟨l3, S3⟩ := S2.freeze (p := a) upd_same ⟨n1, n2, n3⟩ n4
    exact p _ _ ρ1 l3 .refl S3 _ ⟨.tup (.inl (.inl upd_same)) (hv.up l3.to fun _ _ h => h), fun o p z => by cases z⟩
  · rw [if_neg hz] at p; exact p.elim
theorem je_lst {ms : List ME} (h : JA X W es ms) : JE X W (.List es pos) (mLst ms) := by
  refine (pe_lst h).imp fun σ H Q ⟨Z, F, ρ, μ, δ, S, q⟩ => ⟨Z, F, ρ, μ, δ, S, (FinE.bind q).imp fun ds δ1 μ1 H1 F1 ρ1 l lr S1 ⟨_, _, _, p⟩ vs hv => ?_⟩
  by_cases hz : ds.length ≤ 16777216
  · rw [if_pos hz] at p
    refine ⟨by rw [hv.len, sizeLine_eq]; exact hz, fun a ha => ?_⟩
    obtain ⟨n1, n2, n3, n4⟩ := S1.notIn ha
    exact p _ F1 ρ1 .refl .refl (S1.laid ha) _ ⟨⟨a, rfl, ⟨n1, n2, n3⟩, vs, upd_same, hv⟩, fun o p z z2 => by cases z2; exact n4⟩
  · rw [if_neg hz] at p; exact p.elim
def mShare (m : ME) : ME := fun δ μ => (m δ μ).bind fun s δ1 μ1 => match s with
  | .own o => .ok (.fr (.obj μ1.length)) δ1 (μ1 ++ [o])
  | _ => .bad
theorem je_share {m : ME} (h : JE X W e m) : JE X W e (mShare m) := by
  refine h.imp fun σ H Q ⟨Z, F, ρ, μ, δ, S, q⟩ => ⟨Z, F, ρ, μ, δ, S, (FinE.bind q).imp fun s δ1 μ1 H1 F1 ρ1 l lr S1 ⟨_, _, _, p⟩ v vr => ?_⟩
  cases s with
  | fr d => exact p.elim
  | own o =>
    obtain ⟨a, ea, lr2, S2, rp⟩ := S1.share vr
    exact p H1 F1 _ .refl lr2 S2 v ⟨rp, fun o p z => by cases z⟩
end
end FL
namespace FL
open PySem L2
section
variable {X : Cx} {W : WX} {e a b : Expr} {es : List Expr} {pos : Pos}
def gInt (c : Int → Int → Bool) (f : Int → Int → D) : D → D → Option Slot
  | .int i, .int j => if c i j = true then some (.fr (f i j)) else none
  | _, _ => none
theorem r2_flat {r : R2} {g : D → D → Option Slot} (h : ∀ F ρ H x y dx dy s Q, Bor X.K X.mg F ρ H x dx → Bor X.K X.mg F ρ H y dy → g dx dy = some s → ∃ v, (Q v H → r x y H Q) ∧ ∃ d, s = .fr d ∧ ∀ F' ρ', Rep X.K X.mg F' ρ' v d) : R2J X r g := by
  intro Z F ρ μ δ σ H x y dx dy s Q S bx bY e q
  obtain ⟨v, h1, d, rfl, h2⟩ := h F ρ H x y dx dy s Q bx bY e
  exact h1 (q v H F .refl S ⟨h2 F ρ, fun o p z => by cases z⟩)
theorem r2_int {C : Int → Int → Prop} {c : Int → Int → Bool} {f : Int → Int → Int} (h : ∀ i j, c i j = true → C i j) : R2J X (rI C fun i j => .int (f i j)) (gInt c fun i j => .int (f i j)) := by
  refine r2_flat fun F ρ H x y dx dy s Q bx bY e => ?_
  unfold gInt at e
  cases dx <;> cases dy <;> first | (cases e; done) | skip
  rename_i i j
  cases bx.int
  cases bY.int
  by_cases hc : c i j = true
  · simp only [hc, if_true] at e
    cases e
    exact ⟨.int (f i j), fun q => ⟨i, j, rfl, rfl, h i j hc, q⟩, _, rfl, fun _ _ => .int⟩
  · simp only [hc] at e
    cases e
theorem r2_int0 {f : Int → Int → Int} : R2J X (rI0 fun i j => .int (f i j)) (gInt (fun _ _ => true) fun i j => .int (f i j)) := by
  refine r2_flat fun F ρ H x y dx dy s Q bx bY e => ?_
  unfold gInt at e
  cases dx <;> cases dy <;> first | (cases e; done) | skip
  rename_i i j
  cases bx.int
  cases bY.int
  simp only [if_true] at e
  cases e
  exact ⟨.int (f i j), fun q => ⟨i, j, rfl, rfl, q⟩, _, rfl, fun _ _ => .int⟩
theorem r2_intB {f : Int → Int → Bool} : R2J X (rI0 fun i j => .bl (f i j)) (gInt (fun _ _ => true) fun i j => .bl (f i j)) := by
  refine r2_flat fun F ρ H x y dx dy s Q bx bY e => ?_
  unfold gInt at e
  cases dx <;> cases dy <;> first | (cases e; done) | skip
  rename_i i j
  cases bx.int
  cases bY.int
  simp only [if_true] at e
  cases e
  exact ⟨.bl (f i j), fun q => ⟨i, j, rfl, rfl, q⟩, _, rfl, fun _ _ => .bl⟩
abbrev gSub : D → D → Option Slot := gInt (fun _ _ => true) fun i j => .int (i - j)
abbrev gMul : D → D → Option Slot := gInt (fun i j => decide (i.natAbs.log2 + j.natAbs.log2 < 1000000)) fun i j => .int (i * j)
abbrev gDiv : D → D → Option Slot := gInt (fun _ j => decide (0 < j) && decide (j.natAbs.log2 < 9000)) fun i j => .int (i / j)
abbrev gMod : D → D → Option Slot := gInt (fun _ j => decide (0 < j)) fun i j => .int (i % j)
abbrev gPow : D → D → Option Slot := gInt (fun i j => decide (0 ≤ j) && decide (j ≤ 1000000) && decide (i.natAbs < 2 ^ 64)) fun i j => .int (i ^ j.toNat)
theorem o_sub : OpR X (binaryOp .Sub) (rI0 fun i j => .int (i - j)) := op_sub
theorem j_sub : R2J X (rI0 fun i j => .int (i - j)) gSub := r2_int0
theorem j_mulI : R2J X (rI CMulW fun i j => .int (i * j)) gMul := r2_int fun i j h => (show i.natAbs.log2 + j.natAbs.log2 < 1000000 from of_decide_eq_true h)
theorem j_div : R2J X (rI CDivW fun i j => .int (i / j)) gDiv := r2_int fun i j h => by
  have h' := Bool.and_eq_true_iff.mp h
  exact ⟨of_decide_eq_true h'.1, of_decide_eq_true h'.2⟩
theorem j_mod : R2J X (rI (fun _ j => 0 < j) fun i j => .int (i % j)) gMod := r2_int fun i j h => of_decide_eq_true h
theorem cpow {i j : Int} (h : (decide (0 ≤ j) && decide (j ≤ 1000000) && decide (i.natAbs < 2 ^ 64)) = true) : CPow i j := by
  have h' := Bool.and_eq_true_iff.mp h
  have h2 := Bool.and_eq_true_iff.mp h'.1
  exact ⟨of_decide_eq_true h2.1, of_decide_eq_true h2.2, of_decide_eq_true h'.2⟩
theorem j_pow : R2J X (rI CPow fun i j => .int (i ^ j.toNat)) gPow := r2_int fun i j h => cpow h
def gAddS : D → D → Option Slot
  | .str x, .str y => if x.length + y.length ≤ 16777216 then some (.fr (.str (x ++ y))) else none
  | _, _ => none
def gAddL : D → D → Option Slot
  | .lst x, .lst y => if x.length + y.length ≤ 16777216 then some (.own (.lst (x ++ y))) else none
  | _, _ => none
def gAddT : D → D → Option Slot
  | .tup x, .tup y => if x.length + y.length ≤ 16777216 then some (.fr (.tup (x ++ y))) else none
  | _, _ => none
theorem j_addS : R2J X (fun x y H Q => ∃ i j, x = .str i ∧ y = .str j ∧ i.length + j.length ≤ sizeLine ∧ Q (.str (i ++ j)) H) gAddS := by
  refine r2_flat fun F ρ H x y dx dy s Q bx bY e => ?_
  unfold gAddS at e
  cases dx <;> cases dy <;> first | (cases e; done) | skip
  rename_i i j
  cases bx.str
  cases bY.str
  by_cases hz : i.length + j.length ≤ 16777216
  · simp only [hz, if_true] at e
    cases e
    exact ⟨.str (toS i ++ toS j), fun q => ⟨_, _, rfl, rfl, by rw [toS_len, toS_len, line_eq]; exact hz, q⟩, _, rfl, fun _ _ => by rw [toS_app]; exact .str⟩
  · simp only [hz] at e; cases e
def rCatL (K : PySem.W.Frag) : R2 := fun x y H Q => ∃ a b xs zs, x = .ref a ∧ y = .ref b ∧ SqL K H a xs ∧ SqL K H b zs ∧ xs.length + zs.length ≤ sizeLine ∧ ∀ p, H p = none → Q (.ref p) (upd H p (.lst (xs ++ zs)))
theorem sum_lists {prog : Program} {w : World} {A : Around} {E : Value → Shared → Prop} {s : Shared} {l b : Addr} {u v : List Value} {Q : Value → Shared → Prop}
    (hl : s.heap.IsList l u.toArray) (hb : s.heap.IsList b v.toArray) (hz : u.length + v.length ≤ sizeLine)
    (h : Q (.ref s.heap.objs.size) { s with heap := s.heap.push { cls := .type "list", data := .seq (u ++ v).toArray } }) : wpAny (model prog w) A (binaryOp .Add (.ref l) (.ref b)) Q E s := by
  rcases hl with ⟨⟨k1, d1, t1, z1⟩, g1, y1, n1, x1⟩
  rcases hb with ⟨⟨k2, d2, t2, z2⟩, g2, y2, n2, x2⟩
  dsimp only at y1 x1 y2 x2
  cases y1; cases x1; cases y2; cases x2
  have hcat : (u ++ v).toArray = u.toArray ++ v.toArray := by simp
  rw [hcat] at h
  exact concat_meets ⟨_, g1, rfl⟩ ⟨_, g2, rfl⟩ noFill_list_add seq_list_add PySem.F.slot_list_add PySem.F.entry_list_add (PySem.F.args_list_add_2 _ _)
    (PyProof.Rows.list_addW l b u.toArray v.toArray n1 n2 d1 d2 z1 z2 (by simpa using hz)) ⟨g1, g2, h⟩
theorem o_cat : OpR X (binaryOp .Add) (rCatL X.K) := by
  intro pins s σ H x y v u Q I rx ry h
  obtain ⟨l, b, xs, zs, rfl, rfl, hl, hb, hz, q⟩ := h
  cases rx
  cases ry
  obtain ⟨ia, ra, pa, za⟩ := I.list hl
  obtain ⟨ib, rb, pb, zb⟩ := I.list hb
  refine sum_lists pa.isList pb.isList (by rw [← ra.length, ← rb.length]; exact hz) ?_
  exact ⟨.ref s.heap.objs.size, _, I.lnew (t' := s.toks) (ra.append rb) (by rw [List.length_append]; exact hz), rfl, q _ I.fresh⟩
theorem vr_newL {Z F : Hp} {ρ : List Addr} {μ : Mem} {δ : Loc} {σ : St} {H : Hp} {p : Addr} {vs : List V} {ds : List D} (S : Sim X.K X.mg Z F ρ μ δ σ H) (hp : H p = none) (r : RepL X.K X.mg F ρ vs ds) :
    Sim X.K X.mg Z F ρ μ δ σ (upd H p (.lst vs)) ∧ VR X.K X.mg Z F ρ δ σ (upd H p (.lst vs)) (.ref p) (.own (.lst ds)) := by
  obtain ⟨n1, n2, n3, n4⟩ := S.notIn hp
  exact ⟨S.laid hp, ⟨p, rfl, ⟨n1, n2, n3⟩, vs, upd_same, r⟩, fun o p z z2 => by cases z2; exact n4⟩
theorem vr_newT {Z F : Hp} {ρ : List Addr} {μ : Mem} {δ : Loc} {σ : St} {H : Hp} {p : Addr} {vs : List V} {ds : List D} (S : Sim X.K X.mg Z F ρ μ δ σ H) (hp : H p = none) (r : RepL X.K X.mg F ρ vs ds) :
    ∃ F', Le Z F F' ∧ Sim X.K X.mg Z F' ρ μ δ σ (upd H p (.tup vs)) ∧ VR X.K X.mg Z F' ρ δ σ (upd H p (.tup vs)) (.ref p) (.fr (.tup ds)) := by
  obtain ⟨n1, n2, n3, n4⟩ := S.notIn hp
  obtain ⟨l3, S3⟩ := (S.laid (o := .tup vs) hp).freeze (p := p) upd_same ⟨n1, n2, n3⟩ n4
  exact ⟨_, l3, S3, .tup (.inl (.inl upd_same)) (r.up l3.to fun _ _ h => h), fun o p z => by cases z⟩
theorem j_addL : R2J X (rCatL X.K) gAddL := by
  intro Z F ρ μ δ σ H x y dx dy s Q S bx bY e q
  unfold gAddL at e
  cases dx <;> cases dy <;> first | (cases e; done) | skip
  rename_i i j
  by_cases hz : i.length + j.length ≤ 16777216
  · simp only [hz, if_true] at e
    cases e
    obtain ⟨p1, v1, rfl, h1, r1⟩ := bx.lst S
    obtain ⟨p2, v2, rfl, h2, r2⟩ := bY.lst S
    refine ⟨p1, p2, v1, v2, rfl, rfl, .of h1, .of h2, by rw [r1.len, r2.len, line_eq]; exact hz, fun p hp => ?_⟩
    obtain ⟨S', vr⟩ := vr_newL S hp (r1.app r2)
    exact q _ _ F .refl S' vr
  · simp only [hz] at e; cases e
theorem j_addT : R2J X (rCatA X.K) gAddT := by
  intro Z F ρ μ δ σ H x y dx dy s Q S bx bY e q
  unfold gAddT at e
  cases dx <;> cases dy <;> first | (cases e; done) | skip
  rename_i i j
  by_cases hz : i.length + j.length ≤ 16777216
  · simp only [hz, if_true] at e
    cases e
    have b1 := bx.rep fun o e => by cases o <;> cases e
    have b2 := bY.rep fun o e => by cases o <;> cases e
    obtain ⟨p1, v1, rfl, h1, r1⟩ := bx.tup S
    obtain ⟨p2, v2, rfl, h2, r2⟩ := bY.tup S
    refine ⟨p1, p2, v1, v2, rfl, rfl, h1, h2, by rw [r1.len, r2.len, line_eq]; exact hz, fun z => ?_, fun _ z => ?_, fun _ _ p hp => ?_⟩
    · subst z
      cases r1
      exact q _ H F .refl S ⟨b2, fun o p z => by cases z⟩
    · subst z
      cases r2
      rw [List.append_nil] at q
      exact q _ H F .refl S ⟨b1, fun o p z => by cases z⟩
    · obtain ⟨F', l', S', vr⟩ := vr_newT S hp (r1.app r2)
      exact q _ _ F' l' S' vr
  · simp only [hz] at e; cases e
def gAdd : D → D → Option Slot := fun x y => (gInt (fun _ _ => true) (fun i j => .int (i + j)) x y).or ((gAddS x y).or ((gAddL x y).or (gAddT x y)))
abbrev rAddA (K : PySem.W.Frag) : R2 := fun x y H Q => rI0 (fun i j => .int (i + j)) x y H Q ∨ ((∃ i j, x = .str i ∧ y = .str j ∧ i.length + j.length ≤ sizeLine ∧ Q (.str (i ++ j)) H) ∨ (rCatL K x y H Q ∨ rCatA K x y H Q))
theorem o_add : OpR X (binaryOp .Add) (rAddA X.K) := op_add.or (op_add_str.or (o_cat.or op_catA))
theorem j_add : R2J X (rAddA X.K) gAdd := R2J.or r2_int0 (R2J.or j_addS (R2J.or j_addL j_addT))
def gRep : D → D → Option Slot
  | .lst x, .int k => if (decide (-(2 ^ 63) ≤ k) && decide (k < 2 ^ 63) && decide (x.length * k.toNat ≤ 16777216)) = true then some (.own (.lst (List.replicate k.toNat x).flatten)) else none
  | _, _ => none
theorem j_rep : R2J X rRep gRep := by
  intro Z F ρ μ δ σ H x y dx dy s Q S bx bY e q
  unfold gRep at e
  cases dx <;> cases dy <;> first | (cases e; done) | skip
  rename_i xs k
  cases bY.int
  by_cases hz : (decide (-(2 ^ 63) ≤ k) && decide (k < 2 ^ 63) && decide (xs.length * k.toNat ≤ 16777216)) = true
  · simp only [hz, if_true] at e
    cases e
    obtain ⟨p1, v1, rfl, h1, r1⟩ := bx.lst S
    have h' := Bool.and_eq_true_iff.mp hz
    have h2 := Bool.and_eq_true_iff.mp h'.1
    refine ⟨p1, k, v1, rfl, rfl, h1, of_decide_eq_true h2.1, of_decide_eq_true h2.2, by rw [r1.len, line_eq]; exact of_decide_eq_true h'.2, fun p hp => ?_⟩
    obtain ⟨S', vr⟩ := vr_newL S hp (r1.rep k.toNat)
    exact q _ _ F .refl S' vr
  · simp only [hz] at e; cases e
abbrev tb (b : Bool) : Slot := .fr (.bl b)
abbrev gLeI : D → D → Option Slot := gInt (fun _ _ => true) fun i j => .bl (decide (i ≤ j))
abbrev gGtI : D → D → Option Slot := gInt (fun _ _ => true) fun i j => .bl (decide (j < i))
abbrev gGeI : D → D → Option Slot := gInt (fun _ _ => true) fun i j => .bl (decide (j ≤ i))
def gTx (f : Tx → Tx → Bool) : D → D → Option Slot
  | .str x, .str y => some (tb (f x y))
  | _, _ => none
theorem r2_tx {f : List Nat → List Nat → Bool} : R2J X (fun x y H Q => ∃ i j, x = .str i ∧ y = .str j ∧ Q (.bl (f i.cps.toList j.cps.toList)) H) (gTx f) := by
  refine r2_flat fun F ρ H x y dx dy s Q bx bY e => ?_
  unfold gTx at e
  cases dx <;> cases dy <;> first | (cases e; done) | skip
  cases bx.str
  cases bY.str
  cases e
  exact ⟨.bl _, fun q => ⟨_, _, rfl, rfl, q⟩, _, rfl, fun _ _ => .bl⟩
def gLe : D → D → Option Slot := fun x y => (gLeI x y).or (gTx (fun x y => !decide (y < x)) x y)
def gGt : D → D → Option Slot := fun x y => (gGtI x y).or (gTx (fun x y => decide (y < x)) x y)
def gGe : D → D → Option Slot := fun x y => (gGeI x y).or (gTx (fun x y => !decide (x < y)) x y)
abbrev rLeA : R2 := fun x y H Q => rI0 (fun i j => .bl (decide (i ≤ j))) x y H Q ∨ ∃ i j, x = .str i ∧ y = .str j ∧ Q (.bl (!decide (j.cps.toList < i.cps.toList))) H
abbrev rGtA : R2 := fun x y H Q => rI0 (fun i j => .bl (decide (j < i))) x y H Q ∨ ∃ i j, x = .str i ∧ y = .str j ∧ Q (.bl (decide (j.cps.toList < i.cps.toList))) H
abbrev rGeA : R2 := fun x y H Q => rI0 (fun i j => .bl (decide (j ≤ i))) x y H Q ∨ ∃ i j, x = .str i ∧ y = .str j ∧ Q (.bl (!decide (i.cps.toList < j.cps.toList))) H
theorem o_le : OpR X (compareOp .LtE) rLeA := op_le.or op_le_str
theorem o_gt : OpR X (compareOp .Gt) rGtA := op_gt.or op_gt_str
theorem o_ge : OpR X (compareOp .GtE) rGeA := op_ge.or op_ge_str
theorem j_le : R2J X rLeA gLe := R2J.or r2_intB (r2_tx (f := fun x y => !decide (y < x)))
theorem j_gt : R2J X rGtA gGt := R2J.or r2_intB (r2_tx (f := fun x y => decide (y < x)))
theorem j_ge : R2J X rGeA gGe := R2J.or r2_intB (r2_tx (f := fun x y => !decide (x < y)))
def eqS : D → D → Option Bool
  | .int i, .int j => some (decide (i = j))
  | .str x, .str y => some (decide (x = y))
  | .bl a, .bl b => some (decide (a = b))
  | .non, .non => some true
  | .non, .int _ | .int _, .non | .non, .bl _ | .bl _, .non | .non, .str _ | .str _, .non | .int _, .str _ | .str _, .int _ | .bl _, .str _ | .str _, .bl _ => some false
  | _, _ => none
def eqP (x y : D) : Option Bool := match D.py x, D.py y with
  | some a, some b => if SeqAt.shaped a && SeqAt.shaped b then some (PyData.eqv a b) else none
  | _, _ => none
def gEq (neg : Bool) : D → D → Option Slot := fun x y => ((eqS x y).map fun b => tb (b != neg)).or ((eqP x y).map fun b => tb (b != neg))
abbrev rEqA (K : PySem.W.Frag) : R2 := fun x y H Q => rEq x y H Q ∨ rEqD K x y H Q
abbrev rNeA (K : PySem.W.Frag) : R2 := fun x y H Q => rNe x y H Q ∨ rNeD K x y H Q
theorem o_eq (hu : X.A.units + 64 < cLine) : OpR X (compareOp .Eq) (rEqA X.K) := op_eq.or (op_eqD hu)
theorem o_ne (hu : X.A.units + 64 < cLine) : OpR X (compareOp .NotEq) (rNeA X.K) := op_ne.or (op_neD hu)
mutual
theorem Rep.dp {K : PySem.W.Frag} {mg : Str → Option Value} {F H : Hp} {ρ : List Addr} (l : ∀ p u, Rd F p u → Rd H p u) : ∀ {v : V} {d : D} {q : PyData}, Rep K mg F ρ v d → D.py d = some q → Dp K H v q
  | _, _, _, .non, e => by simp only [D.py] at e; cases e; exact .non
  | _, _, _, .bl, e => by simp only [D.py] at e; cases e; exact .bl _
  | _, _, _, .int, e => by simp only [D.py] at e; cases e; exact .int _
  | _, _, _, .str, e => by simp only [D.py] at e; cases e; exact .str _
  | _, _, _, .lst h r, e => by
    simp only [D.py] at e
    obtain ⟨qs, e1, e2⟩ := Option.map_eq_some_iff.mp e
    subst e2
    exact .lst (.inl (l _ _ (.inl h))) (RepL.dp l r e1)
  | _, _, _, .ro h r, e => by
    simp only [D.py] at e
    obtain ⟨qs, e1, e2⟩ := Option.map_eq_some_iff.mp e
    subst e2
    exact .lst (h.elim (fun h => .inl (l _ _ h)) .inr) (RepL.dp l r e1)
  | _, _, _, .tup h r, e => by
    simp only [D.py] at e
    obtain ⟨qs, e1, e2⟩ := Option.map_eq_some_iff.mp e
    subst e2
    exact .tup (h.elim (fun h => .inl (l _ _ h)) .inr) (RepL.dp l r e1)
  | _, _, _, .dct _ _ _, e => by simp only [D.py] at e; cases e
  | _, _, _, .obj _, e => by simp only [D.py] at e; cases e
  | _, _, _, .glo _ _, e => by simp only [D.py] at e; cases e
  | _, _, _, .ty, e => by simp only [D.py] at e; cases e
  | _, _, _, .exn _ _ _ _, e => by simp only [D.py] at e; cases e
theorem RepL.dp {K : PySem.W.Frag} {mg : Str → Option Value} {F H : Hp} {ρ : List Addr} (l : ∀ p u, Rd F p u → Rd H p u) : ∀ {vs : List V} {ds : List D} {qs : List PyData}, RepL K mg F ρ vs ds → D.pys ds = some qs → DpAll K H vs qs
  | _, _, _, .nil, e => by simp only [D.pys] at e; cases e; exact .nil
  | _, _, _, .cons (d := d) (ds := ds) h t, e => by
    simp only [D.pys] at e
    cases e1 : D.py d with
    | none => simp only [e1] at e; cases e
    | some a =>
      cases e2 : D.pys ds with
      | none => simp only [e1, e2] at e; cases e
      | some r =>
        simp only [e1, e2] at e
        cases e
        exact .cons (Rep.dp l h e1) (RepL.dp l t e2)
end
theorem Bor.dp {Z F H : Hp} {ρ : List Addr} {μ : Mem} {δ : Loc} {σ : St} {v : V} {d : D} {q : PyData} (S : Sim X.K X.mg Z F ρ μ δ σ H) (h : Bor X.K X.mg F ρ H v d) (e : D.py d = some q) : Dp X.K H v q := by
  cases h with
  | fr h => exact h.dp (fun _ _ => S.rd) e
  | @own p o h =>
    cases o with
    | dct ks vs => simp only [Own.d, D.py] at e; cases e
    | tab P q => simp only [Own.d, D.py] at e; cases e
    | ins c kd ks xs => simp only [Own.d, D.py] at e; cases e
    | idc k => simp only [Own.d, D.py] at e; cases e
    | lst xs =>
      simp only [Own.d, D.py] at e
      obtain ⟨qs, e1, e2⟩ := Option.map_eq_some_iff.mp e
      subst e2
      obtain ⟨vs, eh, r⟩ := h
      exact .lst (.inl (.inl eh)) (r.dp (fun _ _ => S.rd) e1)
theorem eqS_V {F H : Hp} {ρ : List Addr} {x y : V} {dx dy : D} {b : Bool} (bx : Bor X.K X.mg F ρ H x dx) (bY : Bor X.K X.mg F ρ H y dy) (e : eqS dx dy = some b) : scal x y = true ∧ decide (x = y) = b := by
  unfold eqS at e
  cases dx <;> cases dy <;> first | (cases e; done) | skip
  all_goals cases e
  all_goals first
    | (cases bx.non; cases bY.non; exact ⟨rfl, rfl⟩)
    | (cases bx.non; cases bY.bl; exact ⟨rfl, rfl⟩)
    | (cases bx.bl; cases bY.non; exact ⟨rfl, rfl⟩)
    | (cases bx.non; cases bY.int; exact ⟨rfl, rfl⟩)
    | (cases bx.int; cases bY.non; exact ⟨rfl, rfl⟩)
    | (cases bx.non; cases bY.str; exact ⟨rfl, rfl⟩)
    | (cases bx.str; cases bY.non; exact ⟨rfl, rfl⟩)
    | (cases bx.int; cases bY.str; exact ⟨rfl, rfl⟩)
    | (cases bx.str; cases bY.int; exact ⟨rfl, rfl⟩)
    | (cases bx.bl; cases bY.str; exact ⟨rfl, rfl⟩)
    | (cases bx.str; cases bY.bl; exact ⟨rfl, rfl⟩)
    | (cases bx.bl; cases bY.bl; exact ⟨rfl, by simp⟩)
    | (cases bx.int; cases bY.int; exact ⟨rfl, by simp⟩)
    | (cases bx.str; cases bY.str
       refine ⟨rfl, ?_⟩
       rename_i i j
       by_cases q : i = j
       · subst q; simp
       · have n : ¬ (V.str (toS i) = V.str (toS j)) := fun z => q (toS_inj (by injection z))
         rw [decide_eq_false n, decide_eq_false q])
theorem j_eqN (neg : Bool) : R2J X (fun x y H Q => scal x y = true ∧ Q (.bl (decide (x = y) != neg)) H) (fun x y => (eqS x y).map fun b => tb (b != neg)) := by
  refine r2_flat fun F ρ H x y dx dy s Q bx bY e => ?_
  obtain ⟨b, e1, e2⟩ := Option.map_eq_some_iff.mp e
  obtain ⟨h1, h2⟩ := eqS_V bx bY e1
  subst e2 h2
  exact ⟨_, fun q => ⟨h1, q⟩, _, rfl, fun _ _ => .bl⟩
theorem j_eqD (neg : Bool) : R2J X (fun x y H Q => ∃ d e, Dp X.K H x d ∧ Dp X.K H y e ∧ SeqAt.shaped d = true ∧ SeqAt.shaped e = true ∧ Q (.bl (PyData.eqv d e != neg)) H) (fun x y => (eqP x y).map fun b => tb (b != neg)) := by
  intro Z F ρ μ δ σ H x y dx dy s Q S bx bY e q
  obtain ⟨b, e1, e2⟩ := Option.map_eq_some_iff.mp e
  subst e2
  unfold eqP at e1
  cases p1 : D.py dx with
  | none => simp only [p1] at e1; cases e1
  | some a =>
    cases p2 : D.py dy with
    | none => simp only [p1, p2] at e1; cases e1
    | some c =>
      simp only [p1, p2] at e1
      by_cases hs : (SeqAt.shaped a && SeqAt.shaped c) = true
      · rw [if_pos hs] at e1
        cases e1
        have hs' := Bool.and_eq_true_iff.mp hs
        exact ⟨a, c, bx.dp S p1, bY.dp S p2, hs'.1, hs'.2, q _ H F .refl S .bl⟩
      · rw [if_neg hs] at e1; cases e1
theorem j_eq : R2J X (rEqA X.K) (gEq false) := by
  have h := R2J.or (j_eqN (X := X) false) (j_eqD false)
  have e : gEq false = fun x y => ((eqS x y).map fun b => tb b).or ((eqP x y).map fun b => tb b) := by
    funext x y; unfold gEq; simp only [Bool.bne_false]
  rw [e]
  simp only [Bool.bne_false] at h
  exact h
theorem j_ne : R2J X (rNeA X.K) (gEq true) := by
  have h := R2J.or (j_eqN (X := X) true) (j_eqD true)
  have e : gEq true = fun x y => ((eqS x y).map fun b => tb (!b)).or ((eqP x y).map fun b => tb (!b)) := by
    funext x y; unfold gEq; simp only [Bool.bne_true]
  rw [e]
  simp only [Bool.bne_true] at h
  exact h
def gIsN (neg : Bool) : D → D → Option Slot
  | .non, .non => some (tb (true != neg))
  | .glo _, .non => none
  | _, .non => some (tb (false != neg))
  | _, _ => none
theorem isN_V {F H : Hp} {ρ : List Addr} {x : V} {dx : D} (bx : Bor X.K X.mg F ρ H x dx) (ng : ∀ g, dx ≠ .glo g) : decide (x = V.non) = match dx with | .non => true | _ => false := by
  cases bx with
  | fr h => cases h <;> first | rfl | exact absurd rfl (ng _)
  | @own p o h => cases o <;> rfl
theorem j_isN (neg : Bool) : R2J X (fun x y H Q => y = V.non ∧ Q (.bl (decide (x = .non) != neg)) H) (gIsN neg) := by
  refine r2_flat fun F ρ H x y dx dy s Q bx bY e => ?_
  unfold gIsN at e
  cases dy <;> first | (cases dx <;> cases e; done) | skip
  cases bY.non
  cases dx <;> first | (cases e; done) | skip
  all_goals
    have h := isN_V bx (fun g z => by cases z)
    cases e
    rw [h]
    exact ⟨_, fun q => ⟨rfl, q⟩, _, rfl, fun _ _ => .bl⟩
theorem o_isN : OpR X (compareOp .Is) (fun x y H Q => y = V.non ∧ Q (.bl (decide (x = .non) != false)) H) := by simpa only [Bool.bne_false] using op_isN (X := X)
theorem o_notN : OpR X (compareOp .IsNot) (fun x y H Q => y = V.non ∧ Q (.bl (decide (x = .non) != true)) H) := by simpa only [Bool.bne_true] using op_notN (X := X)
def gInS (neg : Bool) : D → D → Option Slot
  | .str [c], .str y => some (tb (decide (c ∈ y) != neg))
  | _, _ => none
theorem j_inS (neg : Bool) : R2J X (fun x y H Q => ∃ (c : Nat) (z : Str), x = .str ⟨#[c]⟩ ∧ y = .str z ∧ Q (.bl (decide (c ∈ z.cps.toList) != neg)) H) (gInS neg) := by
  refine r2_flat fun F ρ H x y dx dy s Q bx bY e => ?_
  unfold gInS at e
  cases dx <;> first | (cases e; done) | skip
  rename_i xs
  cases xs with
  | nil => cases e
  | cons c r =>
    cases r with
    | cons _ _ => cases e
    | nil =>
      cases dy <;> first | (cases e; done) | skip
      cases bx.str
      cases bY.str
      cases e
      exact ⟨_, fun q => ⟨c, _, rfl, rfl, q⟩, _, rfl, fun _ _ => .bl⟩
def D.fv : D → Option V
  | .non => some .non
  | .bl b => some (.bl b)
  | .int i => some (.int i)
  | .str x => some (.str (toS x))
  | _ => none
def fvs : List D → Option (List V)
  | [] => some []
  | x :: xs => match D.fv x, fvs xs with
    | some a, some r => some (a :: r)
    | _, _ => none
def gInL (neg : Bool) : D → D → Option Slot := fun x y => match D.fv x, (match y with | .lst ys => fvs ys | .tup ys => fvs ys | _ => none) with
  | some a, some vs => some (tb (inV a vs != neg))
  | _, _ => none
theorem Bor.fv {F H : Hp} {ρ : List Addr} {x w : V} {d : D} (h : Bor X.K X.mg F ρ H x d) (e : D.fv d = some w) : x = w ∧ flatV w = true := by
  cases d <;> first | (cases e; done) | skip
  · cases e; exact ⟨h.non, rfl⟩
  · cases e; exact ⟨h.bl, rfl⟩
  · cases e; exact ⟨h.int, rfl⟩
  · cases e; exact ⟨h.str, rfl⟩
theorem RepL.fvs {F : Hp} {ρ : List Addr} : ∀ {vs ws : List V} {ds : List D}, RepL X.K X.mg F ρ vs ds → fvs ds = some ws → vs = ws ∧ ws.all flatV = true := by
  intro vs ws ds
  induction ds generalizing vs ws with
  | nil => intro h e; cases h; cases e; exact ⟨rfl, rfl⟩
  | cons d ds ih =>
    intro h e
    cases h with
    | cons h t =>
      unfold FL.fvs at e
      cases e1 : D.fv d with
      | none => simp only [e1] at e; cases e
      | some a =>
        cases e2 : FL.fvs ds with
        | none => simp only [e1, e2] at e; cases e
        | some r =>
          simp only [e1, e2] at e
          cases e
          obtain ⟨h1, h2⟩ := ih t e2
          obtain ⟨h3, h4⟩ := Bor.fv (X := X) (H := F) (.fr h) e1
          exact ⟨by rw [h1, h3], by rw [List.all_cons, h4, h2]; rfl⟩
theorem j_inL (neg : Bool) : R2J X (rIn X.K neg) (gInL neg) := by
  intro Z F ρ μ δ σ H x y dx dy s Q S bx bY e q
  unfold gInL at e
  cases e1 : D.fv dx with
  | none => simp only [e1] at e; cases e
  | some a =>
    obtain ⟨rfl, fa⟩ := bx.fv e1
    have fin : ∀ {vs : List V} {ds : List D} {ws : List V}, RepL X.K X.mg F ρ vs ds → fvs ds = some ws → s = tb (inV x ws != neg) → x = x → ∀ p, y = .ref p → (SqL X.K H p vs ∨ SqT X.K H p vs) → rIn X.K neg x y H Q := by
      intro vs ds ws r e2 es _ p ey hq
      obtain ⟨rfl, f2⟩ := r.fvs e2
      refine ⟨p, vs, ey, hq, fa, f2, ?_⟩
      have qq := q (.bl (inV x vs != neg)) H F .refl S (by rw [es]; exact .bl)
      cases neg with
      | true => rw [if_pos rfl]; simpa only [Bool.bne_true] using qq
      | false => rw [if_neg Bool.false_ne_true]; simpa only [Bool.bne_false] using qq
    cases dy <;> first | (simp only [e1] at e; cases e; done) | skip
    · rename_i ys
      cases e2 : fvs ys with
      | none => simp only [e1, e2] at e; cases e
      | some ws =>
        simp only [e1, e2] at e
        obtain ⟨p, vs, ey, hl, r⟩ := bY.lst S
        exact fin r e2 (by injection e with e; exact e.symm) rfl p ey (.inl (.of hl))
    · rename_i ys
      cases e2 : fvs ys with
      | none => simp only [e1, e2] at e; cases e
      | some ws =>
        simp only [e1, e2] at e
        obtain ⟨p, vs, ey, hl, r⟩ := bY.tup S
        exact fin r e2 (by injection e with e; exact e.symm) rfl p ey (.inr hl)
def gIn (neg : Bool) : D → D → Option Slot := fun x y => (gInS neg x y).or (gInL neg x y)
abbrev rInA (K : PySem.W.Frag) (neg : Bool) : R2 := fun x y H Q => (∃ (c : Nat) (z : Str), x = .str ⟨#[c]⟩ ∧ y = .str z ∧ Q (.bl (decide (c ∈ z.cps.toList) != neg)) H) ∨ rIn K neg x y H Q
theorem o_in : OpR X (compareOp .In) (rInA X.K false) := OpR.or (by simpa only [Bool.bne_false] using op_in_sign (X := X)) op_in_seq
theorem o_nin : OpR X (compareOp .NotIn) (rInA X.K true) := OpR.or (by simpa only [Bool.bne_true] using op_notIn_sign (X := X)) op_notIn_seq
theorem j_in (neg : Bool) : R2J X (rInA X.K neg) (gIn neg) := R2J.or (j_inS neg) (j_inL neg)
def gIxL : D → D → Option Slot
  | .lst x, .int i => (atI x i).map .fr
  | .tup x, .int i => (atI x i).map .fr
  | .ro x, .int i => (atI x i).map .fr
  | .str x, .int i => if x.length ≤ 16777216 then (atI x i).map fun c => .fr (.str [c]) else none
  | _, _ => none
theorem RepL.atI {F : Hp} {ρ : List Addr} {vs : List V} {ds : List D} {i : Int} {d : D} (r : RepL X.K X.mg F ρ vs ds) (e : L2.atI ds i = some d) : ∃ v, L2.atI vs i = some v ∧ Rep X.K X.mg F ρ v d := by
  unfold L2.atI at e ⊢
  rw [r.len]
  cases h : ixN ds.length i with
  | none => rw [h] at e; cases e
  | some j =>
    rw [h] at e
    exact r.get e
theorem j_ix : R2J X (rIx X.K) gIxL := by
  intro Z F ρ μ δ σ H x y dx dy s Q S bx bY e q
  unfold gIxL at e
  cases dx <;> cases dy <;> first | (cases e; done) | skip
  · rename_i x i
    cases bx.str
    cases bY.int
    by_cases hz : x.length ≤ 16777216
    · simp only [hz, if_true] at e
      obtain ⟨c, e1, e2⟩ := Option.map_eq_some_iff.mp e
      subst e2
      exact .inr (.inr ⟨_, _, c, rfl, rfl, by rw [toS_len, line_eq]; exact hz, e1, q _ H F .refl S ⟨Rep.str (x := [c]), fun o p z => by cases z⟩⟩)
    · simp only [hz] at e; cases e
  · rename_i x i
    obtain ⟨d, e1, e2⟩ := Option.map_eq_some_iff.mp e
    subst e2
    cases bY.int
    obtain ⟨p, vs, rfl, hl, r⟩ := bx.lst S
    obtain ⟨v, ev, rv⟩ := r.atI e1
    exact .inl ⟨p, vs, _, v, rfl, rfl, .of hl, ev, q _ H F .refl S ⟨rv, fun o p z => by cases z⟩⟩
  · rename_i x i
    obtain ⟨d, e1, e2⟩ := Option.map_eq_some_iff.mp e
    subst e2
    cases bY.int
    obtain ⟨p, vs, rfl, hl, r⟩ := bx.tup S
    obtain ⟨v, ev, rv⟩ := r.atI e1
    exact .inr (.inl ⟨p, vs, _, v, rfl, rfl, hl, ev, q _ H F .refl S ⟨rv, fun o p z => by cases z⟩⟩)
  · rename_i x i
    obtain ⟨d, e1, e2⟩ := Option.map_eq_some_iff.mp e
    subst e2
    cases bY.int
    obtain ⟨p, vs, rfl, hl, r⟩ := bx.ro S
    obtain ⟨v, ev, rv⟩ := r.atI e1
    exact .inl ⟨p, vs, _, v, rfl, rfl, hl, ev, q _ H F .refl S ⟨rv, fun o p z => by cases z⟩⟩
end
end FL
namespace FL
open PySem L2
section
variable {X : Cx} {W : WX} {e a b o : Expr} {es : List Expr} {pos p apos : Pos}
def RLJ (X : Cx) (r : List V → Hp → VK → Prop) (g : List D → Option Slot) : Prop := ∀ Z F ρ μ δ σ H xs ds s Q, Sim X.K X.mg Z F ρ μ δ σ H → BorL X.K X.mg F ρ H xs ds → g ds = some s →
  (∀ v H' F', Le Z F F' → Sim X.K X.mg Z F' ρ μ δ σ H' → VR X.K X.mg Z F' ρ δ σ H' v s → Q v H') → r xs H Q
def mC (g : List D → Option Slot) (os : List Opn) : ME := fun δ μ => (evs os δ μ).bind fun rs δ1 μ1 => match OR.ats δ1 μ1 rs with
  | some ds => lift (g ds) δ1 μ1
  | none => .bad
theorem mC_read {r : List V → Hp → VK → Prop} {g : List D → Option Slot} {os : List Opn} (hr : RLJ X r g) : ∀ σ H Q, rdE X W (mC g os) σ H Q → tCB r (rdOs X W os) σ H Q := by
  intro σ H Q ⟨Z, F, ρ, μ, δ, S, q⟩
  refine ⟨Z, F, ρ, μ, δ, S, (FinE.bind q).imp fun rs δ1 μ1 H1 F1 ρ1 l lr S1 ⟨_, _, _, p⟩ xs hx => ?_⟩
  cases ea : OR.ats δ1 μ1 rs with
  | none => simp only [ea] at p; exact p.elim
  | some ds =>
    simp only [ea] at p
    unfold lift at p
    cases eg : g ds with
    | none => simp only [eg] at p; exact p.elim
    | some s =>
      simp only [eg] at p
      exact hr Z F1 ρ1 μ1 δ1 σ H1 xs ds s Q S1 (hx.bor S1 ea) eg fun v H' F' l' S' vr => p H' F' ρ1 l' .refl S' v vr
theorem je_callB {x : Str} {id : String} {r : List V → Hp → VK → Prop} {g : List D → Option Slot} {os : List Opn} (hc : CallR X (.builtin id) r) (hr : RLJ X r g) (hg : Gl X x) (hm : X.mg x = none) (hv : bootBuiltins x = some (.builtin id)) (ha : JOs X W (e :: es) os)
    (hn : x ≠ "__name__" := by decide) (hdb : (x == ("__debug__" : Str)) = false := by decide)
    (he : starEach (e :: es) X.env = (false, eval e X.env) :: starEach es X.env := by rfl) (hpl : (backTo pos (starEach es X.env)).any (·.1) = false := by rfl) : JE X W (.Call (.Name x p) (e :: es) [] pos) (mC g os) :=
  (pe_callB hc hg hm hv ha hn hdb he hpl).imp (mC_read hr)
theorem je_callTy {x : Str} {T : String} {r : List V → Hp → VK → Prop} {g : List D → Option Slot} {os : List Opn} (hc : CallR X (.type T) r) (hr : RLJ X r g) (hg : Gl X x) (hm : X.mg x = none) (hv : bootBuiltins x = some (.type T)) (ha : JOs X W (e :: es) os)
    (hn : x ≠ "__name__" := by decide) (hdb : (x == ("__debug__" : Str)) = false := by decide)
    (he : starEach (e :: es) X.env = (false, eval e X.env) :: starEach es X.env := by rfl) (hpl : (backTo pos (starEach es X.env)).any (·.1) = false := by rfl) : JE X W (.Call (.Name x p) (e :: es) [] pos) (mC g os) :=
  (pe_callTy hc hg hm hv ha hn hdb he hpl).imp (mC_read hr)
theorem RLJ.or {r r' : List V → Hp → VK → Prop} {g g' : List D → Option Slot} (h : RLJ X r g) (h' : RLJ X r' g') : RLJ X (fun x H Q => r x H Q ∨ r' x H Q) (fun x => (g x).or (g' x)) := by
  intro Z F ρ μ δ σ H xs ds s Q S b e q
  have e : (g ds).or (g' ds) = some s := e
  cases eg : g ds with
  | some s' => rw [eg] at e; exact .inl (h Z F ρ μ δ σ H xs ds s Q S b (by rw [eg]; exact e) q)
  | none => rw [eg] at e; exact .inr (h' Z F ρ μ δ σ H xs ds s Q S b e q)
theorem BorL.one {F H : Hp} {ρ : List Addr} {xs : List V} {d : D} (h : BorL X.K X.mg F ρ H xs [d]) : ∃ v, xs = [v] ∧ Bor X.K X.mg F ρ H v d := by
  cases h with
  | cons h t => cases t; exact ⟨_, rfl, h⟩
theorem BorL.two {F H : Hp} {ρ : List Addr} {xs : List V} {d d' : D} (h : BorL X.K X.mg F ρ H xs [d, d']) : ∃ v w, xs = [v, w] ∧ Bor X.K X.mg F ρ H v d ∧ Bor X.K X.mg F ρ H w d' := by
  cases h with
  | cons h t => obtain ⟨w, rfl, h'⟩ := t.one; exact ⟨_, w, rfl, h, h'⟩
theorem rl1_flat {r : List V → Hp → VK → Prop} {g : D → Option Slot} (h : ∀ Z F ρ μ δ σ H x dx s Q, Sim X.K X.mg Z F ρ μ δ σ H → Bor X.K X.mg F ρ H x dx → g dx = some s → ∃ v, (Q v H → r [x] H Q) ∧ ∃ d, s = .fr d ∧ Rep X.K X.mg F ρ v d) :
    RLJ X r (fun ds => match ds with | [d] => g d | _ => none) := by
  intro Z F ρ μ δ σ H xs ds s Q S b e q
  cases ds with
  | nil => cases e
  | cons d r' =>
    cases r' with
    | cons _ _ => cases e
    | nil =>
      obtain ⟨v, rfl, hb⟩ := b.one
      obtain ⟨w, h1, d', rfl, h2⟩ := h Z F ρ μ δ σ H v d s Q S hb e
      exact h1 (q w H F .refl S ⟨h2, fun o p z => by cases z⟩)
def gLen1 : D → Option Slot
  | .str x => if x.length ≤ 16777216 then some (.fr (.int x.length)) else none
  | .lst x => some (.fr (.int x.length))
  | .tup x => some (.fr (.int x.length))
  | .ro x => some (.fr (.int x.length))
  | _ => none
def gLen : List D → Option Slot := fun ds => match ds with
  | [d] => gLen1 d
  | _ => none
abbrev rLen (K : PySem.W.Frag) : List V → Hp → VK → Prop := fun xs H Q => ∃ x n, xs = [x] ∧ LenV K x H n ∧ Q (.int n) H
theorem j_len : RLJ X (rLen X.K) gLen := rl1_flat fun Z F ρ μ δ σ H x dx s Q S b e => by
  unfold gLen1 at e
  cases dx <;> first | (cases e; done) | skip
  · rename_i t
    cases b.str
    by_cases hz : t.length ≤ 16777216
    · simp only [hz, if_true] at e
      cases e
      exact ⟨.int (toS t).length, fun q => ⟨_, _, rfl, ⟨by rw [toS_len, line_eq]; exact hz, rfl⟩, q⟩, _, rfl, by rw [toS_len]; exact .int⟩
    · simp only [hz] at e; cases e
  · cases e
    obtain ⟨p, vs, rfl, h, r⟩ := b.lst S
    exact ⟨.int vs.length, fun q => ⟨_, _, rfl, .inl ⟨vs, .of h, rfl⟩, q⟩, _, rfl, by rw [r.len]; exact .int⟩
  · cases e
    obtain ⟨p, vs, rfl, h, r⟩ := b.tup S
    exact ⟨.int vs.length, fun q => ⟨_, _, rfl, .inr ⟨vs, h, rfl⟩, q⟩, _, rfl, by rw [r.len]; exact .int⟩
  · cases e
    obtain ⟨p, vs, rfl, h, r⟩ := b.ro S
    exact ⟨.int vs.length, fun q => ⟨_, _, rfl, .inl ⟨vs, h, rfl⟩, q⟩, _, rfl, by rw [r.len]; exact .int⟩
theorem o_len : CallR X (.builtin "len") (rLen X.K) := call_len
def gMax2 : List D → Option Slot
  | [.int i, .int j] => some (.fr (.int (if j > i then j else i)))
  | _ => none
def gMin2 : List D → Option Slot
  | [.int i, .int j] => some (.fr (.int (if j < i then j else i)))
  | _ => none
theorem rl_ii {f : Int → Int → Int} {g : List D → Option Slot} (hg : ∀ ds s, g ds = some s → ∃ i j, ds = [.int i, .int j] ∧ s = .fr (.int (f i j))) : RLJ X (fun xs H Q => ∃ i j, xs = [.int i, .int j] ∧ Q (.int (f i j)) H) g := by
  intro Z F ρ μ δ σ H xs ds s Q S b e q
  obtain ⟨i, j, rfl, rfl⟩ := hg ds s e
  obtain ⟨v, w, rfl, h1, h2⟩ := b.two
  cases h1.int
  cases h2.int
  exact ⟨i, j, rfl, q _ H F .refl S ⟨.int, fun o p z => by cases z⟩⟩
theorem j_max2 : RLJ X (fun xs H Q => ∃ i j, xs = [V.int i, V.int j] ∧ Q (.int (if j > i then j else i)) H) gMax2 := rl_ii (f := fun i j => if j > i then j else i) fun ds s e => by
  unfold gMax2 at e
  split at e
  · cases e; exact ⟨_, _, rfl, rfl⟩
  · cases e
theorem j_min2 : RLJ X (fun xs H Q => ∃ i j, xs = [V.int i, V.int j] ∧ Q (.int (if j < i then j else i)) H) gMin2 := rl_ii (f := fun i j => if j < i then j else i) fun ds s e => by
  unfold gMin2 at e
  split at e
  · cases e; exact ⟨_, _, rfl, rfl⟩
  · cases e
def intsD : List D → Option (List Int)
  | [] => some []
  | .int i :: r => (intsD r).map (i :: ·)
  | _ :: _ => none
theorem intsD_map : ∀ {ds : List D} {ns : List Int}, intsD ds = some ns → ds = ns.map .int
  | [], ns, e => by cases e; rfl
  | d :: r, ns, e => by
    cases d <;> first | (cases e; done) | skip
    rename_i i
    unfold intsD at e
    obtain ⟨m, e1, e2⟩ := Option.map_eq_some_iff.mp e
    subst e2
    rw [intsD_map e1]; rfl
theorem intsD_of : ∀ ns : List Int, intsD (ns.map .int) = some ns
  | [] => rfl
  | n :: ns => by show (intsD (ns.map D.int)).map (n :: ·) = _; rw [intsD_of ns]; rfl
def gSum : List D → Option Slot := fun ds => match ds with
  | [d] => match d with
    | .lst xs => (intsD xs).map fun ns => .fr (.int ns.sum)
    | _ => none
  | _ => none
theorem j_sum : RLJ X (rSum X.K) gSum :=
  rl1_flat (g := fun d => match d with | .lst xs => (intsD xs).map fun ns => .fr (.int ns.sum) | _ => none) fun Z F ρ μ δ σ H x dx s Q S b e => by
    cases dx <;> first | (cases e; done) | skip
    obtain ⟨ns, e1, e2⟩ := Option.map_eq_some_iff.mp e
    subst e2
    obtain ⟨p, vs, rfl, h, r⟩ := b.lst S
    rw [intsD_map e1] at r
    have ev := r.ints
    subst ev
    exact ⟨_, fun q => ⟨p, ns, rfl, .of h, q⟩, _, rfl, .int⟩
def blsD : List D → Option (List Bool)
  | [] => some []
  | .bl i :: r => (blsD r).map (i :: ·)
  | _ :: _ => none
theorem blsD_map : ∀ {ds : List D} {ns : List Bool}, blsD ds = some ns → ds = ns.map .bl
  | [], ns, e => by cases e; rfl
  | d :: r, ns, e => by
    cases d <;> first | (cases e; done) | skip
    rename_i i
    unfold blsD at e
    obtain ⟨m, e1, e2⟩ := Option.map_eq_some_iff.mp e
    subst e2
    rw [blsD_map e1]; rfl
theorem blsD_of : ∀ ns : List Bool, blsD (ns.map .bl) = some ns
  | [] => rfl
  | n :: ns => by show (blsD (ns.map D.bl)).map (n :: ·) = _; rw [blsD_of ns]; rfl
def gAll : List D → Option Slot := fun ds => match ds with
  | [d] => match d with
    | .lst xs => (blsD xs).map fun ns => .fr (.bl (ns.all id))
    | _ => none
  | _ => none
theorem j_all : RLJ X (rAll X.K) gAll :=
  rl1_flat (g := fun d => match d with | .lst xs => (blsD xs).map fun ns => .fr (.bl (ns.all id)) | _ => none) fun Z F ρ μ δ σ H x dx s Q S b e => by
    cases dx <;> first | (cases e; done) | skip
    obtain ⟨ns, e1, e2⟩ := Option.map_eq_some_iff.mp e
    subst e2
    obtain ⟨p, vs, rfl, h, r⟩ := b.lst S
    rw [blsD_map e1] at r
    have ev := r.bls
    subst ev
    exact ⟨_, fun q => ⟨p, ns, rfl, .of h, q⟩, _, rfl, .bl⟩
def gList : List D → Option Slot
  | [.lst xs] => some (.own (.lst xs))
  | [.tup xs] => some (.own (.lst xs))
  | [.ro xs] => some (.own (.lst xs))
  | _ => none
abbrev rList (K : PySem.W.Frag) : List V → Hp → VK → Prop := fun xs H Q => ∃ p ys, xs = [.ref p] ∧ (SqL K H p ys ∨ SqT K H p ys) ∧ ∀ l, H l = none → Q (.ref l) (upd H l (.lst ys))
theorem j_list : RLJ X (rList X.K) gList := by
  intro Z F ρ μ δ σ H xs ds s Q S b e q
  unfold gList at e
  split at e
  · cases e
    obtain ⟨v, rfl, hb⟩ := b.one
    obtain ⟨p, vs, rfl, h, r⟩ := hb.lst S
    refine ⟨p, vs, rfl, .inl (.of h), fun l hl => ?_⟩
    obtain ⟨S', vr⟩ := vr_newL S hl r
    exact q _ _ F .refl S' vr
  · cases e
    obtain ⟨v, rfl, hb⟩ := b.one
    obtain ⟨p, vs, rfl, h, r⟩ := hb.tup S
    refine ⟨p, vs, rfl, .inr h, fun l hl => ?_⟩
    obtain ⟨S', vr⟩ := vr_newL S hl r
    exact q _ _ F .refl S' vr
  · cases e
    obtain ⟨v, rfl, hb⟩ := b.one
    obtain ⟨p, vs, rfl, h, r⟩ := hb.ro S
    refine ⟨p, vs, rfl, .inl h, fun l hl => ?_⟩
    obtain ⟨S', vr⟩ := vr_newL S hl r
    exact q _ _ F .refl S' vr
  · cases e
theorem o_list : CallR X (.type "list") (rList X.K) := call_list_of
def gTuple : List D → Option Slot
  | [.lst xs] => some (.fr (.tup xs))
  | [.tup xs] => some (.fr (.tup xs))
  | _ => none
abbrev rTuple (K : PySem.W.Frag) : List V → Hp → VK → Prop := fun xs H Q => ∃ p ys, xs = [.ref p] ∧ ((SqL K H p ys ∧ ∀ l, H l = none → Q (.ref l) (upd H l (.tup ys))) ∨ (SqT K H p ys ∧ Q (.ref p) H))
theorem j_tuple : RLJ X (rTuple X.K) gTuple := by
  intro Z F ρ μ δ σ H xs ds s Q S b e q
  unfold gTuple at e
  split at e
  · cases e
    obtain ⟨v, rfl, hb⟩ := b.one
    obtain ⟨p, vs, rfl, h, r⟩ := hb.lst S
    refine ⟨p, vs, rfl, .inl ⟨.of h, fun l hl => ?_⟩⟩
    obtain ⟨F', l', S', vr⟩ := vr_newT S hl r
    exact q _ _ F' l' S' vr
  · cases e
    obtain ⟨v, rfl, hb⟩ := b.one
    have rp := hb.rep fun o e => by cases o <;> cases e
    obtain ⟨p, vs, rfl, h, r⟩ := hb.tup S
    exact ⟨p, vs, rfl, .inr ⟨h, q _ H F .refl S ⟨rp, fun o p z => by cases z⟩⟩⟩
  · cases e
theorem o_tuple : CallR X (.type "tuple") (rTuple X.K) := call_tuple_of
def tyN : D → Option String
  | .non => some "NoneType"
  | .bl _ => some "bool"
  | .int _ => some "int"
  | .str _ => some "str"
  | .lst _ => some "list"
  | .tup _ => some "tuple"
  | .dct _ _ => some "dict"
  | _ => none
def gIsi : List D → Option Slot
  | [d, .ty T] => match tyN d with
    | some t => (kitB t T).map fun b => tb b
    | none => none
  | _ => none
theorem tyX_tup {H : Hp} {p : Addr} {vs : List V} (h : SqT X.K H p vs) : TyX X.K H (.ref p) (.type "tuple") := by
  rcases h with (h | ⟨ob, h⟩) | ⟨o, its, n, hk, hc, _⟩
  · exact .base (.tup h)
  · exact .fTuple h
  · exact .kTuple hk hc
theorem tyX_of {Z F H : Hp} {ρ : List Addr} {μ : Mem} {δ : Loc} {σ : St} {v : V} {d : D} {t : String} (S : Sim X.K X.mg Z F ρ μ δ σ H) (h : Bor X.K X.mg F ρ H v d) (e : tyN d = some t) : TyX X.K H v (.type t) := by
  cases d <;> first | (cases e; done) | skip
  · cases e; cases h.non; exact .base .non
  · cases e; cases h.bl; exact .base (.bl _)
  · cases e; cases h.int; exact .base (.int _)
  · cases e; cases h.str; exact .base (.str _)
  · cases e; obtain ⟨p, vs, rfl, q, _⟩ := h.lst S; exact .base (.lst q)
  · cases e; obtain ⟨p, vs, rfl, q, _⟩ := h.tup S; exact tyX_tup q
  · cases e
    obtain ⟨p, vs, rfl, q, _⟩ := h.dct S
    rcases q with q | ⟨ob, q⟩
    · exact .base (.dK q)
    · exact .fDict q
theorem j_isi : RLJ X (rIsi X.K) gIsi := by
  intro Z F ρ μ δ σ H xs ds s Q S b e q
  unfold gIsi at e
  split at e
  · rename_i d T
    cases et : tyN d with
    | none => simp only [et] at e; cases e
    | some t =>
      simp only [et] at e
      obtain ⟨k, e1, e2⟩ := Option.map_eq_some_iff.mp e
      subst e2
      obtain ⟨v, w, rfl, h1, h2⟩ := b.two
      cases h2.ty
      exact ⟨v, _, _, _, k, rfl, .ty T, tyX_of S h1 et, kit_ty e1, q _ H F .refl S .bl⟩
  · cases e
def joinT (sep : Tx) : List Tx → Tx
  | [] => []
  | [x] => x
  | x :: r => x ++ sep ++ joinT sep r
end
end FL
namespace FL
open PySem L2
section
variable {K : PySem.W.Frag} {mg : Str → Option Value} {Z F F' : Hp} {ρ ρ' : List Addr} {μ : Mem} {δ : Loc} {σ : St} {H H' : Hp} {p : Addr} {o : HO} {v : V} {s : Slot}
def Held (δ : Loc) (σ : St) (p : Addr) : Prop := ∃ (i : Nat) (s : Own), δ[i]? = some (some (.own s)) ∧ σ[i]? = some (some (.ref p))
open Classical in
noncomputable def zone (Z H : Hp) (δ : Loc) (σ : St) : Hp := fun p => if Held δ σ p then H p else Z p
theorem zone_in (h : Held δ σ p) : zone Z H δ σ p = H p := if_pos h
theorem zone_out (h : ¬ Held δ σ p) : zone Z H δ σ p = Z p := if_neg h
theorem Sim.held (S : Sim K mg Z F ρ μ δ σ H) (h : Held δ σ p) : Free Z F ρ p ∧ ∃ o, H p = some o := by
  obtain ⟨i, c, e1, e2⟩ := h
  obtain ⟨w, e3, q, ev, f1, r⟩ := S.slot i _ e1
  rw [e2] at e3; cases e3; cases ev
  exact ⟨f1, r.some⟩
theorem Sim.zone_none (S : Sim K mg Z F ρ μ δ σ H) (h : zone Z H δ σ p = none) : ¬ Held δ σ p ∧ Z p = none := by
  by_cases c : Held δ σ p
  · rw [zone_in c] at h
    obtain ⟨_, o, e⟩ := S.held c
    rw [e] at h; cases h
  · rw [zone_out c] at h; exact ⟨c, h⟩
theorem Sim.enter (S : Sim K mg Z F ρ μ δ σ H) : Sim K mg (zone Z H δ σ) F ρ μ [] [] H := by
  refine ⟨S.le, fun q u h => ?_, rfl, fun i s e => by simp at e, fun i j p s s' e => by simp at e, fun k c e => ?_, S.mlen, S.nod⟩
  · by_cases c : Held δ σ q
    · rw [zone_in c] at h; exact h
    · rw [zone_out c] at h; exact S.zk q u h
  · obtain ⟨a, e1, f1, f2, r⟩ := S.mem k c e
    refine ⟨a, e1, f1, ?_, r⟩
    rw [zone_out fun h => (S.held h).1.r (List.mem_of_getElem? e1)]
    exact f2
theorem Sim.leLeave (S : Sim K mg Z F ρ μ δ σ H) (l : Le (zone Z H δ σ) F F') : Le Z F F' := ⟨l.to, fun q u h => (l.new q u h).elim .inl fun z => .inr (S.zone_none z).2⟩
theorem Sim.leRLeave (S : Sim K mg Z F ρ μ δ σ H) (l : LeR (zone Z H δ σ) ρ ρ') : LeR Z ρ ρ' := ⟨l.to, fun q h => (l.new q h).elim .inl fun z => .inr (S.zone_none z).2⟩
theorem Sim.leave {μ' : Mem} (S : Sim K mg Z F ρ μ δ σ H) (S1 : Sim K mg (zone Z H δ σ) F' ρ' μ' [] [] H') (l : Le (zone Z H δ σ) F F') (lr : LeR (zone Z H δ σ) ρ ρ') : Sim K mg Z F' ρ' μ' δ σ H' := by
  refine ⟨S1.le, fun q u h => S1.zk q u ?_, S.len, fun i t e => ?_, S.apart, fun k c e => ?_, S1.mlen, S1.nod⟩
  · rw [zone_out fun c => by rw [(S.held c).1.z] at h; cases h]; exact h
  · obtain ⟨w, e1, r⟩ := S.slot i t e
    refine ⟨w, e1, ?_⟩
    cases t with
    | fr d => exact Rep.up l.to lr.to r
    | own c =>
      obtain ⟨q, ev, f1, r⟩ := r
      subst ev
      have hq : Held δ σ q := ⟨i, c, e, e1⟩
      obtain ⟨o, eo⟩ := r.some
      have z1 : zone Z H δ σ q = some o := by rw [zone_in hq]; exact eo
      refine ⟨q, rfl, ⟨?_, f1.z, fun hm => ?_⟩, r.up l.to lr.to (by rw [S1.zk q o z1, eo])⟩
      · cases e2 : F' q with
        | none => rfl
        | some u =>
          rcases l.new q u e2 with h | h
          · rw [f1.f] at h; cases h
          · rw [z1] at h; cases h
      · rcases lr.new q hm with h | h
        · exact f1.r h
        · rw [z1] at h; cases h
  · obtain ⟨a, e1, f1, f2, r⟩ := S1.mem k c e
    exact ⟨a, e1, f1, (S.zone_none f2).2, r⟩
theorem Sim.came (S : Sim K mg Z F ρ μ δ σ H) (h : SlotR K mg (zone Z H δ σ) F' ρ' H' v s) : VR K mg Z F' ρ' δ σ H' v s := by
  cases s with
  | fr d => exact ⟨h, fun o p z => by cases z⟩
  | own c =>
    obtain ⟨q, ev, f1, r⟩ := h
    obtain ⟨n1, n2⟩ := S.zone_none f1.z
    refine ⟨⟨q, ev, ⟨f1.f, n2, f1.r⟩, r⟩, fun o p z1 z2 i o' e1 e2 => ?_⟩
    rw [ev] at z2; cases z2
    exact n1 ⟨i, o', e1, e2⟩
end
def OutS.loop (r : OutS) (k : MS) : OutS :=
  match r with
  | .nx δ μ => k δ μ
  | .ct δ μ => k δ μ
  | .bk δ μ => .nx δ μ
  | .rt s μ => .rt s μ
  | .exc x δ μ => .exc x δ μ
  | .bad => .bad
abbrev JSs (X : Cx) (W : WX) (s : List Stmt) (m : MS) : Prop := PSs X s (rdS X W m)
section
variable {X : Cx} {W : WX} {Z F F1 : Hp} {ρ ρ1 : List Addr} {D : Ends} {σ : St} {H : Hp} {μ : Mem} {δ : Loc}
theorem FinS.loop {r : OutS} {k : MS} {N : St → Hp → Prop} (h : FinS X W Z F ρ D (r.loop k)) (hN : ∀ σ' H' F' ρ' μ δ, Le Z F F' → LeR Z ρ ρ' → Sim X.K X.mg Z F' ρ' μ δ σ' H' → FinS X W Z F' ρ' D (k δ μ) → N σ' H') :
    FinS X W Z F ρ { D with nx := N, ct := N, bk := D.nx } r := by
  cases r with
  | nx δ μ => exact fun σ' H' F' ρ' l lr S => hN σ' H' F' ρ' μ δ l lr S (FinS.mono h l lr)
  | ct δ μ => exact fun σ' H' F' ρ' l lr S => hN σ' H' F' ρ' μ δ l lr S (FinS.mono h l lr)
  | bk δ μ => exact h
  | rt s μ => exact h
  | exc x δ μ => exact h
  | bad => exact h
variable {st : Stmt} {sts rest : List Stmt} {e : Expr} {pos : Pos}
def mPass : MS := fun δ μ => .nx δ μ
def mSeq (m n : MS) : MS := fun δ μ => (m δ μ).seq n
theorem jss_nil : JSs X W [] mPass := pss_nil.imp fun D σ H ⟨Z, F, ρ, μ, δ, S, q⟩ => q.nx S
theorem jss_cons {m n : MS} (h : JS X W st m) (t : JSs X W rest n) : JSs X W (st :: rest) (mSeq m n) :=
  (pss_cons h t).imp fun D σ H ⟨Z, F, ρ, μ, δ, S, q⟩ => ⟨Z, F, ρ, μ, δ, S, FinS.seq q⟩
theorem jss_one {m : MS} (h : JS X W st m) : JSs X W [st] m := pss_one h
def mEx (m : ME) : MS := fun δ μ => (m δ μ).thn fun _ δ1 μ1 => .nx δ1 μ1
theorem js_expr {m : ME} (he : JE X W e m) (hs : swapsWith e none pos.line X.env = pure false := by rfl) : JS X W (.Expr e pos) (mEx m) :=
  (ps_expr he hs).imp fun D σ H ⟨Z, F, ρ, μ, δ, S, q⟩ => ⟨Z, F, ρ, μ, δ, S, (FinS.thn q).imp fun a δ1 μ1 H1 F1 ρ1 l lr S1 ⟨_, p⟩ v vr => p.nx S1⟩
def mRet (m : ME) : MS := fun δ μ => (m δ μ).thn fun s _ μ1 => .rt s μ1
theorem js_ret {m : ME} (he : JE X W e m) : JS X W (.Return (some e) pos) (mRet m) :=
  (ps_ret he).imp fun D σ H ⟨Z, F, ρ, μ, δ, S, q⟩ => ⟨Z, F, ρ, μ, δ, S, (FinS.thn q).imp fun a δ1 μ1 H1 F1 ρ1 l lr S1 ⟨_, p⟩ v vr => p v H1 F1 ρ1 .refl .refl S1.drop vr.r⟩
def mIfS (t : MT) (m n : MS) : MS := fun δ μ => (t δ μ).thn fun b δ1 μ1 => if b = true then m δ1 μ1 else n δ1 μ1
theorem js_if {c : Expr} {a b : List Stmt} {t : MT} {m n : MS} (hc : JT X W c t) (ha : JSs X W a m) (hb : JSs X W b n) : JS X W (.If c a b pos) (mIfS t m n) := by
  refine (ps_if hc ha hb).imp fun D σ H ⟨Z, F, ρ, μ, δ, S, q⟩ => ⟨Z, F, ρ, μ, δ, S, (FinS.thn q).imp fun b δ1 μ1 H1 F1 ρ1 l lr S1 ⟨_, p⟩ => ?_⟩
  cases b with
  | true => exact ⟨Z, F1, ρ1, μ1, δ1, S1, p⟩
  | false => exact ⟨Z, F1, ρ1, μ1, δ1, S1, p⟩
end
end FL
namespace FL
open PySem L2
section
variable {X : Cx} {W : WX} {e a b : Expr} {es : List Expr} {pos : Pos}
abbrev TgsF := List D → Loc → Option Loc
theorem itr_list {F : Hp} {ρ : List Addr} {p : Addr} {vs : List V} {ds : List D} (hq : ∀ Z' F' ρ' μ δ σ H, (∀ p o, F p = some o → F' p = some o) → Sim X.K X.mg Z' F' ρ' μ δ σ H → SqL X.K H p vs) (r : RepL X.K X.mg F ρ vs ds) : ItR X F ρ (Itl X.K p) ds := by
  intro Z' F' ρ' μ δ σ H i to tr S
  have q := hq Z' F' ρ' μ δ σ H to S
  refine ⟨fun hl => ⟨vs, q, by rw [r.len]; exact hl⟩, fun d hd => ?_⟩
  obtain ⟨v, hv, rv⟩ := r.get hd
  refine ⟨⟨vs, v, q, hv⟩, fun x H' y => ?_⟩
  obtain ⟨rfl, y⟩ := y
  have := y vs q
  rw [hv] at this; cases this
  exact ⟨F', .refl, S, rv.up to tr⟩
theorem itr_tup {F : Hp} {ρ : List Addr} {p : Addr} {vs : List V} {ds : List D} (hq : ∀ Z' F' ρ' μ δ σ H, (∀ p o, F p = some o → F' p = some o) → Sim X.K X.mg Z' F' ρ' μ δ σ H → SqT X.K H p vs) (r : RepL X.K X.mg F ρ vs ds) : ItR X F ρ (Itt X.K p) ds := by
  intro Z' F' ρ' μ δ σ H i to tr S
  have q := hq Z' F' ρ' μ δ σ H to S
  refine ⟨fun hl => ⟨vs, q, by rw [r.len]; exact hl⟩, fun d hd => ?_⟩
  obtain ⟨v, hv, rv⟩ := r.get hd
  refine ⟨⟨vs, v, q, hv⟩, fun x H' y => ?_⟩
  obtain ⟨rfl, y⟩ := y
  have := y vs q
  rw [hv] at this; cases this
  exact ⟨F', .refl, S, rv.up to tr⟩
def chars (x : Tx) : List D := x.map fun c => .str [c]
theorem itr_str {F : Hp} {ρ : List Addr} {x : Tx} : ItR X F ρ (Its (toS x)) (chars x) := by
  intro Z' F' ρ' μ δ σ H i to tr S
  refine ⟨fun hl => ?_, fun d hd => ?_⟩
  · show (toS x).cps.size ≤ i
    simpa [chars, toS] using hl
  · obtain ⟨c, hc, rfl⟩ : ∃ c, x[i]? = some c ∧ D.str [c] = d := by
      unfold chars at hd
      rw [List.getElem?_map] at hd
      cases e : x[i]? with
      | none => rw [e] at hd; cases hd
      | some c => rw [e] at hd; exact ⟨c, rfl, by injection hd⟩
    have hi : i < x.length := (List.getElem?_eq_some_iff.mp hc).1
    have hc2 : (toS x).cps[i]? = some c := by simpa [toS] using hc
    refine ⟨by show i < (toS x).cps.size; simpa [toS] using hi, fun v H' y => ?_⟩
    obtain ⟨rfl, c', e', rfl⟩ := y
    have e2 : some c' = some c := e'.symm.trans hc2
    cases e2
    exact ⟨F', .refl, S, Rep.str (x := [c])⟩
def itA : D → Option (List D)
  | .lst xs => some xs
  | .ro xs => some xs
  | .tup xs => some xs
  | .str x => some (chars x)
  | _ => none
abbrev iAny (K : PySem.W.Frag) (te : TE) : TI := fun σ H R => te σ H fun v H1 => (∃ a, v = .ref a ∧ (∃ xs, SqL K H1 a xs) ∧ R (Itl K a) H1) ∨ (∃ a, v = .ref a ∧ (∃ xs, SqT K H1 a xs) ∧ R (Itt K a) H1) ∨ ∃ x, v = .str x ∧ R (Its x) H1
theorem pi_any {tg : Expr} {te : TE} (he : PE X e te) : PI X tg e (iAny X.K te) := by
  refine ⟨fun pins s σ H R I h => thn (he.run pins s σ H _ I h) fun v s1 ⟨y, H1, I1, r1, q⟩ => ?_⟩
  rcases q with ⟨a, rfl, ⟨xs, hq⟩, q⟩ | ⟨a, rfl, ⟨xs, hq⟩, q⟩ | ⟨x, rfl, q⟩
  · cases r1
    obtain ⟨vals, _, isl, _⟩ := I1.list hq
    exact wpAny_pyIter_list isl.isList (pi_one (tk := s1.toks) I1 _ (turn_list a _) ⟨_, Heap.get?_push_size _ rfl, rfl, rfl⟩ q)
  · cases r1
    obtain ⟨vals, _, ist, _⟩ := I1.tuple hq
    exact wpAny_pyIter_tuple (show s1.heap.IsTuple a vals.toArray from ist) (pi_one (tk := s1.toks) I1 _ (turn_tuple a _) ⟨_, Heap.get?_push_size _ rfl, rfl, rfl⟩ q)
  · obtain ⟨t, rfl⟩ := r1
    cases hw : x.cps.all (· < 128)
    · exact wpAny_pyIter_wide hw (pi_one (tk := s1.toks) I1 _ (turn_str _ x t "str_iterator" (Or.inr rfl)) ⟨_, Heap.get?_push_size _ rfl, rfl, rfl⟩ q)
    · exact wpAny_pyIter_ascii hw (pi_one (tk := s1.toks) I1 _ (turn_str _ x t "str_ascii_iterator" (Or.inl rfl)) ⟨_, Heap.get?_push_size _ rfl, rfl, rfl⟩ q)
def mIt (m : ME) : MM (List D) := fun δ μ => (m δ μ).bind fun s δ1 μ1 => match itA s.d with
  | some ds => .ok ds δ1 μ1
  | none => .bad
theorem Sim.frozen {K : PySem.W.Frag} {mg : Str → Option Value} {Z F H : Hp} {ρ : List Addr} {μ : Mem} {δ : Loc} {σ : St} {p : Addr} {vs : List V} (S : Sim K mg Z F ρ μ δ σ H) (h : F p = some (.lst vs)) : H p = some (.lst vs) := by
  rcases S.le _ _ h with q | ⟨ob, kvs, e, q⟩
  · exact q
  · cases e
theorem ji_any {tg : Expr} {m : ME} (he : JE X W e m) : JI X W tg e (mIt m) := by
  refine (pi_any he.locked).imp fun σ H R ⟨Z, F, ρ, μ, δ, S, q⟩ => ⟨Z, F, ρ, μ, δ, S, (FinE.bind q).imp fun s δ1 μ1 H1 F1 ρ1 l lr S1 ⟨_, _, _, p⟩ v r => ?_⟩
  cases ea : itA s.d with
  | none => simp only [ea] at p; exact p.elim
  | some ds =>
    simp only [ea] at p
    have p' := p H1 F1 ρ1 .refl .refl S1
    unfold itA at ea
    generalize s.d = d at ea r
    cases d <;> first | (cases ea; done) | skip
    · cases ea
      cases (Bor.fr (H := H1) r).str
      exact .inr (.inr ⟨_, rfl, p' _ itr_str⟩)
    · cases ea
      cases r with
      | @lst a vs _ h r =>
        exact .inl ⟨a, rfl, ⟨vs, .of (S1.frozen h)⟩, p' _ (itr_list (fun Z' F' ρ' μ δ σ H to S => .of (S.frozen (to _ _ h))) r)⟩
    · cases ea
      cases r with
      | @tup a vs _ h r =>
        exact .inr (.inl ⟨a, rfl, ⟨vs, h.elim (fun h => .inl (S1.rd h)) .inr⟩, p' _ (itr_tup (fun Z' F' ρ' μ δ σ H to S => h.elim (fun h => .inl (S.rd (Rd.up to h))) .inr) r)⟩)
    · cases ea
      cases r with
      | @ro a vs _ h r =>
        exact .inl ⟨a, rfl, ⟨vs, h.elim (fun h => .inl (S1.rd h)) .inr⟩, p' _ (itr_list (fun Z' F' ρ' μ δ σ H to S => h.elim (fun h => .inl (S.rd (Rd.up to h))) .inr) r)⟩
def rangeD (lo : Int) (n : Nat) : List D := (List.range n).map fun i => .int (lo + (i : Nat))
theorem itr_range {F : Hp} {ρ : List Addr} {lo : Int} {n : Nat} : ItR X F ρ (Itr lo n) (rangeD lo n) := by
  intro Z' F' ρ' μ δ σ H i to tr S
  refine ⟨fun hl => ?_, fun d hd => ?_⟩
  · show n ≤ i
    simpa [rangeD] using hl
  · unfold rangeD at hd
    rw [List.getElem?_map] at hd
    by_cases hi : i < n
    · rw [List.getElem?_range hi] at hd
      cases hd
      refine ⟨hi, fun x H' y => ?_⟩
      obtain ⟨rfl, rfl⟩ := y
      exact ⟨F', .refl, S, .int⟩
    · rw [List.getElem?_eq_none (by simp; omega)] at hd; cases hd
def mRange1 (o : Opn) : MM (List D) := fun δ μ => (evs [o] δ μ).bind fun rs δ1 μ1 => match OR.ats δ1 μ1 rs with
  | some [.int j] => if -(2 ^ 62) ≤ j ∧ j < 2 ^ 62 then .ok (rangeD 0 j.toNat) δ1 μ1 else .bad
  | _ => .bad
theorem ji_range1 {tg : Expr} {o : Opn} {p : Pos} (hg : Gl X "range") (hm : X.mg "range" = none) (ha : JOs X W [a] [o]) (hs : starEach [a] X.env = [(false, eval a X.env)] := by rfl) : JI X W tg (.Call (.Name "range" p) [a] [] pos) (mRange1 o) := by
  refine (pi_range1 hg hm ha hs).imp fun σ H R ⟨Z, F, ρ, μ, δ, S, q⟩ => ⟨Z, F, ρ, μ, δ, S, (FinE.bind q).imp fun rs δ1 μ1 H1 F1 ρ1 l lr S1 ⟨_, _, _, p⟩ vs hv => ?_⟩
  split at p
  · rename_i j ej
    obtain ⟨v, rfl, hb⟩ := (hv.bor S1 ej).one
    cases hb.int
    by_cases c : -(2 ^ 62) ≤ j ∧ j < 2 ^ 62
    · rw [if_pos c] at p
      exact ⟨j, rfl, c.1, c.2, p H1 F1 ρ1 .refl .refl S1 _ itr_range⟩
    · rw [if_neg c] at p; exact p.elim
  · exact p.elim
def turnD (f : TgF) (m : MS) : D → MS := fun d δ μ => match f d δ with
  | some δ' => m δ' μ
  | none => .bad
def forD (g : D → MS) : List D → MS
  | [] => fun δ μ => .nx δ μ
  | d :: ds => fun δ μ => (g d δ μ).loop (forD g ds)
def mFor (mi : MM (List D)) (f : TgF) (m : MS) : MS := fun δ μ => (mi δ μ).thn fun ds δ1 μ1 => forD (turnD f m) ds δ1 μ1
theorem js_for {tg iter : Expr} {body : List Stmt} {mi : MM (List D)} {f : TgF} {is : List Nat} {m : MS} (hp : PassesOwn (model X.prog X.w) X.A X.env X.xe) (hc : X.calm = true) (hi : JI X W tg iter mi) (hg : JG X tg f is) (hb : JSs X W body m)
    (hs : ∀ x, foldedSetIterable iter X.env x = pure x := by intro _; rfl) : JS X W (.For tg iter body [] pos) (mFor mi f m) := by
  refine (ps_for hp hc hi hg hb hs).imp fun E σ H ⟨Z, F, ρ, μ, δ, S, q⟩ => ⟨Z, F, ρ, μ, δ, S, (FinS.thn q).imp fun ds δ1 μ1 H1 F1 ρ1 l lr S1 ⟨_, p⟩ J hJ => ?_⟩
  let Wd : Nat → Nat → St → Hp → Prop := fun i k σ H => k = ds.length - i ∧ i ≤ ds.length ∧ ∃ F' ρ' μ δ, (∀ p o, F1 p = some o → F' p = some o) ∧ (∀ (k : Nat) p, ρ1[k]? = some p → ρ'[k]? = some p) ∧ Sim X.K X.mg Z F' ρ' μ δ σ H ∧ FinS X W Z F' ρ' E (forD (turnD f m) (ds.drop i) δ μ)
  refine ⟨Wd, ⟨ds.length, by simp, Nat.zero_le _, F1, ρ1, μ1, δ1, fun _ _ h => h, fun _ _ h => h, S1, by rw [List.drop_zero]; exact p⟩, ?_⟩
  rintro i k σ2 H2 ⟨rfl, hle, F2, ρ2, μ2, δ2, to, tr, S2, p2⟩
  obtain ⟨j1, j2⟩ := hJ Z F2 ρ2 μ2 δ2 σ2 H2 i to tr S2
  by_cases hlt : i < ds.length
  · refine .inr ?_
    have hd : ds.drop i = ds[i] :: ds.drop (i + 1) := List.drop_eq_getElem_cons hlt
    obtain ⟨go, yl⟩ := j2 ds[i] (List.getElem?_eq_getElem hlt)
    refine ⟨go, fun σ' H' => Wd (i + 1) (ds.length - (i + 1)) σ' H', fun σ' H' w => ⟨ds.length - (i + 1), by omega, w⟩, fun x H' y => ?_⟩
    obtain ⟨F3, l3, S3, r3⟩ := yl x H' y
    rw [hd] at p2
    unfold forD at p2
    cases ef : f ds[i] δ2 with
    | none =>
      have e : turnD f m ds[i] δ2 μ2 = .bad := by unfold turnD; rw [ef]
      simp only [e] at p2
      exact p2.elim
    | some δ3 =>
      have e : turnD f m ds[i] δ2 μ2 = m δ3 μ2 := by unfold turnD; rw [ef]
      simp only [e] at p2
      refine ⟨Z, F3, ρ2, μ2, δ2, _, S3, r3, δ3, ef, fun σ4 _ _ S4 => ⟨Z, F3, ρ2, μ2, δ3, S4, (p2.mono l3 .refl).loop fun σ' H' F' ρ' μ' δ' l' lr' S' q' => ?_⟩⟩
      exact ⟨rfl, hlt, F', ρ', μ', δ', fun p o h => l'.to p o (l3.to p o (to p o h)), fun k p h => lr'.to k p (tr k p h), S', q'⟩
  · have e : i = ds.length := by omega
    subst e
    rw [List.drop_length] at p2
    exact .inl ⟨j1 (Nat.le_refl _), p2.nx S2⟩
def mYes : MT := fun δ μ => .ok true δ μ
theorem jts_nil : JTs X W [] mYes := ⟨fun pins s σ H Q I ⟨Z, F, ρ, μ, δ, S, q⟩ => pts_nil.run pins s σ H Q I (q H F ρ .refl .refl S)⟩
theorem jts_one {c : Expr} {m : MT} (h : JT X W c m) : JTs X W [c] m := pts_one h
def mPar (i j : Nat) (ma mb : ME) : MS := fun δ μ => (ma δ μ).thn fun s δ1 μ1 => (mb δ1 μ1).thn fun t δ2 μ2 => .nx ((δ2.set i (some s)).set j (some t)) μ2
theorem par_read {i j : Nat} {ma mb : ME} : ∀ E σ H, rdS X W (mPar i j ma mb) E σ H → tPar i j (tCons (rdE X W ma) (tCons (rdE X W mb) tNil)) E σ H := by
  intro E σ H ⟨Z, F, ρ, μ, δ, S, q⟩
  refine ⟨Z, F, ρ, μ, δ, S, (FinS.thn q).imp fun s δ1 μ1 H1 F1 ρ1 l lr S1 ⟨_, p⟩ v vr => ?_⟩
  cases s with
  | fr d =>
    refine ⟨Z, F1, ρ1, μ1, δ1, S1, (FinS.thn p).imp fun t δ2 μ2 H2 F2 ρ2 l2 lr2 S2 ⟨_, p2⟩ w wr => ⟨v, w, rfl, p2.nx ?_⟩⟩
    have r : Rep X.K X.mg F2 ρ2 v d := Rep.up l2.to lr2.to vr.r
    refine (S2.put (i := i) (v := v) (s := .fr d) ⟨r, fun o p z => by cases z⟩).put ⟨wr.r, fun o p z1 z2 k o' e1 e2 => ?_⟩
    by_cases z : k = i
    · subst z
      by_cases hl : k < δ2.length
      · rw [List.getElem?_set_self hl] at e1; cases e1
      · rw [List.getElem?_eq_none (by simpa using hl)] at e1; cases e1
    · rw [List.getElem?_set_ne (Ne.symm z)] at e1 e2
      exact wr.no o p z1 z2 k o' e1 e2
  | own c =>
    obtain ⟨A, ev, fA, rA⟩ := vr.r
    obtain ⟨o, hA⟩ := rA.some
    have SG := S1.guard hA fA (vr.no c A rfl ev)
    refine ⟨upd Z A o, F1, ρ1, μ1, δ1, SG, ?_⟩
    have p' := FinS.thn (σ := σ) p
    generalize mb δ1 μ1 = r2 at p'
    cases r2 with
    | bad => exact p'
    | exc x δ2 μ2 => exact fun c' d' H2 F2 ρ2 l2 lr2 S2 er => p' c' d' H2 F2 ρ2 l2.unguard lr2.unguard (S2.unguard fA.z) er
    | ok t δ2 μ2 =>
      intro H2 F2 ρ2 l2 lr2 S2 w wr
      obtain ⟨_, p2⟩ := p' H2 F2 ρ2 l2.unguard lr2.unguard (S2.unguard fA.z)
      refine ⟨v, w, rfl, p2.nx ?_⟩
      have fA2 := fA.on l2 lr2
      have hA2 : H2 A = some o := S2.guarded
      have vr2 : VR X.K X.mg Z F2 ρ2 δ2 σ H2 v (.own c) := ⟨⟨A, ev, fA2, rA.up l2.to lr2.to (by rw [hA2, hA])⟩, fun o' p' z1 z2 => by
        rw [ev] at z2; cases z2
        exact S2.guardNo⟩
      have S3 := (S2.unguard fA.z).put (i := i) vr2
      cases t with
      | fr d => exact S3.put ⟨wr.r, fun o p z => by cases z⟩
      | own c2 =>
        obtain ⟨B, ew, fB, rB⟩ := wr.r
        have nBA : B ≠ A := (guard_z fB.z).1
        refine S3.put ⟨⟨B, ew, ⟨fB.f, (guard_z fB.z).2, fB.r⟩, rB⟩, fun o p z1 z2 k o' e1 e2 => ?_⟩
        rw [ew] at z2; cases z2
        by_cases z : k = i
        · subst z
          by_cases hl : k < σ.length
          · rw [List.getElem?_set_self hl, ev] at e2
            cases e2
            exact nBA rfl
          · rw [List.getElem?_eq_none (by simpa using hl)] at e2; cases e2
        · rw [List.getElem?_set_ne (Ne.symm z)] at e1 e2
          exact wr.no c2 B rfl ew k o' e1 e2
theorem js_par {i j : Nat} {x y : Str} {ma mb : ME} {px py pt : Pos} {kt k2 pt2} (hc : X.calm = true) (hN : X.N.Nodup) (hi : X.N[i]? = some x) (hj : X.N[j]? = some y) (hij : i ≠ j)
    (hx : X.env.scope.names.lookup x = some .local) (hy : X.env.scope.names.lookup y = some .local) (ha : JE X W a ma) (hb : JE X W b mb)
    (hw : swappedStores [.Tuple [.Name x px, .Name y py] kt pt] (.Tuple [a, b] k2 pt2) X.env = pure (some [x, y]))
    (hs : swapsWithSole [.Tuple [.Name x px, .Name y py] kt pt] (.Tuple [a, b] k2 pt2) pos.line X.env = pure false := by rfl)
    (h1 : starEach [a, b] X.env = (false, eval a X.env) :: starEach [b] X.env := by rfl) (h2 : starEach [b] X.env = (false, eval b X.env) :: starEach [] X.env := by rfl) :
    JS X W (.Assign [.Tuple [.Name x px, .Name y py] kt pt] (.Tuple [a, b] k2 pt2) pos) (mPar i j ma mb) := by
  exact (ps_par hc hN hi hj hij hx hy (pa_cons ha (pa_cons hb pa_nil h2) h1) hw hs).imp par_read
theorem FinS.laid {r : OutS} {E : Ends} {Z F : Hp} {ρ : List Addr} (h : FinS X W Z F ρ E r) : FinS X W Z F ρ { E with nx := fun σ H => ∀ p o, H p = none → E.nx σ (upd H p o) } r := by
  cases r with
  | nx δ μ => exact fun σ' H' F' ρ' l lr S p o hp => h σ' _ F' ρ' l lr (S.laid hp)
  | bk δ μ => exact h
  | ct δ μ => exact h
  | rt s μ => exact h
  | exc x δ μ => exact h
  | bad => exact h
end
end FL
namespace FL
open PySem L2
section
variable {X : Cx} {W : WX} {e a b o : Expr} {es : List Expr} {pos p apos : Pos}
def rdP (X : Cx) (W : WX) (m : MM (Option Int)) : TO := fun σ H Q => ∃ Z F ρ μ δ, Sim X.K X.mg Z F ρ μ δ σ H ∧ FinE X W Z F ρ σ (fun i _ _ _ _ H' => Q i H') (m δ μ)
theorem _root_.L2.PO.imp {X : Cx} {e : Option Expr} {t t' : TO} (h : PO X e t) (hi : ∀ σ H Q, t' σ H Q → t σ H Q) : PO X e t' := ⟨fun pins s σ H Q I q => h.run pins s σ H Q I (hi σ H Q q)⟩
abbrev JP (X : Cx) (W : WX) (e : Option Expr) (m : MM (Option Int)) : Prop := PO X e (rdP X W m)
def mP (m : ME) : MM (Option Int) := fun δ μ => (m δ μ).bind fun s δ1 μ1 => match s with
  | .fr (.int i) => .ok (some i) δ1 μ1
  | _ => .bad
theorem jp_some {m : ME} (h : JE X W e m) : JP X W (some e) (mP m) := by
  refine (po_some h).imp fun σ H Q ⟨Z, F, ρ, μ, δ, S, q⟩ => ⟨Z, F, ρ, μ, δ, S, (FinE.bind q).imp fun s δ1 μ1 H1 F1 ρ1 l lr S1 ⟨_, _, _, p⟩ v vr => ?_⟩
  cases s with
  | own o => exact p.elim
  | fr d =>
    cases d with
    | int i =>
      cases vr.r
      exact ⟨i, rfl, p H1 F1 ρ1 .refl .refl S1⟩
    | _ => exact p.elim
def recv (δ : Loc) (μ : Mem) : OR → Option (Own × (Own → Loc × Mem))
  | .d (.obj k) => match μ[k]? with
    | some c => some (c, fun c' => (δ, μ.set k c'))
    | none => none
  | .d _ => none
  | .i j => match δ[j]? with
    | some (some (.own c)) => some (c, fun c' => (δ.set j (some (.own c')), μ))
    | some (some (.fr (.obj k))) => match μ[k]? with
      | some c => some (c, fun c' => (δ, μ.set k c'))
      | none => none
    | _ => none
theorem recv_ok {K : PySem.W.Frag} {mg : Str → Option Value} {Z F H : Hp} {ρ : List Addr} {μ : Mem} {δ : Loc} {σ : St} {v : V} {r : OR} {c : Own} {w : Own → Loc × Mem} (S : Sim K mg Z F ρ μ δ σ H) (h : OrR K mg F ρ σ v r) (e : recv δ μ r = some (c, w)) :
    ∃ p, v = .ref p ∧ OwnR K mg F ρ H p c ∧ ∀ o c', OwnR K mg F ρ (upd H p o) p c' → Sim K mg Z F ρ (w c').2 (w c').1 σ (upd H p o) := by
  have mem : ∀ {k : Nat}, Rep K mg F ρ v (.obj k) → (match μ[k]? with | some c => some (c, fun c' => (δ, μ.set k c')) | none => (none : Option (Own × (Own → Loc × Mem)))) = some (c, w) →
      ∃ p, v = .ref p ∧ OwnR K mg F ρ H p c ∧ ∀ o c', OwnR K mg F ρ (upd H p o) p c' → Sim K mg Z F ρ (w c').2 (w c').1 σ (upd H p o) := by
    intro k hr he
    cases hr with
    | @obj _ p hp =>
      cases em : μ[k]? with
      | none => simp only [em] at he; cases he
      | some c0 =>
        simp only [em] at he
        cases he
        obtain ⟨a, ea, _, _, r⟩ := S.mem k _ em
        rw [hp] at ea; cases ea
        exact ⟨p, rfl, r, fun o c' hc => S.writeM em hp hc⟩
  cases r with
  | d d =>
    cases d <;> first | (cases e; done) | skip
    exact mem h e
  | i j =>
    have h' : σ[j]? = some (some v) := h
    unfold recv at e
    cases ej : δ[j]? with
    | none => simp only [ej] at e; cases e
    | some so =>
      cases so with
      | none => simp only [ej] at e; cases e
      | some s =>
        obtain ⟨u, eu, rr⟩ := S.slot j s ej
        rw [h'] at eu; cases eu
        cases s with
        | own c0 =>
          simp only [ej] at e
          cases e
          obtain ⟨p, rfl, _, ro⟩ := rr
          exact ⟨p, rfl, ro, fun o c' hc => S.write ej h' hc⟩
        | fr d =>
          cases d <;> first | (simp only [ej] at e; cases e; done) | skip
          simp only [ej] at e
          exact mem rr e
def ownTy (T : String) : Own → Bool
  | .lst _ => T == "list"
  | .dct _ _ => T == "dict"
  | .tab _ _ => false
  | .ins _ _ _ _ => false
  | .idc _ => false
def MutJ (X : Cx) (r : V → List V → Hp → VK → Prop) (g : Own → List D → Option (D × Own)) : Prop := ∀ Z F ρ μ δ σ H p c xs ds d c' Q, Sim X.K X.mg Z F ρ μ δ σ H → OwnR X.K X.mg F ρ H p c → RepL X.K X.mg F ρ xs ds → g c ds = some (d, c') →
  (∀ v o, Rep X.K X.mg F ρ v d → OwnR X.K X.mg F ρ (upd H p o) p c' → Q v (upd H p o)) → r (.ref p) xs H Q
def mMut (T : String) (g : Own → List D → Option (D × Own)) (o : Opn) (ms : List ME) : ME := fun δ μ => (o.ev δ μ).bind fun r δ1 μ1 => match recv δ1 μ1 r with
  | some (c0, _) => if ownTy T c0 = true then (evA ms δ1 μ1).bind fun ds δ2 μ2 => match recv δ2 μ2 r with
      | some (c, w) => match g c ds with
        | some (d, c') => .ok (.fr d) (w c').1 (w c').2
        | none => .bad
      | none => .bad
    else .bad
  | none => .bad
theorem ownTy_V {F H : Hp} {ρ : List Addr} {p : Addr} {c : Own} {T : String} (hT : T = "list") (h : OwnR X.K X.mg F ρ H p c) (e : ownTy T c = true) : tyV X.K T (.ref p) H := by
  subst hT
  cases c with
  | lst xs => obtain ⟨vs, h, r⟩ := h; exact .inl ⟨rfl, vs, .of h⟩
  | dct ks xs =>
    have e' : (("list" : String) == "dict") = true := e
    exact absurd e' (by decide)
  | tab P q => cases e
  | ins c kd ks xs => cases e
  | idc k => cases e
theorem mMut_read {T : String} {r : V → List V → Hp → VK → Prop} {g : Own → List D → Option (D × Own)} {oo : Opn} {ms : List ME} (hT : T = "list") (hr : MutJ X r g) : ∀ σ H Q, rdE X W (mMut T g oo ms) σ H Q → tBM X.K T r (rdO X W oo) (rdA X W ms) σ H Q := by
  intro σ H Q ⟨Z, F, ρ, μ, δ, S, q⟩
  refine ⟨Z, F, ρ, μ, δ, S, (FinE.bind q).imp fun ra δ1 μ1 H1 F1 ρ1 l lr S1 ⟨_, _, _, p⟩ x hx => ?_⟩
  cases e0 : recv δ1 μ1 ra with
  | none => simp only [e0] at p; exact p.elim
  | some cw =>
    obtain ⟨c0, w0⟩ := cw
    simp only [e0] at p
    obtain ⟨pa, rfl, ow, _⟩ := recv_ok S1 hx e0
    by_cases ht : ownTy T c0 = true
    · rw [if_pos ht] at p
      refine ⟨ownTy_V hT ow ht, Z, F1, ρ1, μ1, δ1, S1, p.bind.imp fun ds δ2 μ2 H2 F2 ρ2 l2 lr2 S2 ⟨_, _, _, p2⟩ xs hxs => ?_⟩
      cases e1 : recv δ2 μ2 ra with
      | none => simp only [e1] at p2; exact p2.elim
      | some cw =>
        obtain ⟨c, w⟩ := cw
        simp only [e1] at p2
        cases eg : g c ds with
        | none => simp only [eg] at p2; exact p2.elim
        | some dc =>
          obtain ⟨d, c'⟩ := dc
          simp only [eg] at p2
          obtain ⟨pa', ep, ow2, hw⟩ := recv_ok S2 (hx.up l2 lr2) e1
          cases ep
          exact hr Z F2 ρ2 μ2 δ2 σ H2 _ c xs ds d c' Q S2 ow2 hxs eg fun v o' rv ho => p2 _ F2 ρ2 .refl .refl (hw o' c' ho) v ⟨rv, fun o p z => by cases z⟩
    · rw [if_neg ht] at p; exact p.elim
theorem je_mut {id : String} {name : Str} {r : V → List V → Hp → VK → Prop} {g : Own → List D → Option (D × Own)} {oo : Opn} {ms : List ME} (pa : PlainAttrs "list") (slot : PySem.Slot "list" name id) (hty : typeOf (.builtin id) = pure (.type "method_descriptor")) (hm : MtR X id r) (hr : MutJ X r g) (ho : JO X W o oo) (ha : JA X W (e :: es) ms)
    (hbase : attributeBase o name X.env (eval o X.env) = eval o X.env := by rfl)
    (hfew : ((backTo pos (starEach (e :: es) X.env)).all (fun x => !x.1) && (backToKw pos (keywordEach [] X.env)).all (fun x => x.1.isSome)
      && decide ((e :: es).length + ([] : List Keyword).length + (if ([] : List Keyword).isEmpty then 0 else 1) < 30)) = true := by rfl)
    (hline : (apos.endLine == pos.line) = true := by rfl) (hs : starEach (e :: es) X.env = (false, eval e X.env) :: starEach es X.env := by rfl) (hplain : (backTo pos (starEach es X.env)).any (·.1) = false := by rfl) :
    JE X W (.Call (.Attribute o name apos) (e :: es) [] pos) (mMut "list" g oo ms) :=
  (pe_bm pa slot hty hm ho ha hbase hfew hline hs hplain).imp (mMut_read rfl hr)
theorem je_mut0 {id : String} {name : Str} {r : V → List V → Hp → VK → Prop} {g : Own → List D → Option (D × Own)} {oo : Opn} (pa : PlainAttrs "list") (slot : PySem.Slot "list" name id) (hty : typeOf (.builtin id) = pure (.type "method_descriptor")) (hm : MtR X id r) (hr : MutJ X r g) (ho : JO X W o oo)
    (hbase : attributeBase o name X.env (eval o X.env) = eval o X.env := by rfl) (hline : (apos.endLine == pos.line) = true := by rfl) :
    JE X W (.Call (.Attribute o name apos) [] [] pos) (mMut "list" g oo []) := by
  refine (pe_bm0 pa slot hty hm ho hbase hline).imp fun σ H Q h => ?_
  obtain ⟨Z, F, ρ, μ, δ, S, q⟩ := mMut_read rfl hr σ H Q h
  refine ⟨Z, F, ρ, μ, δ, S, q.imp fun ra δ1 μ1 H1 F1 ρ1 l lr S1 p x hx => ?_⟩
  obtain ⟨ty, Z2, F2, ρ2, μ2, δ2, S2, q2⟩ := p x hx
  exact ⟨ty, q2 H1 F2 ρ2 .refl .refl S2 [] .nil⟩
theorem RepL.single {F : Hp} {ρ : List Addr} {vs : List V} {d : D} (h : RepL X.K X.mg F ρ vs [d]) : ∃ v, vs = [v] ∧ Rep X.K X.mg F ρ v d := by
  cases h with
  | cons h t => cases t; exact ⟨_, rfl, h⟩
theorem RepL.none_of {F : Hp} {ρ : List Addr} {vs : List V} (h : RepL X.K X.mg F ρ vs []) : vs = [] := by cases h; rfl
def gPop0 : Own → List D → Option (D × Own)
  | .lst xs, [] => match xs[xs.length - 1]? with
    | some d => some (d, .lst xs.dropLast)
    | none => none
  | _, _ => none
theorem RepL.dropLast {F : Hp} {ρ : List Addr} {vs : List V} {ds : List D} (h : RepL X.K X.mg F ρ vs ds) : RepL X.K X.mg F ρ vs.dropLast ds.dropLast := by
  rw [List.dropLast_eq_take, List.dropLast_eq_take, h.len]
  exact h.take _
theorem j_pop0 : MutJ X rPop gPop0 := by
  intro Z F ρ μ δ σ H p c xs ds d c' Q S ow rx e q
  unfold gPop0 at e
  split at e
  · rename_i ys
    cases ex : ys[ys.length - 1]? with
    | none => simp only [ex] at e; cases e
    | some d0 =>
      simp only [ex] at e
      cases e
      obtain ⟨vs, hH, r⟩ := ow
      obtain ⟨v, ev, rv⟩ := r.get ex
      exact ⟨p, vs, v, rfl, rx.none_of, hH, by rw [r.len]; exact ev, q _ _ rv ⟨_, upd_same, r.dropLast⟩⟩
  · cases e
def SetJ (X : Cx) (t : TSet) (g : Own → D → D → Option Own) : Prop := ∀ Z F ρ μ δ σ H p c i v di dv c' Q, Sim X.K X.mg Z F ρ μ δ σ H → OwnR X.K X.mg F ρ H p c → Bor X.K X.mg F ρ H i di → Rep X.K X.mg F ρ v dv → g c di dv = some c' →
  (∀ o, OwnR X.K X.mg F ρ (upd H p o) p c' → Q (upd H p o)) → t (.ref p) i v H Q
def mSetI (g : Own → D → D → Option Own) (oo oi : Opn) (m : ME) : MS := fun δ μ => (m δ μ).thn fun s δ1 μ1 => (oo.ev δ1 μ1).thn fun r δ2 μ2 => (oi.ev δ2 μ2).thn fun ri δ3 μ3 => match recv δ3 μ3 r, ri.at δ3 μ3 with
  | some (c, w), some di => match g c di s.d with
    | some c' => .nx (w c').1 (w c').2
    | none => .bad
  | _, _ => .bad
theorem js_setI {i : Expr} {spos : Pos} {t : TSet} {g : Own → D → D → Option Own} {oo oi : Opn} {m : ME} (hp : PSet X t) (hr : SetJ X t g) (he : JE X W e m) (ho : JO X W o oo) (hi : JO X W i oi)
    (ha : ∀ v, assign (.Subscript o i spos) X.env v = (do
      let ov ← holding [v] (eval o X.env)
      let iv ← holding [v, ov] (eval i X.env)
      standAt spos
      holding [v, ov, iv] (setItem ov iv v)
      release [v, ov, iv] []) := by intro _; rfl)
    (hs : swapsWithSole [.Subscript o i spos] e pos.line X.env = pure false := by rfl) (hw : swappedStores [.Subscript o i spos] e X.env = pure none := by rfl)
    (h1 : (assignEach [.Subscript o i spos] X.env).map (·.2) = [assign (.Subscript o i spos) X.env] := by rfl) : JS X W (.Assign [.Subscript o i spos] e pos) (mSetI g oo oi m) := by
  refine (ps_asg he.locked (L2.pg_sub ho hi hp ha) hs hw h1).imp fun E σ H ⟨Z, F, ρ, μ, δ, S, q⟩ => ⟨Z, F, ρ, μ, δ, S, (FinS.thn q).imp fun s δ1 μ1 H1 F1 ρ1 l1 lr1 S1 ⟨_, p1⟩ v rv => ?_⟩
  refine ⟨Z, F1, ρ1, μ1, δ1, S1, (FinS.thn p1).imp fun r δ2 μ2 H2 F2 ρ2 l2 lr2 S2 ⟨_, p2⟩ x hx => ?_⟩
  refine ⟨Z, F2, ρ2, μ2, δ2, S2, (FinS.thn p2).imp fun ri δ3 μ3 H3 F3 ρ3 l3 lr3 S3 ⟨_, p3⟩ y hy => ?_⟩
  cases e0 : recv δ3 μ3 r with
  | none => simp only [e0] at p3; exact p3.elim
  | some cw =>
    obtain ⟨c, w⟩ := cw
    cases e1 : ri.at δ3 μ3 with
    | none => simp only [e0, e1] at p3; exact p3.elim
    | some di =>
      simp only [e0, e1] at p3
      cases eg : g c di s.d with
      | none => simp only [eg] at p3; exact p3.elim
      | some c' =>
        simp only [eg] at p3
        obtain ⟨pa, rfl, ow, hw'⟩ := recv_ok S3 (hx.up l3 lr3) e0
        exact hr Z F3 ρ3 μ3 δ3 σ H3 pa c y v di s.d c' _ S3 ow (hy.bor S3 e1) ((Rep.up l2.to lr2.to rv).up l3.to lr3.to) eg fun o' ho' => p3.nx (hw' o' c' ho')
def gSetL : Own → D → D → Option Own
  | .lst xs, .int k, d => match ixN xs.length k with
    | some j => some (.lst (xs.set j d))
    | none => none
  | _, _, _ => none
theorem j_setL : SetJ X rSetL gSetL := by
  intro Z F ρ μ δ σ H p c i v di dv c' Q S ow bi rv e q
  unfold gSetL at e
  split at e
  · rename_i xs k
    cases ej : ixN xs.length k with
    | none => simp only [ej] at e; cases e
    | some j =>
      simp only [ej] at e
      cases e
      cases bi.int
      obtain ⟨vs, hH, r⟩ := ow
      exact ⟨p, vs, k, j, rfl, rfl, hH, by rw [r.len]; exact ej, q _ ⟨_, upd_same, r.set rv j⟩⟩
  · cases e
end
end FL
namespace FL
open PySem PySem.Spec PyProof.Rows L2
theorem RmG.mono {j k : Nat} {A : Around} (r : RmG k A) (h : j ≤ k) : RmG j A := ⟨r.r.mono h, r.g⟩
theorem RmG.deeper {k : Nat} {A : Around} (r : RmG (k + 1) A) (env : Env) : RmG k (A.deeper env) := ⟨r.r.deeper env, r.g⟩
theorem FnG.mono {P : Program} {w : World} {K : PySem.W.Frag} {mg : Str → Option Value} {base : Heap} {Y : CXT} {j k : Nat} {f : Addr} {fd : FuncData} {ps : List Str} {sp : Sp} (h : FnG P w K mg base Y j f fd ps sp) (le : j ≤ k) : FnG P w K mg base Y k f fd ps sp :=
  ⟨h.len, fun A outer s H args us vs Q E hr => h.run A outer s H args us vs Q E (hr.mono le)⟩
theorem fnG_of {Y : CXT} {P : Program} {w : World} {K : PySem.W.Frag} {mg : Str → Option Value} {base : Heap} {k : Nat} {f : Addr} {x qual : Str} {st : Stmt} {fd : FuncData} {N ps : List Str} {sp : Sp} {dV : Value} (F : Fd K x qual st f fd dV) (S : FnScope N ps (defScope st))
    (len : ∀ vs H Q E, sp vs H Q E → vs.length = ps.length)
    (hbody : ∀ (cdv : Value) (A : Around) (outer : List Env) (s : Shared) (H : Hp) (vs : List V) (Q : VK) (E : XK), RmG k (A.deeper (envOfC qual (defScope st) s.heap.objs.size f cdv)) → sp vs H Q E →
      ∃ t, PSs (cxOf Y P w K mg base N qual (defScope st) f cdv A outer s H E) (defBody st) t ∧ t { nx := fun _ H' => Q .non H', rt := Q } (L2.start N vs) H) : FnG P w K mg base Y (k + 1) f fd ps sp := by
  obtain ⟨oc, od, kV, doc, pm, an, cdv, ct, osl, rfl, lk, hcd⟩ := F.ex
  refine ⟨len, fun A outer s H args us vs Q E hr e0 hb r hsp => ?_⟩
  have hlen := len _ _ _ _ hsp
  have inK : K.In s.heap := e0.mod.kin.keeps fun b o e => (e0.bs b o e).1
  have lim : s.heap.NoLimit := e0.mod.nolimit.keeps fun b o e => (e0.bs b o e).1
  have kinds : ∀ y ∈ ps.zip us, (defScope st).names.lookup y.1 = some .local ∨ ((defScope st).names.lookup y.1 = some .cell ∧ ((cellsFrom (s.heap.objs.size + 1) (defScope st).names []).lookup y.1).isSome = true) := fun ⟨n, u⟩ hy => by
    rcases S.par n (List.of_mem_zip hy).1 with q | q
    · exact Or.inl q
    · exact Or.inr ⟨q, PySem.W.cellsFrom_some _ _ _ (Or.inl q)⟩
  refine codeAny_call_function hr.r.depth (inK _ _ lk) rfl S.co S.gen rfl (PySem.W.codeRec_of inK hcd) (hb _ _ _ _ ?_)
  refine wpAny_newFunctionEnv_cells S.kind kinds fun env eenv s1 xx => ?_
  subst eenv
  refine ⟨lim.keeps xx.toInCall.keep, codeAny_func ?_⟩
  obtain ⟨t, ht, hq⟩ := hbody cdv A outer s H vs Q E (hr.deeper _) hsp
  have I : Inv (cxOf Y P w K mg base N qual (defScope st) f cdv A outer s H E) [] (L2.start N vs) H s1 := inv_start S hr.r.hd e0 hlen r xx
  refine wpAny_mono (ht.run [] s1 (L2.start N vs) H _ I hq) (fun fl s' hs => ?_) fun e s' hs => hs
  cases fl with
  | ret u =>
    obtain ⟨v, σ', H', J, rv, q⟩ := hs
    exact ⟨v, H', J.os, J.bare, J.base, J.hok, rv, q⟩
  | next =>
    obtain ⟨σ', H', J, q⟩ := hs
    exact ⟨.non, H', J.os, J.bare, J.base, J.hok, rfl, q⟩
  | brk =>
    obtain ⟨_, _, _, z⟩ := hs
    exact z.elim
  | cont =>
    obtain ⟨_, _, _, z⟩ := hs
    exact z.elim
def startD (n : Nat) (ds : List D) : Loc := ds.map (fun d => some (.fr d)) ++ List.replicate (n - ds.length) none
def OutS.fin (r : OutS) : OutF := match r with
  | .nx _ μ => .ok (.fr .non) μ
  | .rt s μ => .ok s μ
  | .exc x _ μ => .exc x μ
  | _ => .bad
theorem sealed {α : Type} (a : α) : ∃ r : α, r = a := ⟨a, rfl⟩
noncomputable def mFn (n : Nat) (m : MS) : MF := Classical.choose (sealed fun ds μ => (m (startD n ds) μ).fin)
theorem mFn_eq {n : Nat} {m : MS} {ds : List D} {μ : Mem} : mFn n m ds μ = (m (startD n ds) μ).fin := congrFun (congrFun (Classical.choose_spec (sealed fun ds μ => (m (startD n ds) μ).fin)) ds) μ
theorem start_get {N : List Str} {vs : List V} {i : Nat} (hi : i < vs.length) : (L2.start N vs)[i]? = some (vs[i]?) := by
  unfold L2.start
  rw [List.getElem?_append_left (by simpa using hi), List.getElem?_map]
  rw [List.getElem?_eq_getElem hi]; rfl
theorem Sim.begin {K : PySem.W.Frag} {mg : Str → Option Value} {Z F H : Hp} {ρ : List Addr} {μ : Mem} {N : List Str} {vs : List V} {ds : List D} (S : Sim K mg Z F ρ μ [] [] H) (r : RepL K mg F ρ vs ds) : Sim K mg Z F ρ μ (startD N.length ds) (L2.start N vs) H := by
  have hl := r.len
  have none_own : ∀ (i : Nat) c, (startD N.length ds)[i]? ≠ some (some (.own c)) := by
    intro i c h
    unfold startD at h
    by_cases hi : i < ds.length
    · rw [List.getElem?_append_left (by simpa using hi), List.getElem?_map, List.getElem?_eq_getElem hi] at h
      cases h
    · rw [List.getElem?_append_right (by simpa using hi), List.getElem?_replicate] at h
      split at h <;> cases h
  refine ⟨S.le, S.zk, ?_, fun i s e => ?_, fun i j p s s' e => absurd e (none_own i s), S.mem, S.mlen, S.nod⟩
  · unfold L2.start startD
    rw [List.length_append, List.length_append, List.length_map, List.length_map, List.length_replicate, List.length_replicate, hl]
  · by_cases hi : i < ds.length
    · have hv : i < vs.length := by rw [hl]; exact hi
      unfold startD at e
      rw [List.getElem?_append_left (by simpa using hi), List.getElem?_map, List.getElem?_eq_getElem hi] at e
      cases e
      obtain ⟨v, ev, rv⟩ := r.get (List.getElem?_eq_getElem hi)
      exact ⟨v, by rw [start_get hv, ev], rv⟩
    · unfold startD at e
      rw [List.getElem?_append_right (by simpa using hi), List.getElem?_replicate] at e
      split at e <;> cases e
theorem fnG_m {P : Program} {w : World} {K : PySem.W.Frag} {mg : Str → Option Value} {base : Heap} {k n : Nat} {f : Addr} {x qual : Str} {st : Stmt} {fd : FuncData} {N ps : List Str} {m : MS} {dV : Value} (F : Fd K x qual st f fd dV) (S : FnScope N ps (defScope st)) (hn : ps.length = n)
    (hbody : ∀ (X : Cx) (W : WX), X.prog = P → X.w = w → X.K = K → X.mg = mg → X.base = base → Cd X W k N (defScope st) → JSs X W (defBody st) m) : FnG P w K mg base (L2.CX P w) (k + 1) f fd ps (spM K mg (mFn N.length m) n) := by
  subst hn
  refine fnG_of F S (fun vs H Q E h => h.1) (fun cdv A outer s H vs Q E hr h => ?_)
  obtain ⟨hl, Z, F0, ρ, μ, ds, S0, r, q⟩ := h
  refine ⟨_, hbody (cxOf (L2.CX P w) P w K mg base N qual (defScope st) f cdv A outer s H E) (fun c d _ H => E c d H) rfl rfl rfl rfl rfl ⟨⟨rfl, hr, takes_of rfl rfl rfl rfl, rfl, rfl, S.nd⟩, passes_of rfl, fun _ _ => rfl⟩, ?_⟩
  refine ⟨Z, F0, ρ, μ, _, S0.begin r, ?_⟩
  rw [mFn_eq] at q
  generalize m (startD N.length ds) μ = o at q
  cases o with
  | nx δ μ' => exact fun σ' H' F' ρ' l lr S' => q .non H' F' ρ' l lr S'.drop .non
  | rt s μ' => exact fun v H' F' ρ' l lr S' rv => q v H' F' ρ' l lr S' rv
  | bk δ μ' => exact q.elim
  | ct δ μ' => exact q.elim
  | exc x δ μ' => exact fun c d σ' H' F' ρ' l lr S' er => q c d H' F' ρ' l lr S'.drop er
  | bad => exact q
section
variable {X : Cx} {W : WX} {k j : Nat} {N : List Str} {sc : Scope} {e : Expr} {es : List Expr} {pos p : Pos} {f : Addr} {fd : FuncData} {ps : List Str} {x : Str}
def mCall (m : MF) (ms : List ME) (dds : List D) : ME := fun δ μ => (evA ms δ μ).bind fun ds δ1 μ1 => match m (ds ++ dds) μ1 with
  | .ok s μ2 => .ok s δ1 μ2
  | .exc x μ2 => .exc x δ1 μ2
  | .bad => .bad
theorem evA_len : ∀ {ms : List ME} {δ : Loc} {μ : Mem} {ds : List D} {δ' : Loc} {μ' : Mem}, evA ms δ μ = .ok ds δ' μ' → ms.length = ds.length := by
  intro ms
  induction ms with
  | nil => intro δ μ ds δ' μ' e; cases e; rfl
  | cons m ms ih =>
    intro δ μ ds δ' μ' e
    have e : ((m δ μ).bind fun s δ1 μ1 => (evA ms δ1 μ1).bind fun ds δ2 μ2 => Out.ok (s.d :: ds) δ2 μ2) = .ok ds δ' μ' := e
    cases em : m δ μ with
    | ok s δ1 μ1 =>
      rw [em] at e
      have e : ((evA ms δ1 μ1).bind fun ds δ2 μ2 => Out.ok (s.d :: ds) δ2 μ2) = .ok ds δ' μ' := e
      cases er : evA ms δ1 μ1 with
      | ok ds2 δ2 μ2 =>
        rw [er] at e
        cases e
        rw [List.length_cons, List.length_cons, ih er]
      | exc x δ2 μ2 => rw [er] at e; cases e
      | bad => rw [er] at e; cases e
    | exc x δ1 μ1 => rw [em] at e; cases e
    | bad => rw [em] at e; cases e
theorem call_end {m : MF} {n : Nat} {dds : List D} {ms : List ME} {dvs : List V} (hdd : ∀ F ρ, RepL X.K X.mg F ρ dvs dds) (hn : ∀ ds, ms.length = ds.length → (ds ++ dds).length = n) : ∀ σ H Q, rdE X W (mCall m ms dds) σ H Q → tCallSD (spM X.K X.mg m n) dvs (WE W) (rdA X W ms) σ H Q := by
  intro σ H Q ⟨Z, F, ρ, μ, δ, S, q⟩
  refine ⟨Z, F, ρ, μ, δ, S, ?_⟩
  cases ea : evA ms δ μ with
  | bad => unfold mCall at q; rw [ea] at q; exact q
  | exc x δ1 μ1 => unfold mCall at q; rw [ea] at q; exact q
  | ok ds δ1 μ1 =>
    unfold mCall at q
    rw [ea, Out.bind_ok] at q
    intro H1 F1 ρ1 l1 lr1 S1 vs hv
    have q1 := q.mono l1 lr1
    have hvd := hv.app (hdd F1 ρ1)
    refine ⟨by rw [hvd.len]; exact hn ds (evA_len ea), zone Z H1 δ1 σ, F1, ρ1, μ1, ds ++ dds, S1.enter, hvd, ?_⟩
    generalize m (ds ++ dds) μ1 = o at q1
    cases o with
    | ok s μ2 => exact fun v H' F' ρ' l lr S' rv => q1 H' F' ρ' (S1.leLeave l) (S1.leRLeave lr) (S1.leave S' l lr) v (S1.came rv)
    | exc x μ2 => exact fun c d H' F' ρ' l lr S' er => q1 c d H' F' ρ' (S1.leLeave l) (S1.leRLeave lr) (S1.leave S' l lr) er
    | bad => exact q1
theorem pe_callG {Y : CXT} {sp : Sp} {dvs : List V} {ds : List Value} {E : L2.St → XK} {t : TA} (F : FnG X.prog X.w X.K X.mg X.base Y j f fd ps sp) (hr : RmG j X.A) (hg : Gl X x) (hm : X.mg x = some (.ref f)) (hk : PySem.W.keepIn X.K (.ref f) = true) (hb : Binds X.K fd ps ds) (hd : Vals dvs ds) (hx : ∀ σ, PassesAt Y X σ (E σ))
    (ha : PA X (e :: es) t) (hdb : (x == ("__debug__" : Str)) = false) (he : starEach (e :: es) X.env = (false, eval e X.env) :: starEach es X.env) (hpl : (backTo pos (starEach es X.env)).any (·.1) = false) :
    PE X (.Call (.Name x p) (e :: es) [] pos) (tCallSD sp dvs E t) :=
  ⟨fun pins s σ H Q I h => wpAny_Call_Name_kw (ld_glob I hg hm (PySem.W.callWith_K (h₀ := X.base) I.ok.mod.kin hk (thn (ha.run pos pins s σ H _ I h) fun us s1 ⟨vs, H1, I1, r, q⟩ => ⟨I1.kIn, run_callG F hr hb hd (hx σ) I1 r q⟩) he hpl) hdb)⟩
theorem je_call {m : MF} {n : Nat} {dds : List D} {ms : List ME} (C : Cs X W k N sc) (F : FuX X j x m n dds) (hjk : j ≤ k) (hg : glC sc x = true) (ha : JA X W (e :: es) ms) (hn : ms.length + dds.length = n)
    (he : starEach (e :: es) X.env = (false, eval e X.env) :: starEach es X.env := by rfl) (hpl : (backTo pos (starEach es X.env)).any (·.1) = false := by rfl) : JE X W (.Call (.Name x p) (e :: es) [] pos) (mCall m ms dds) := by
  obtain ⟨f, fd, ps, ds, dvs, F, hm, hk, hb, hd, hdd⟩ := F.ex
  obtain ⟨g1, g2, g3⟩ := C.gl hg
  exact (pe_callG F (C.rm.mono hjk) g1 hm hk hb hd (passAt C.tk) ha g2 he hpl).imp (call_end (ms := ms) hdd fun ds hl => by rw [List.length_append]; omega)
theorem Cs.ov {i : Nat} (C : Cs X W k N sc) (h : varC N sc i x = true) : JO X W (.Name x p) (.v i) := jo_v (C.var h)
end
end FL
namespace FL
open PySem PySem.Spec PyProof.Rows L2
def gMulA : D → D → Option Slot := fun x y => (gMul x y).or (gRep x y)
abbrev rMulA : R2 := fun x y H Q => rI CMulW (fun i j => .int (i * j)) x y H Q ∨ rRep x y H Q
section
variable {X : Cx} {W : WX} {k j : Nat} {N : List Str} {sc : Scope} {a b c e o : Expr} {es : List Expr} {pos p apos : Pos} {x : Str} {oa ob : Opn}
theorem o_mulA : OpR X (binaryOp .Mult) rMulA := op_mulW.or op_rep
theorem j_mulA : R2J X rMulA gMulA := R2J.or j_mulI j_rep
theorem Cs.hu (C : Cs X W k N sc) : X.A.units + 64 < cLine := by have := C.rm.r.un; omega
theorem add_ (ha : JO X W a oa) (hb : JO X W b ob) : JE X W (.BinOp a .Add b pos) (m2 gAdd oa ob) := je_bin o_add j_add ha hb
theorem sub_ (ha : JO X W a oa) (hb : JO X W b ob) : JE X W (.BinOp a .Sub b pos) (m2 gSub oa ob) := je_bin o_sub j_sub ha hb
theorem mul_ (ha : JO X W a oa) (hb : JO X W b ob) : JE X W (.BinOp a .Mult b pos) (m2 gMulA oa ob) := je_bin o_mulA j_mulA ha hb
theorem div_ (ha : JO X W a oa) (hb : JO X W b ob) : JE X W (.BinOp a .FloorDiv b pos) (m2 gDiv oa ob) := je_bin op_fdivW j_div ha hb
theorem mod_ (ha : JO X W a oa) (hb : JO X W b ob) : JE X W (.BinOp a .Mod b pos) (m2 gMod oa ob) := je_bin op_mod j_mod ha hb
theorem pow_ (ha : JO X W a oa) (hb : JO X W b ob) : JE X W (.BinOp a .Pow b pos) (m2 gPow oa ob) := je_bin op_pow j_pow ha hb
theorem le_ (ha : JO X W a oa) (hb : JO X W b ob) : JE X W (.Compare a [.LtE] [b] pos) (m2 gLe oa ob) := je_cmp o_le j_le ha hb (nomark _)
theorem Cs.eq (C : Cs X W k N sc) (ha : JO X W a oa) (hb : JO X W b ob) : JE X W (.Compare a [.Eq] [b] pos) (m2 (gEq false) oa ob) := je_cmp (o_eq C.hu) j_eq ha hb (nomark _)
theorem Cs.ne (C : Cs X W k N sc) (ha : JO X W a oa) (hb : JO X W b ob) : JE X W (.Compare a [.NotEq] [b] pos) (m2 (gEq true) oa ob) := je_cmp (o_ne C.hu) j_ne ha hb (nomark _)
theorem in_ (ha : JO X W a oa) (hb : JO X W b ob) (hm : behindInMarks .In b = false := by rfl) : JE X W (.Compare a [.In] [b] pos) (m2 (gIn false) oa ob) := je_cmp o_in (j_in false) ha hb hm
theorem isN_ (ha : JO X W a oa) (hb : JO X W b ob) : JE X W (.Compare a [.Is] [b] pos) (m2 (gIsN false) oa ob) := je_cmp o_isN (j_isN false) ha hb (nomark _)
theorem notN_ (ha : JO X W a oa) (hb : JO X W b ob) : JE X W (.Compare a [.IsNot] [b] pos) (m2 (gIsN true) oa ob) := je_cmp o_notN (j_isN true) ha hb (nomark _)
theorem gtT (ha : JO X W a oa) (hb : JO X W b ob) : JT X W (.Compare a [.Gt] [b] pos) (mTb (m2 gGt oa ob)) := jt_cmp o_gt j_gt ha hb (nomark _)
theorem geT (ha : JO X W a oa) (hb : JO X W b ob) : JT X W (.Compare a [.GtE] [b] pos) (mTb (m2 gGe oa ob)) := jt_cmp o_ge j_ge ha hb (nomark _)
theorem Cs.eqT (C : Cs X W k N sc) (ha : JO X W a oa) (hb : JO X W b ob) : JT X W (.Compare a [.Eq] [b] pos) (mTb (m2 (gEq false) oa ob)) := jt_cmp (o_eq C.hu) j_eq ha hb (nomark _)
theorem Cs.neT (C : Cs X W k N sc) (ha : JO X W a oa) (hb : JO X W b ob) : JT X W (.Compare a [.NotEq] [b] pos) (mTb (m2 (gEq true) oa ob)) := jt_cmp (o_ne C.hu) j_ne ha hb (nomark _)
theorem inT (ha : JO X W a oa) (hb : JO X W b ob) (hm : behindInMarks .In b = false := by rfl) : JT X W (.Compare a [.In] [b] pos) (mTb (m2 (gIn false) oa ob)) := jt_cmp o_in (j_in false) ha hb hm
theorem ninT (ha : JO X W a oa) (hb : JO X W b ob) (hm : behindInMarks .NotIn b = false := by rfl) : JT X W (.Compare a [.NotIn] [b] pos) (mTb (m2 (gIn true) oa ob)) := jt_cmp o_nin (j_in true) ha hb hm
theorem isNT (ha : JO X W a oa) (hb : JO X W b ob) : JT X W (.Compare a [.Is] [b] pos) (mTb (m2 (gIsN false) oa ob)) := jt_cmp o_isN (j_isN false) ha hb (nomark _)
theorem notNT (ha : JO X W a oa) (hb : JO X W b ob) : JT X W (.Compare a [.IsNot] [b] pos) (mTb (m2 (gIsN true) oa ob)) := jt_cmp o_notN (j_isN true) ha hb (nomark _)
theorem ix_ (ha : JO X W a oa) (hb : JO X W b ob) (hs : PlainIx b) : JE X W (.Subscript a b pos) (m2 gIxL oa ob) := je_ix ix_seq j_ix ha hb hs
theorem Cs.bi {id : String} {r : List V → Hp → VK → Prop} {g : List D → Option Slot} {os : List Opn} (C : Cs X W k N sc) (h : glC sc x = true) (hm : X.mg x = none) (hv : bootBuiltins x = some (.builtin id)) (hc : CallR X (.builtin id) r) (hr : RLJ X r g) (ha : JOs X W (e :: es) os)
    (he : starEach (e :: es) X.env = (false, eval e X.env) :: starEach es X.env := by rfl) (hpl : (backTo pos (starEach es X.env)).any (·.1) = false := by rfl) : JE X W (.Call (.Name x p) (e :: es) [] pos) (mC g os) :=
  let ⟨g1, g2, g3⟩ := C.gl h
  je_callB hc hr g1 hm hv ha g3 g2 he hpl
theorem Cs.bt {T : String} {r : List V → Hp → VK → Prop} {g : List D → Option Slot} {os : List Opn} (C : Cs X W k N sc) (h : glC sc x = true) (hm : X.mg x = none) (hv : bootBuiltins x = some (.type T)) (hc : CallR X (.type T) r) (hr : RLJ X r g) (ha : JOs X W (e :: es) os)
    (he : starEach (e :: es) X.env = (false, eval e X.env) :: starEach es X.env := by rfl) (hpl : (backTo pos (starEach es X.env)).any (·.1) = false := by rfl) : JE X W (.Call (.Name x p) (e :: es) [] pos) (mC g os) :=
  let ⟨g1, g2, g3⟩ := C.gl h
  je_callTy hc hr g1 hm hv ha g3 g2 he hpl
theorem Cs.gInt {i : Int} (C : Cs X W k N sc) (h : glC sc x = true) (hm : ∃ t, X.mg x = some (.int i t)) : JE X W (.Name x pos) (mD (.int i)) :=
  let ⟨g1, g2, g3⟩ := C.gl h
  let ⟨t, hm⟩ := hm
  je_mod g1 hm (v := .int i) ⟨t, rfl⟩ (fun _ _ => .int) g2
theorem Cs.gStr {s : String} (C : Cs X W k N sc) (h : glC sc x = true) (hm : ∃ t, X.mg x = some (.str (Str.ofString s) t)) : JE X W (.Name x pos) (mD (.str (lit s))) :=
  let ⟨g1, g2, g3⟩ := C.gl h
  let ⟨t, hm⟩ := hm
  je_mod g1 hm (v := .str (Str.ofString s)) ⟨t, rfl⟩ (fun _ _ => by rw [ofS_lit]; exact .str) g2
def mChain (g g' : D → D → Option Slot) (oa ob oc : Opn) : ME := fun δ μ => (oa.ev δ μ).bind fun ra δ1 μ1 => (ob.ev δ1 μ1).bind fun rb δ2 μ2 => match ra.at δ2 μ2, rb.at δ2 μ2 with
  | some da, some db => match g da db with
    | some (.fr (.bl true)) => (oc.ev δ2 μ2).bind fun rc δ3 μ3 => match rb.at δ3 μ3, rc.at δ3 μ3 with
      | some db', some dc => lift (g' db' dc) δ3 μ3
      | _, _ => .bad
    | some (.fr (.bl false)) => .ok (.fr (.bl false)) δ2 μ2
    | _ => .bad
  | _, _ => .bad
theorem chain_read {r r' : R2} {g g' : D → D → Option Slot} {oc : Opn} (hr : R2J X r g) (hr' : R2J X r' g') : ∀ σ H Q, rdE X W (mChain g g' oa ob oc) σ H Q → tChain r r' (rdO X W oa) (rdO X W ob) (rdO X W oc) σ H Q := by
  intro σ H Q ⟨Z, F, ρ, μ, δ, S, q⟩
  refine ⟨Z, F, ρ, μ, δ, S, (FinE.bind q).imp fun ra δ1 μ1 H1 F1 ρ1 l1 lr1 S1 ⟨_, _, _, p1⟩ x hx => ?_⟩
  refine ⟨Z, F1, ρ1, μ1, δ1, S1, p1.bind.imp fun rb δ2 μ2 H2 F2 ρ2 l2 lr2 S2 ⟨_, _, _, p2⟩ y hy => ?_⟩
  cases ea : ra.at δ2 μ2 with
  | none => simp only [ea] at p2; exact p2.elim
  | some da =>
    cases eb : rb.at δ2 μ2 with
    | none => simp only [ea, eb] at p2; exact p2.elim
    | some db =>
      simp only [ea, eb] at p2
      cases eg : g da db with
      | none => simp only [eg] at p2; exact p2.elim
      | some s =>
        refine hr Z F2 ρ2 μ2 δ2 σ H2 x y da db s _ S2 ((hx.up l2 lr2).bor S2 ea) (hy.bor S2 eb) eg fun v H3 F3 l3 S3 vr => ?_
        cases s with
        | own o => simp only [eg] at p2; exact p2.elim
        | fr d =>
          cases d with
          | bl kk =>
            cases vr.r
            refine ⟨kk, rfl, ?_⟩
            cases kk with
            | false =>
              simp only [eg] at p2
              rw [if_neg Bool.false_ne_true]
              exact p2 H3 F3 ρ2 l3 .refl S3 _ .bl
            | true =>
              simp only [eg] at p2
              rw [if_pos rfl]
              refine ⟨Z, F3, ρ2, μ2, δ2, S3, (p2.mono l3 .refl).bind.imp fun rc δ4 μ4 H4 F4 ρ4 l4 lr4 S4 ⟨_, _, _, p4⟩ w hw => ?_⟩
              cases eb' : rb.at δ4 μ4 with
              | none => simp only [eb'] at p4; exact p4.elim
              | some db' =>
                cases ec : rc.at δ4 μ4 with
                | none => simp only [eb', ec] at p4; exact p4.elim
                | some dc =>
                  simp only [eb', ec] at p4
                  unfold lift at p4
                  cases eg' : g' db' dc with
                  | none => simp only [eg'] at p4; exact p4.elim
                  | some s' =>
                    simp only [eg'] at p4
                    exact hr' Z F4 ρ4 μ4 δ4 σ H4 y w db' dc s' Q S4 (((hy.up l3 .refl).up l4 lr4).bor S4 eb') (hw.bor S4 ec) eg' fun v H' F' l' S' vr => p4 H' F' ρ4 l' .refl S' v vr
          | _ => simp only [eg] at p2; exact p2.elim
theorem chain_ {op op' : CmpOp} {r r' : R2} {g g' : D → D → Option Slot} {oc : Opn} (ho : OpR X (compareOp op) r) (hr : R2J X r g) (ho' : OpR X (compareOp op') r') (hr' : R2J X r' g') (ha : JO X W a oa) (hb : JO X W b ob) (hc : JO X W c oc)
    (hm : lastMarks [op, op'] [b, c] = false := by with_unfolding_all rfl) : JE X W (.Compare a [op, op'] [b, c] pos) (mChain g g' oa ob oc) := (pe_chain ho ho' ha hb hc hm).imp (chain_read hr hr')
theorem Cs.par {i j : Nat} {x y : Str} {ma mb : ME} {px py pt : Pos} {kt k2 pt2} (C : Cs X W k N sc) (hi : ownC N sc i x = true) (hj : ownC N sc j y = true) (hij : i ≠ j) (ha : JE X W a ma) (hb : JE X W b mb)
    (hw : ∀ env : Env, env.scope = sc → swappedStores [.Tuple [.Name x px, .Name y py] kt pt] (.Tuple [a, b] k2 pt2) env = pure (some [x, y]))
    (hs : swapsWithSole [.Tuple [.Name x px, .Name y py] kt pt] (.Tuple [a, b] k2 pt2) pos.line X.env = pure false := by rfl)
    (h1 : starEach [a, b] X.env = (false, eval a X.env) :: starEach [b] X.env := by rfl) (h2 : starEach [b] X.env = (false, eval b X.env) :: starEach [] X.env := by rfl) :
    JS X W (.Assign [.Tuple [.Name x px, .Name y py] kt pt] (.Tuple [a, b] k2 pt2) pos) (mPar i j ma mb) :=
  let ⟨n, i1, i2⟩ := C.own hi
  let ⟨_, j1, j2⟩ := C.own hj
  js_par C.calm n i1 j1 hij i2 j2 ha hb (hw X.env C.hsc) hs h1 h2
theorem range1_ {tg : Expr} {o : Opn} (C : Cs X W k N sc) (h : glC sc "range" = true) (hm : X.mg "range" = none) (ha : JOs X W [a] [o]) (hs : starEach [a] X.env = [(false, eval a X.env)] := by rfl) : JI X W tg (.Call (.Name "range" p) [a] [] pos) (mRange1 o) :=
  ji_range1 (C.gl h).1 hm ha hs
theorem setI_ {i : Expr} {spos : Pos} {oo oi : Opn} {m : ME} (he : JE X W e m) (ho : JO X W o oo) (hi : JO X W i oi)
    (ha : ∀ v, assign (.Subscript o i spos) X.env v = (do
      let ov ← holding [v] (eval o X.env)
      let iv ← holding [v, ov] (eval i X.env)
      standAt spos
      holding [v, ov, iv] (setItem ov iv v)
      release [v, ov, iv] []) := by intro _; rfl)
    (hs : swapsWithSole [.Subscript o i spos] e pos.line X.env = pure false := by rfl) (hw : swappedStores [.Subscript o i spos] e X.env = pure none := by rfl)
    (h1 : (assignEach [.Subscript o i spos] X.env).map (·.2) = [assign (.Subscript o i spos) X.env] := by rfl) : JS X W (.Assign [.Subscript o i spos] e pos) (mSetI gSetL oo oi m) :=
  js_setI set_list j_setL he ho hi ha hs hw h1
def mNeg (m : ME) : ME := fun δ μ => (m δ μ).bind fun s δ1 μ1 => match s with
  | .fr (.int i) => .ok (.fr (.int (-i))) δ1 μ1
  | _ => .bad
theorem neg_ {m : ME} (h : JE X W a m) : JE X W (.UnaryOp .USub a pos) (mNeg m) := by
  refine (pe_un un_neg h).imp fun σ H Q ⟨Z, F, ρ, μ, δ, S, q⟩ => ⟨Z, F, ρ, μ, δ, S, (FinE.bind q).imp fun s δ1 μ1 H1 F1 ρ1 l lr S1 ⟨_, _, _, p⟩ v vr => ?_⟩
  cases s with
  | own o => exact p.elim
  | fr d =>
    cases d with
    | int i =>
      cases vr.r
      exact ⟨i, rfl, p H1 F1 ρ1 .refl .refl S1 _ ⟨.int, fun o p z => by cases z⟩⟩
    | _ => exact p.elim
end
theorem Fu.mk0 {P : Program} {w : World} {K : PySem.W.Frag} {mg : Str → Option Value} {base : Heap} {k n : Nat} {x : Str} {m : MF} {f : Addr} {fd : FuncData} {ps : List Str} (F : FnG P w K mg base (L2.CX P w) k f fd ps (spM K mg m n)) (hm : mg x = some (.ref f)) (hk : PySem.W.keepIn K (.ref f) = true)
    (hb : Binds K fd ps []) : Fu P w K mg base k x m n [] := ⟨f, fd, ps, [], [], F, hm, hk, hb, .nil, fun _ _ => .nil⟩
theorem Fd.binds {K : PySem.W.Frag} {x qual : Str} {st : Stmt} {f : Addr} {fd : FuncData} (F : Fd K x qual st f fd .none) {ps : List Str}
    (h : ∀ (kV doc pm : Value) (an : Option Addr) (cdv ct : Value) (us : List Value), us.length = ps.length → bindArgs (PySem.W.fnOf x qual (defArgs st) (defBody st) (defScope st) .none kV doc pm an cdv ct) ⟨us, []⟩ = pure (ps.zip us)) : Binds K fd ps [] := by
  obtain ⟨oc, od, kV, doc, pm, an, cdv, ct, osl, rfl, lk, hcd⟩ := F.ex
  exact .all (h kV doc pm an cdv ct)
theorem fnG_s {P : Program} {w : World} {K : PySem.W.Frag} {mg : Str → Option Value} {base : Heap} {k n : Nat} {f : Addr} {x qual : Str} {st : Stmt} {fd : FuncData} {N ps : List Str} {m : MS} {dV : Value} {sc : Scope} (F : Fd K x qual st f fd dV) (S : FnScope N ps sc) (hsc : defScope st = sc) (hn : ps.length = n)
    (hbody : ∀ (X : Cx) (W : WX), X.prog = P → X.w = w → X.K = K → X.mg = mg → X.base = base → Cd X W k N sc → JSs X W (defBody st) m) : FnG P w K mg base (L2.CX P w) (k + 1) f fd ps (spM K mg (mFn N.length m) n) := by
  subst hsc
  exact fnG_m F S hn hbody
end FL
namespace FL
open PySem PySem.Spec PyProof.Rows L2
abbrev supE (qual : Str) (scope : Scope) (L f : Addr) (cd : Value) (cc : Addr) : Env := PySem.W.ksEnv qual scope L f cd cc
def supX (P : Program) (w : World) (K : PySem.W.Frag) (mg : Str → Option Value) (base : Heap) (N : List Str) (qual : Str) (scope : Scope) (f : Addr) (cd : Value) (cc : Addr) (A : Around) (outer : List Env) (s : Shared) (H : Hp) (E : XK) : Cx where
  prog := P
  w := w
  K := K
  mg := mg
  base := base
  A := A.deeper (supE qual scope s.heap.objs.size f cd cc)
  N := N
  s_0 := s
  H_0 := H
  env := supE qual scope s.heap.objs.size f cd cc
  outer := outer
  stack := supE qual scope s.heap.objs.size f cd cc :: outer
  ex := []
  calm := true
  fn := fun _ => false
  pn := []
  xe := fun e s' => wpAny (model P w) (A.deeper (supE qual scope s.heap.objs.size f cd cc)) (leaving (supE qual scope s.heap.objs.size f cd cc) e) (fun _ s'' => L2.CX P w outer H s E e s'') (fun e' s'' => L2.CX P w outer H s E e' s'') s'
theorem sup_start {P : Program} {w : World} {K : PySem.W.Frag} {mg : Str → Option Value} {base : Heap} {qual : Str} {scope : Scope} {f cc D : Addr} {cd : Value} {A : Around} {outer : List Env} {s : Shared} {H : Hp} {E : XK} {p0 p1 : Str} {u0 u1 : Value} {v0 v1 : V} {h₁ : Heap} {tk : Nat} {cl : Value} {cld : Option Addr} {csl : Array (Option Value)}
    (hk : scope.kind = .function) (hc : ∀ y ∈ scope.names, y.2 ≠ .cell ∧ (y.2 = .free → y.1 = "__class__")) (h01 : p0 ≠ p1) (l0 : scope.names.lookup p0 = some .local) (l1 : scope.names.lookup p1 = some .local) (hd : A.handled = none) (e0 : Env0 P w K mg base A outer s H)
    (hcell : K.lookup cc = some ⟨cl, cld, .cell (some (.ref D)), csl⟩) (r0 : RelV v0 u0) (r1 : RelV v1 u1) (hns : h₁.Ns s.heap.objs.size fun y => ([(p0, u0), (p1, u1)] : List (Str × Value)).reverse.lookup y) (kp : ∀ b o, s.heap.get? b = some o → h₁.get? b = some o) :
    Inv (supX P w K mg base [p0, p1] qual scope f cd cc A outer s H E) [] [some v0, some v1] H { s with heap := h₁, toks := tk } := by
  have noA : ∀ b : Addr, b ∉ (supX P w K mg base [p0, p1] qual scope f cd cc A outer s H E).ex := fun b z => absurd (show b ∈ ([] : List Addr) from z) (by simp)
  have look : ∀ {y : Str} {c : Addr}, ([(("__class__" : Str), cc)] : List (Str × Addr)).lookup y = some c → y = "__class__" ∧ c = cc := fun {y c} e => by
    rw [List.lookup_cons] at e
    by_cases z : y = "__class__"
    · subst z
      simp at e
      exact ⟨rfl, e.symm⟩
    · have : (y == ("__class__" : Str)) = false := by simpa using z
      rw [this] at e
      cases e
  have hbase := e0.mod.kin _ _ hcell
  refine ⟨⟨e0.mod, hk, rfl, rfl, Nat.le_refl _, fun y z c e1 e2 => ?_, fun y hy => ?_, fun y c z _ => ?_, fun _ => hd, Around.frames_deeper e0.frames, .inr ⟨rfl, rfl⟩, fun b z => absurd z (noA b), e0.bs, e0.bsz, fun b _ _ => noA b, fun b z => absurd z (noA b), e0.funs, e0.frf⟩,
    rfl, e0.bare, Un.kept kp, ⟨_, hns, fun i y v e1 e2 e3 => ?_⟩, fun y c e => ?_, e0.hok.fresh (Nat.le_refl _), fun y c e => ?_, fun q hq => absurd (show q ∈ ([] : List (Addr × Obj)) from hq) (by simp), e0.hok.kept kp, rfl⟩
  · rw [(look e1).1, (look e2).1]
  · have hy : scope.names.lookup y = some .cell ∨ scope.names.lookup y = some .free := hy
    rcases hy with hy | hy
    · exact absurd rfl (hc _ (PySem.mem_of_lookup hy)).1
    · have e := (hc _ (PySem.mem_of_lookup hy)).2 rfl
      have e : y = "__class__" := e
      exact ⟨cc, by rw [e]; show ([(("__class__" : Str), cc)] : List (Str × Addr)).lookup ("__class__" : Str) = some cc; simp⟩
  · have z : false = true := z
    cases z
  · match i, e1, e2 with
    | 0, e1, e2 =>
      cases e1
      cases e2
      refine ⟨u0, r0, .inl ⟨l0, ?_⟩⟩
      show ([(p1, u1), (p0, u0)] : List (Str × Value)).lookup p0 = some u0
      rw [List.lookup_cons, show (p0 == p1) = false by simpa using h01]
      simp
    | 1, e1, e2 =>
      cases e1
      cases e2
      refine ⟨u1, r1, .inl ⟨l1, ?_⟩⟩
      show ([(p1, u1), (p0, u0)] : List (Str × Value)).lookup p1 = some u1
      simp
    | i + 2, e1, e2 =>
      have e1 : ([p0, p1] : List Str)[i + 2]? = some y := e1
      simp at e1
  · have e : ([(("__class__" : Str), cc)] : List (Str × Addr)).lookup y = some c := e
    rw [(look e).2]
    exact ⟨_, _, kp _ _ (e0.bs _ _ hbase).1, rfl⟩
  · have e : ([(("__class__" : Str), cc)] : List (Str × Addr)).lookup y = some c := e
    rw [(look e).2]
    exact (e0.bs _ _ hbase).2
theorem sup_call {X : Cx} {pins : List (Addr × Obj)} {σ : L2.St} {H : Hp} {s : Shared} {A : Around} {E : Value → Shared → Prop} {a C u : Addr} {us : List Value} {Q : Value → Shared → Prop} (T : OexC X.K C) (I : Inv X pins σ H s) (e : H a = some (exo a C none))
    (hu : s.heap.get? u = some (PySem.W.kxs_mw "ValueError.__init__" a)) (hl : us.length ≤ sizeLine) (h : ∀ s', Inv X pins σ H s' → Q .none s') : wpAny (model X.prog X.w) A (call (.ref u) us) Q E s := by
  obtain ⟨nm, q, N, bs, bm, sn, sub, ab, col, dd, k0, k1, k2, k3, k5, hC, hbm⟩ := T.cls
  obtain ⟨t1, ho⟩ := exo_at I.hok e
  obtain ⟨hp, g, d, t, os⟩ := s
  refine wpAny_call (codeAny_of_tree ?_)
  show wpAny _ A.in1 (callAny (.ref u) ⟨us, []⟩) _ _ _
  simp only [callAny]
  refine wpAny_bind (wpAny_load hu ?_)
  simp only [PySem.W.kxs_mw, show (Value.type "method-wrapper" == Value.type "method" || Value.type "method-wrapper" == Value.type "builtin_function_or_method" || Value.type "method-wrapper" == Value.type "method-wrapper") = true by decide, if_true]
  refine PySem.W.KFB.if_so (by decide) ?_
  refine wpAny_bind (PySem.W.check_bound_init F.excBase_ValueError.toExcCallFacts (I.kIn _ _ hC) ho rfl ?_)
  refine wpAny_bind (wpAny_pure (wpAny_pure ?_))
  refine ⟨plainId_quiet F.excBase_ValueError.init.plain _, codeAny_builtin F.excBase_ValueError.initEntry ?_⟩
  refine PySem.W.exc_init_tree (cls := .ref C) (t0 := t1) (dv := none) (c2 := .none) (c3 := .none) (b4 := .bool false) ho hl fun h' k hx _ => ?_
  have J := I.write (t' := t) (x := a) (e := a) (o := exo a C none) (by rw [e]; exact True.intro) (.inl rfl) k ⟨_, hx⟩ (exo_ok hx)
  have eu : upd H a (exo a C none) = H := by
    funext b
    by_cases hb : b = a
    · rw [hb, upd_same, e]
    · rw [upd_ne hb]
  rw [eu] at J
  exact h _ J
def spSup (K : PySem.W.Frag) (D : Addr) (at_ : Str) : Sp := fun vs H Q E => ∃ (a C : Addr) (r : V), vs = [.ref a, r] ∧ OexC K C ∧ PySem.W.mroIn K C (.ref D) = some true ∧ PySem.W.ks_superIn K C D "__init__" = some (some (.builtin "ValueError.__init__")) ∧
  PySem.W.subIn K (.ref C) (.type "ValueError") = some true ∧ PySem.W.findIn K (.ref C) at_ = some none ∧ H a = some (exo a C none) ∧ ∀ dx, H dx = none → dx ≠ a → Q .non (upd (upd H dx (exd dx [(at_, r)])) a (exo a C (some dx)))
abbrev supC (p1 : Str) (q : Nat → Pos) : Expr := .Call (.Attribute (.Call (.Name "super" (q 0)) [] [] (q 1)) "__init__" (q 2)) [.Name p1 (q 3)] [] (q 4)
abbrev supB (p0 p1 at_ : Str) (q : Nat → Pos) : List Stmt := [.Expr (supC p1 q) (q 5), .Assign [.Attribute (.Name p0 (q 6)) at_ (q 7)] (.Name p1 (q 8)) (q 9)]
structure SupF (K : PySem.W.Frag) (P : Program) (fI D cc cda : Addr) (qual p0 p1 at_ : Str) (params : Arguments) (q : Nat → Pos) (scope : Scope) (fd : FuncData) : Prop where
  lk : ∃ oc od dV kV doc pm an ct osl, fd = PySem.W.ksFn "__init__" qual params (supB p0 p1 at_ q) scope dV kV doc pm an (.ref cda) ct cc ∧ K.lookup fI = some { cls := oc, dict := od, data := .func fd, slots := osl }
  cd : PySem.W.codeIn K (.ref cda) qual = true
  code : ∃ ccl cdd vs ccs file tf, K.lookup cda = some { cls := ccl, dict := cdd, data := .fields vs, slots := ccs } ∧ vs[2]? = some (.str file tf) ∧ ((P.main.file : Str) == file) = true
  cell : ∃ cl cld csl, K.lookup cc = some { cls := cl, dict := cld, data := .cell (some (.ref D)), slots := csl }
  clsD : ∃ cdD, PySem.W.clsIn K D = some cdD
  any : PySem.W.nsIn K cStatics "thirdparty.any" = some none
  top : (P.main.scope.names.lookup ("super" : Str)).isSome = false
  ev : ∃ pl : Sem Bool, ∀ L : Addr, eval (supC p1 q) (supE qual scope L fI (.ref cda) cc) = (do
      let ov ← attributeBase (.Call (.Name "super" (q 0)) [] [] (q 1)) "__init__" (supE qual scope L fI (.ref cda) cc) (eval (.Call (.Name "super" (q 0)) [] [] (q 1)) (supE qual scope L fI (.ref cda) cc))
      standAt (q 2).atName
      let (f, first) ← holding [ov] (getMethod ov "__init__" pl)
      callWith (q 4) f first (backTo (q 4) (starEach [.Name p1 (q 3)] (supE qual scope L fI (.ref cda) cc))) [])
  sw1 : ∀ L : Addr, swapsWith (supC p1 q) none (q 5).line (supE qual scope L fI (.ref cda) cc) = pure false
  sw2 : ∀ L : Addr, swapsWith (.Name p1 (q 8)) (some (.Attribute (.Name p0 (q 6)) at_ (q 7))) (q 9).line (supE qual scope L fI (.ref cda) cc) = pure false
  self : ∃ ar, (params.posonlyargs ++ params.args).head? = some ar ∧ ar.arg = p0
  kind : scope.kind = .function
  co : scope.isCoroutine = false
  gen : scope.isGenerator = false
  names : ∀ y ∈ scope.names, y.2 ≠ .cell ∧ (y.2 = .free → y.1 = "__class__")
  ne : p0 ≠ p1
  l0 : scope.names.lookup p0 = some .local
  l1 : scope.names.lookup p1 = some .local
  ls : scope.names.lookup ("super" : Str) = some .globalImplicit
  lc : scope.names.lookup ("__class__" : Str) = some .free
  d0 : (p0 == ("__debug__" : Str)) = false ∧ (p0 == ("__classdict__" : Str)) = false
  d1 : (p1 == ("__debug__" : Str)) = false ∧ (p1 == ("__classdict__" : Str)) = false
theorem fn_sup {P : Program} {w : World} {K : PySem.W.Frag} {mg : Str → Option Value} {base : Heap} {fI D cc cda : Addr} {qual p0 p1 at_ : Str} {params : Arguments} {q : Nat → Pos} {scope : Scope} {fd : FuncData} (S : SupF K P fI D cc cda qual p0 p1 at_ params q scope fd) (hsup : mg "super" = none) :
    FnOk P w K mg base (L2.CX P w) 2 fI fd [p0, p1] (spSup K D at_) := by
  refine ⟨fun vs H Q E ⟨_, _, _, e, _⟩ => by rw [e]; rfl, fun A outer s H args us vs Q E hr e0 hb r h => ?_⟩
  obtain ⟨a, C, r1, rfl, T, hsub, hm, hB, hno, ha, hq⟩ := h
  obtain ⟨oc, od, dV, kV, doc, pm, an, ct, osl, rfl, lk⟩ := S.lk
  obtain ⟨ccl, cdd, cvs, ccs, file, tf, hcode, hvs, hfile⟩ := S.code
  obtain ⟨cl, cld, csl, hcell⟩ := S.cell
  obtain ⟨cdD, hD⟩ := S.clsD
  obtain ⟨pl, ev⟩ := S.ev
  obtain ⟨ar, har, har2⟩ := S.self
  obtain ⟨u0, u1, rfl, ra, rr⟩ := vals2 r
  cases ra
  have KX : K.In s.heap := e0.mod.kin.keeps fun b o e => (e0.bs b o e).1
  have lim : s.heap.NoLimit := e0.mod.nolimit.keeps fun b o e => (e0.bs b o e).1
  have binds : [p0, p1].zip [Value.ref a, u1] = [(p0, Value.ref a), (p1, u1)] := rfl
  rw [binds] at hb
  refine PySem.ks_codeAny_call_defAt hr.depth (KX _ _ lk) rfl lim (PySem.W.codeRec_of KX S.cd) rfl hb (fun y hy => (S.names y hy).1) (fun y hy => ?_) (fun h₁ hns kp => ?_) S.co S.gen S.kind
  · simp only [List.mem_cons, List.not_mem_nil, or_false] at hy
    rcases hy with rfl | rfl
    · exact S.l0
    · exact S.l1
  have I : Inv (supX P w K mg base [p0, p1] qual scope fI (.ref cda) cc A outer s H E) [] [some (.ref a), some r1] H { s with heap := h₁, toks := s.toks + ([(p0, Value.ref a), (p1, u1)] : List (Str × Value)).length } :=
    sup_start S.kind S.names S.ne S.l0 S.l1 hr.hd e0 hcell rfl rr hns kp
  have gv0 := hns
  obtain ⟨mb, hmb, hbb⟩ := e0.mod.blt
  have KX1 : K.In h₁ := I.kIn
  have ga : (fun y => ([(p0, Value.ref a), (p1, u1)] : List (Str × Value)).reverse.lookup y) p0 = some (.ref a) := by
    show ([(p1, u1), (p0, Value.ref a)] : List (Str × Value)).lookup p0 = some (.ref a)
    rw [List.lookup_cons, show (p0 == p1) = false by simpa using S.ne]
    simp
  show _root_.PySem.wpAt (model P w) (A.deeper (supE qual scope s.heap.objs.size fI (.ref cda) cc)) (.func (supB p0 p1 at_ q) (supE qual scope s.heap.objs.size fI (.ref cda) cc)) (execs (supB p0 p1 at_ q) (supE qual scope s.heap.objs.size fI (.ref cda) cc)) _ _ _
  refine ks_wpAt_execs_cons (ks_wpAt_Expr_any (ks_wpAt_MethodCall (pl := pl) ?_ (ev _)) (by unfold interactive; simp [S.kind]) (S.sw1 _))
  refine ks_wpAt_super_base S.ls S.lc (by decide) rfl (KX1 _ _ lk) rfl har rfl (KX1 _ _ hcode) rfl hvs hfile S.top ?_
  have oD : ∃ o : Obj, K.lookup D = some o ∧ o.data = .cls cdD := by
    unfold PySem.W.clsIn at hD
    split at hD
    · rename_i ho
      cases hD
      exact ⟨_, ho, rfl⟩
    · cases hD
  obtain ⟨oD, hoD, hdD⟩ := oD
  have lcell : h₁.IsCell cc (some (.ref D)) := ⟨_, KX1 _ _ hcell, rfl⟩
  have hcl : ([(("__class__" : Str), cc)] : List (Str × Addr)).lookup ("__class__" : Str) = some cc := by simp
  obtain ⟨t1, hox⟩ := exo_at I.hok ha
  refine PySem.W.ks_loadName_global S.kind S.ls (PySem.Calls.loadGlobal_builtin (mg := mg) (by exact e0.mod.glob.keeps I.bk) hsup (by exact hmb.keeps I.bk) ((hbb "super" (by decide)).trans PyProof.Rows.Boot.«super») ⟨rfl, ?_⟩)
  refine wpAny_loadName_free S.kind S.lc hcl lcell ?_
  refine wpAny_loadName_local (m := fun y => ([(p0, Value.ref a), (p1, u1)] : List (Str × Value)).reverse.lookup y) S.kind (by rw [har2]; exact S.l0) hns (by rw [har2]; exact ga) ?_
  refine PySem.ks_wpAny_isType_cls (KX1 _ _ hoD) hdD ⟨rfl, ?_⟩
  refine PySem.ks_wpAny_call_super (KX1 _ _ hoD) hdD hox rfl (fun c z => by cases z) (PySem.W.looks_mroIn KX1 hsub) fun h2 hso k2 => ?_
  have KX2 : K.In h2 := KX1.keeps k2
  have I2 := I.kept (t' := s.toks + ([(p0, Value.ref a), (p1, u1)] : List (Str × Value)).length) k2
  obtain ⟨nm, qq, NN, bs, bm, sn, sub, ab, col, dd, x0, x1, x2, x3, x5, hC, hbm⟩ := T.cls
  have hcd : ∃ cd, PySem.W.clsIn K C = some cd := by
    unfold PySem.W.clsIn
    rw [hC]
    exact ⟨_, rfl⟩
  obtain ⟨cdC, hcC⟩ := hcd
  have hal : PySem.W.alongIn K "__init__" ((cdC.mro.dropWhile (· != .ref D)).drop 1) = some (some (.builtin "ValueError.__init__")) := by
    unfold PySem.W.ks_superIn at hm
    rw [hcC] at hm
    exact hm
  have hox2 := k2 _ _ hox
  have hne : a ≠ C := fun z => by
    have y := KX2 _ _ hC
    rw [← z, hox2] at y
    have y2 := congrArg Obj.data (Option.some.inj y)
    cases y2
  refine PySem.W.kxs_getMethod PySem.W.kxs_ValueError hso (PySem.W.looks_opaque KX2 S.any) (l₀ := cdC.mro) (fun A Q E s k q => wpAny_bind ((PySem.W.looks_clsIn KX2 hcC) A _ E s k (wpAny_pure q))) rfl KX2 hal ?_ hne (by decide) ?_
  · exact (PySem.W.InstAt.type (od := none) ⟨hox2, rfl, rfl, trivial⟩).andThen (PySem.W.looks_subIn KX2 hB)
  have k3 : ∀ b o, h2.get? b = some o → (h2.push (PySem.W.kxs_mw "ValueError.__init__" a)).get? b = some o := fun b o e => Heap.get?_push_of_some _ e
  have I3 := I2.kept (t' := s.toks + ([(p0, Value.ref a), (p1, u1)] : List (Str × Value)).length + 1) k3
  have hmw := Heap.get?_push_size h2 (o := PySem.W.kxs_mw "ValueError.__init__" a) rfl
  refine PySem.W.kxs_callWith (i := "ValueError.__init__") (x := a) rfl ?_
  refine PySem.Calls.evalArgs_plain (PySem.Calls.spliced_cons ?_)
  have hns3 := hns.at fun o y => k3 _ _ (k2 _ _ y)
  refine wpAny_Name (wpAny_loadName_local (v := u1) S.kind S.l1 hns3 (by simp) ?_) S.d1.1
  refine PySem.Calls.spliced_nil ⟨hmw, ?_⟩
  refine sup_call (H := H) (X := supX P w K mg base [p0, p1] qual scope fI (.ref cda) cc A outer s H E) T I3 ha hmw (by rw [sizeLine_eq]; simp) fun s4 I4 => ?_
  refine wpAt_of_wpAny ?_
  have go := (pss_one (ps_ost (f := at_) (p' := q 7) (pos := q 9) (pe_var (X := supX P w K mg base [p0, p1] qual scope fI (.ref cda) cc A outer s H E) (i := 0) (pos := q 6) rfl (.inl S.l0) S.d0.1 S.d0.2) (pe_var (i := 1) (pos := q 8) rfl (.inl S.l1) S.d1.1 S.d1.2) (S.sw2 _))).run [] s4 [some (.ref a), some r1] H { nx := fun σ' H' => Q .non H', rt := fun _ _ => False } I4 ?_
  · refine wpAny_mono go (fun fl s' hs => ?_) fun e s' hs => hs
    cases fl with
    | next =>
      obtain ⟨σ', H', J, qz⟩ := hs
      exact ⟨.non, H', J.os, J.bare, J.base, J.hok, rfl, qz⟩
    | ret u =>
      obtain ⟨v, σ', H', J, rv, qz⟩ := hs
      exact False.elim qz
    | brk =>
      obtain ⟨_, _, _, qz⟩ := hs
      exact False.elim qz
    | cont =>
      obtain ⟨_, _, _, qz⟩ := hs
      exact False.elim qz
  · exact ⟨r1, rfl, .ref a, rfl, a, C, rfl, T, hno, .inl ⟨ha, hq⟩⟩
structure Xc (P : Program) (w : World) (K : PySem.W.Frag) (mg : Str → Option Value) (base : Heap) (c at_ : String) : Prop where
  ex : ∃ (C fI : Addr) (fd : FuncData) (ps : List Str), mg (Str.ofString c) = some (.ref C) ∧ OexC K C ∧ PySem.W.findIn K (.ref C) "__init__" = some (some (.ref fI)) ∧ PySem.W.typeIn K (.ref fI) = some (.type "function") ∧
    FnOk P w K mg base (L2.CX P w) 2 fI fd ps (spSup K C (Str.ofString at_)) ∧ Binds K fd ps [] ∧ PySem.W.mroIn K C (.ref C) = some true ∧ PySem.W.ks_superIn K C C "__init__" = some (some (.builtin "ValueError.__init__")) ∧
    PySem.W.subIn K (.ref C) (.type "ValueError") = some true ∧ PySem.W.findIn K (.ref C) (Str.ofString at_) = some none
abbrev XcX (X : Cx) (c at_ : String) : Prop := Xc X.prog X.w X.K X.mg X.base c at_
def mRaise (c at_ : String) (m : ME) : MS := fun δ μ => (m δ μ).thn fun s δ1 μ1 => .exc ⟨c, at_, s.d⟩ δ1 μ1
theorem js_raise {X : Cx} {W : WX} {k : Nat} {N : List Str} {sc : Scope} {c at_ : String} {e : Expr} {m : ME} {p pos pos' : Pos} (C : Cs X W k N sc) (V : XcX X c at_) (hk : 3 ≤ k) (hg : glC sc (Str.ofString c) = true) (he : JE X W e m)
    (hs : starEach [e] X.env = (false, eval e X.env) :: starEach [] X.env := by rfl) : JS X W (.Raise (some (.Call (.Name (Str.ofString c) p) [e] [] pos)) none pos') (mRaise c at_ m) := by
  obtain ⟨A, fI, fd, ps, h1, T, h3, h4, F, hb, h6, h7, h8, h9⟩ := V.ex
  obtain ⟨g1, g2, g3⟩ := C.gl hg
  have mk := pmk_oex (pos := pos) (p := p) T h3 h4 F ((C.rm.mono hk).r) hb (.nil) (passes_call C.tk (fun _ _ _ _ z => z.elim)) g1 h1 (ja_cons he ja_nil hs) g2 hs
  refine (ps_raise C.calm C.tk mk).imp fun D σ H ⟨Z, F, ρ, μ, δ, S, q⟩ => ?_
  refine ⟨Z, F, ρ, μ, δ, S, ?_⟩
  unfold mRaise at q
  show FinE X W Z F ρ σ _ ((m δ μ).bind fun s δ1 μ1 => (evA [] δ1 μ1).bind fun ds δ2 μ2 => .ok (s.d :: ds) δ2 μ2)
  cases em : m δ μ with
  | bad => rw [em] at q; exact q
  | exc x δ1 μ1 => rw [em] at q; exact fun c d H' F' ρ' l lr S e => q c d σ H' F' ρ' l lr S e
  | ok s δ1 μ1 =>
    rw [em] at q
    intro H1 F1 ρ1 l1 lr1 S1 vs hv
    cases hv with
    | @cons r _ _ _ hv hn =>
      cases hn
      refine ⟨by simp, fun a ha => ?_⟩
      refine ⟨a, A, _, rfl, T, h6, h7, h8, h9, upd_same, fun dx hdx hne => ?_⟩
      have hdx1 : H1 dx = none := by
        rw [upd_ne hne] at hdx
        exact hdx
      refine ⟨rfl, dx, [(Str.ofString at_, r)], upd_same, by rw [upd_ne hne, upd_same], hdx1, ?_⟩
      have eH : upd (del (upd (upd (upd H1 a (exo a A none)) dx (exd dx [(Str.ofString at_, r)])) a (exo a A (some dx))) a) dx (.xd [(Str.ofString at_, r)]) = upd H1 dx (.xd [(Str.ofString at_, r)]) := by
        funext b
        by_cases hb : b = dx
        · rw [hb, upd_same, upd_same]
        · rw [upd_ne hb, upd_ne hb]
          by_cases hb2 : b = a
          · rw [hb2, del_same, ha]
          · rw [del_ne hb2, upd_ne hb2, upd_ne hb, upd_ne hb2]
      rw [eH]
      have S2 := S1.laid (o := .xd [(Str.ofString at_, r)]) hdx1
      have N1 := S1.notIn hdx1
      obtain ⟨l3, S3⟩ := S2.freeze upd_same ⟨N1.1, N1.2.1, N1.2.2.1⟩ N1.2.2.2
      exact q _ _ σ _ _ _ (l1.trans l3) lr1 S3 ⟨A, dx, _, rfl, rfl, h1, .inl upd_same, hv.up l3.to fun _ _ h => h⟩
structure SupS (P : Program) (st : Stmt) (p0 p1 at_ : Str) (q : Nat → Pos) (sc : Scope) : Prop where
  scope : defScope st = sc
  body : defBody st = supB p0 p1 at_ q
  self : ∃ ar, ((defArgs st).posonlyargs ++ (defArgs st).args).head? = some ar ∧ ar.arg = p0
  top : (P.main.scope.names.lookup ("super" : Str)).isSome = false
  ev : ∀ (qual : Str) (fI : Addr) (cda : Value) (cc : Addr), ∃ pl : Sem Bool, ∀ L : Addr, eval (supC p1 q) (supE qual sc L fI cda cc) = (do
      let ov ← attributeBase (.Call (.Name "super" (q 0)) [] [] (q 1)) "__init__" (supE qual sc L fI cda cc) (eval (.Call (.Name "super" (q 0)) [] [] (q 1)) (supE qual sc L fI cda cc))
      standAt (q 2).atName
      let (f, first) ← holding [ov] (getMethod ov "__init__" pl)
      callWith (q 4) f first (backTo (q 4) (starEach [.Name p1 (q 3)] (supE qual sc L fI cda cc))) [])
  sw1 : ∀ (qual : Str) (fI : Addr) (cda : Value) (cc L : Addr), swapsWith (supC p1 q) none (q 5).line (supE qual sc L fI cda cc) = pure false
  sw2 : ∀ (qual : Str) (fI : Addr) (cda : Value) (cc L : Addr), swapsWith (.Name p1 (q 8)) (some (.Attribute (.Name p0 (q 6)) at_ (q 7))) (q 9).line (supE qual sc L fI cda cc) = pure false
  kind : sc.kind = .function
  co : sc.isCoroutine = false
  gen : sc.isGenerator = false
  names : ∀ y ∈ sc.names, y.2 ≠ .cell ∧ (y.2 = .free → y.1 = "__class__")
  ne : p0 ≠ p1
  l0 : sc.names.lookup p0 = some .local
  l1 : sc.names.lookup p1 = some .local
  ls : sc.names.lookup ("super" : Str) = some .globalImplicit
  lc : sc.names.lookup ("__class__" : Str) = some .free
  d0 : (p0 == ("__debug__" : Str)) = false ∧ (p0 == ("__classdict__" : Str)) = false
  d1 : (p1 == ("__debug__" : Str)) = false ∧ (p1 == ("__classdict__" : Str)) = false
theorem xc_of {P : Program} {w : World} {K : PySem.W.Frag} {mg : Str → Option Value} {base : Heap} {c at_ : String} {st : Stmt} {p0 p1 : Str} {q : Nat → Pos} {sc : Scope} {C fI cc cda : Addr} {qual nm qn file : Str} {tf : Tok} {NN : Addr} {bs bm : List Value} {sn : List Str} {sub : List Value} {ab : Bool} {col : Option Bool} {dd : Option Addr} {k0 k1 k2 k3 k5 : Option Value}
    {oc kV doc pm ct ccl cl : Value} {od an cdd cld : Option Addr} {osl ccs csl : Array (Option Value)} {vs : Array Value}
    (S : SupS P st p0 p1 (Str.ofString at_) q sc) (hm : mg (Str.ofString c) = some (.ref C)) (hsup : mg "super" = none) (hC : K.lookup C = some (excClassObj nm qn C NN bs bm true sn sub ab col dd k0 k1 k2 k3 k5 "ValueError.__new__")) (hbm : PySem.HandSPX.refsVE bm = true)
    (sa : PySem.W.findIn K (.ref C) "__setattr__" = some (some (.builtin "object.__setattr__"))) (exC : PySem.W.subIn K (.ref C) (.type "BaseException") = some true) (tyC : PySem.W.typeIn K (.ref C) = some (.type "type")) (kC : PySem.W.keepIn K (.ref C) = true)
    (iC : PySem.W.findIn K (.ref C) "__init__" = some (some (.ref fI))) (tI : PySem.W.typeIn K (.ref fI) = some (.type "function"))
    (lI : K.lookup fI = some { cls := oc, dict := od, data := .func (PySem.W.ksFn "__init__" qual (defArgs st) (defBody st) (defScope st) .none kV doc pm an (.ref cda) ct cc), slots := osl })
    (cI : PySem.W.codeIn K (.ref cda) qual = true) (lcd : K.lookup cda = some { cls := ccl, dict := cdd, data := .fields vs, slots := ccs }) (hvs : vs[2]? = some (.str file tf)) (hfile : ((P.main.file : Str) == file) = true)
    (lcc : K.lookup cc = some { cls := cl, dict := cld, data := .cell (some (.ref C)), slots := csl }) (any : PySem.W.nsIn K cStatics "thirdparty.any" = some none) (mro : PySem.W.mroIn K C (.ref C) = some true)
    (sup : PySem.W.ks_superIn K C C "__init__" = some (some (.builtin "ValueError.__init__"))) (sB : PySem.W.subIn K (.ref C) (.type "ValueError") = some true) (fat : PySem.W.findIn K (.ref C) (Str.ofString at_) = some none)
    (hb : ∀ us : List Value, us.length = [p0, p1].length → bindArgs (PySem.W.ksFn "__init__" qual (defArgs st) (defBody st) (defScope st) .none kV doc pm an (.ref cda) ct cc) ⟨us, []⟩ = pure ([p0, p1].zip us)) : Xc P w K mg base c at_ := by
  have hcls : ∃ cd, PySem.W.clsIn K C = some cd := by
    unfold PySem.W.clsIn
    rw [hC]
    exact ⟨_, rfl⟩
  obtain ⟨pl, ev⟩ := S.ev qual fI (.ref cda) cc
  have e1 := S.scope
  have e2 := S.body
  have F : SupF K P fI C cc cda qual p0 p1 (Str.ofString at_) (defArgs st) q sc (PySem.W.ksFn "__init__" qual (defArgs st) (defBody st) (defScope st) .none kV doc pm an (.ref cda) ct cc) :=
    ⟨⟨oc, od, .none, kV, doc, pm, an, ct, osl, by rw [e1, e2], lI⟩, cI, ⟨_, _, _, _, _, _, lcd, hvs, hfile⟩, ⟨_, _, _, lcc⟩, hcls, any, S.top, ⟨pl, ev⟩, S.sw1 _ _ _ _, S.sw2 _ _ _ _, S.self, S.kind, S.co, S.gen, S.names, S.ne, S.l0, S.l1, S.ls, S.lc, S.d0, S.d1⟩
  exact ⟨C, fI, _, _, hm, ⟨⟨_, _, _, _, _, _, _, _, _, _, _, _, _, _, _, hC, hbm⟩, sa, exC, tyC, kC⟩, iC, tI, fn_sup F hsup, .all hb, mro, sup, sB, fat⟩
end FL
namespace FL
open PySem PySem.Spec PyProof.Rows L2 LamX
section
variable {K : PySem.W.Frag} {mg : Str → Option Value} {Z F : Hp} {ρ : List Addr} {μ : Mem} {δ : FL.Loc} {σ : L2.St} {H : Hp}
theorem Sim.tabAt {j : Nat} {P : Addr} {q : Str} (S : Sim K mg Z F ρ μ δ σ H) (e : μ[j]? = some (.tab P q)) : ρ[j]? = some P ∧ ∃ ps : Array Value, H P = some (.tbl ps) ∧ TriplesOk ps.toList ∧ ∀ (pos : Pos) (cv : Value), codeAmong pos ps.toList = some cv → ∃ c, cv = .ref c ∧ F c = some (CodeO c q) := by
  obtain ⟨a, e1, _, _, r⟩ := S.mem j _ e
  obtain ⟨rfl, ps, h1, h2, h3⟩ := r
  exact ⟨e1, ps, h1, h2, h3⟩
theorem Sim.tabNew {j : Nat} {P c : Addr} {q : Str} {pos : Pos} {ps : Array Value} (S : Sim K mg Z F ρ μ δ σ H) (e : μ[j]? = some (.tab P q)) (hP : H P = some (.tbl ps)) (ht : TriplesOk ps.toList)
    (ha : ∀ (p : Pos) (cv : Value), codeAmong p ps.toList = some cv → ∃ c, cv = .ref c ∧ F c = some (CodeO c q)) (hc : H c = none) :
    ∃ F1, Le Z F F1 ∧ F1 c = some (CodeO c q) ∧ Sim K mg Z F1 ρ μ δ σ (upd (upd H P (.tbl (ps ++ #[rawInt pos.line, rawInt pos.col, .ref c]))) c (CodeO c q)) := by
  have nPc : P ≠ c := ne_of_none hP hc
  obtain ⟨b1, b2, b3, b4⟩ := S.notIn hc
  have S1 := S.laid (o := CodeO c q) hc
  obtain ⟨l, S2⟩ := S1.freeze upd_same ⟨b1, b2, b3⟩ b4
  obtain ⟨ep, _⟩ := S.tabAt e
  have eL : (ps ++ #[rawInt pos.line, rawInt pos.col, .ref c]).toList = ps.toList ++ [rawInt pos.line, rawInt pos.col, .ref c] := by simp
  have S3 := S2.writeM (c' := .tab P q) (o := .tbl (ps ++ #[rawInt pos.line, rawInt pos.col, .ref c])) e ep ⟨rfl, _, upd_same, by rw [eL]; exact PySem.TriplesOk_snoc _ _ _ _ ht, fun p' cv hcv => by
    rw [eL] at hcv
    rcases among_app _ ht hcv with z | z
    · obtain ⟨c0, e1, e2⟩ := ha p' cv z
      exact ⟨c0, e1, l.to _ _ e2⟩
    · exact ⟨c, z, upd_same⟩⟩
  have em : μ.set j (.tab P q) = μ := by
    apply List.ext_getElem?
    intro i
    by_cases z : i = j
    · subst z
      rw [List.getElem?_set_self (List.getElem?_eq_some_iff.mp e).1, e]
    · rw [List.getElem?_set_ne (Ne.symm z)]
  have eH : upd (upd H c (CodeO c q)) P (.tbl (ps ++ #[rawInt pos.line, rawInt pos.col, .ref c])) = upd (upd H P (.tbl (ps ++ #[rawInt pos.line, rawInt pos.col, .ref c]))) c (CodeO c q) := by
    funext b
    by_cases h1 : b = c
    · rw [h1, upd_same, upd_ne (Ne.symm nPc), upd_same]
    · by_cases h2 : b = P
      · rw [h2, upd_same, upd_ne nPc, upd_same]
      · rw [upd_ne h2, upd_ne h1, upd_ne h1, upd_ne h2]
  rw [em, eH] at S3
  exact ⟨_, l, upd_same, S3⟩
def hide (δ : FL.Loc) : FL.Loc := δ.map fun o => match o with
  | some (.fr d) => some (.fr d)
  | _ => none
theorem hide_fr {i : Nat} {s : FL.Slot} (e : (hide δ)[i]? = some (some s)) : ∃ d, s = .fr d ∧ δ[i]? = some (some (.fr d)) := by
  unfold hide at e
  rw [List.getElem?_map] at e
  cases q : δ[i]? with
  | none => rw [q] at e; cases e
  | some o =>
    rw [q] at e
    cases o with
    | none => cases e
    | some t =>
      cases t with
      | fr d => cases e; exact ⟨d, rfl, rfl⟩
      | own c => cases e
theorem Sim.borrow {Z1 F1 : Hp} {ρ1 : List Addr} {μ1 : Mem} {H1 : Hp} (S : Sim K mg Z F ρ μ δ σ H) (S1 : Sim K mg Z1 F1 ρ1 μ1 [] [] H1) (l : ∀ p o, F p = some o → F1 p = some o) (lr : ∀ (k : Nat) p, ρ[k]? = some p → ρ1[k]? = some p) :
    Sim K mg Z1 F1 ρ1 μ1 (hide δ) σ H1 := by
  refine ⟨S1.le, S1.zk, by unfold hide; rw [List.length_map]; exact S.len, fun i s e => ?_, fun i j p s s' e => ?_, S1.mem, S1.mlen, S1.nod⟩
  · obtain ⟨d, rfl, e2⟩ := hide_fr e
    obtain ⟨v, ev, r⟩ := S.slot i _ e2
    exact ⟨v, ev, Rep.up l lr r⟩
  · obtain ⟨d, e1, _⟩ := hide_fr e
    cases e1
end
def lmSB (N : List Str) (sc scope : Scope) : Bool :=
  decide (scope.kind = .function) && !scope.isCoroutine && !scope.isGenerator && scope.names.all fun y => !decide (y.2 = .cell) && (!decide (y.2 = .local) || !decide (y.1 ∈ N)) && (!decide (y.2 = .free) || decide (sc.names.lookup y.1 = some .cell) || decide (sc.names.lookup y.1 = some .free))
theorem lmS_by {N : List Str} {sc scope : Scope} (h : lmSB N sc scope = true) : LmS N sc scope := by
  unfold lmSB at h
  simp only [Bool.and_eq_true, Bool.or_eq_true, Bool.not_eq_true', decide_eq_true_eq, decide_eq_false_iff_not, List.all_eq_true] at h
  obtain ⟨⟨⟨a1, a2⟩, a3⟩, a4⟩ := h
  refine ⟨a1, a2, a3, fun y hy => ⟨(a4 y hy).1.1, fun e => ?_⟩, fun y hy e => ?_⟩
  · rcases (a4 y hy).1.2 with z | z
    · exact absurd e z
    · exact z
  · rcases (a4 y hy).2 with (z | z) | z
    · exact absurd e z
    · exact Or.inl z
    · exact Or.inr z
section
variable {X : Cx} {pins : List (Addr × Obj)} {σ : L2.St} {H HZ : Hp} {s s1 : Shared}
theorem lm_start {A : Around} {outer : List Env} {E : XK} {scope : Scope} {f c' : Addr} {h₁ : Heap} {tk : Nat} {bs : List (Str × Value)} (J : Inv X pins σ H s) (L : LmS X.N X.env.scope scope) (e0 : Env0 X.prog X.w X.K X.mg X.base A outer s1 HZ) (hd : A.handled = none)
    (un : Un (frs X.stack) [] H HZ s.heap s1.heap) (hns : h₁.Ns s1.heap.objs.size fun y => bs.reverse.lookup y) (kp : ∀ b o, s1.heap.get? b = some o → h₁.get? b = some o) :
    Inv (lamCx X A outer s1 HZ E scope f c') [] σ HZ { s1 with heap := h₁, toks := tk } := by
  have has := L.has J.ok
  have down : ∀ {y c}, (cloFrom X.env.cells scope.names []).lookup y = some c → X.env.cells.lookup y = some c := fun {y c} q => by
    rcases cloFrom_mem (PySem.mem_of_lookup q) with hm | ⟨m1, m2⟩
    · cases hm
    · obtain ⟨d, hd'⟩ := has _ m1 rfl
      have hd' : X.env.cells.lookup y = some d := hd'
      have ed : c = d := by
        rw [m2, hd'] <;> rfl
      rw [ed]
      exact hd'
  have find : ∀ {y}, scope.names.lookup y = some .free → ∃ c, (cloFrom X.env.cells scope.names []).lookup y = some c := fun {y} hl =>
    mem_lookup (cloFrom_has (cells := X.env.cells) (acc := []) (PySem.mem_of_lookup hl : (y, NameKind.free) ∈ scope.names))
  have stays : ∀ {c : Addr} {v : Option Value}, H c = none → s.heap.IsCell c v → h₁.IsCell c v := fun {c v} n ⟨o, ho, hc⟩ => by
    obtain ⟨sl, q⟩ := un.any ho n (by simp)
    exact ⟨_, kp _ _ q, hc⟩
  have none_ex : ∀ b : Addr, b ∉ (lamCx X A outer s1 HZ E scope f c').ex := fun b z => nomatch (show b ∈ ([] : List Addr) from z)
  refine ⟨⟨e0.mod, L.kind, rfl, rfl, Nat.le_refl _, fun y z c e1 e2 => J.ok.inj y z c (down e1) (down e2), fun y hy => ?_, fun y c z _ => ?_, fun _ => hd, Around.frames_deeper e0.frames, .inr ⟨rfl, rfl⟩, fun b z => absurd z (none_ex b), e0.bs, e0.bsz, fun b _ _ => none_ex b,
      fun b z => absurd z (none_ex b), e0.funs, e0.frf⟩,
    rfl, e0.bare, Un.kept kp, ⟨_, hns, fun i y v e1 e2 e3 => ?_⟩, fun y c e => ?_, e0.hok.fresh (Nat.le_refl _), fun y c e => ?_, fun q hq => (nomatch (show q ∈ ([] : List (Addr × Obj)) ++ [] from hq)), e0.hok.kept kp, J.len⟩
  · have hy : scope.names.lookup y = some .cell ∨ scope.names.lookup y = some .free := hy
    rcases hy with hy | hy
    · exact absurd rfl (L.own _ (PySem.mem_of_lookup hy)).1
    · exact find hy
  · exact absurd (show false = true from z) (by decide)
  · have e3 : Vis scope y := e3
    have e1 : X.N[i]? = some y := e1
    rcases e3 with k | k | k
    · exact absurd (List.mem_of_getElem? e1) ((L.own _ (PySem.mem_of_lookup k)).2 rfl)
    · exact absurd rfl (L.own _ (PySem.mem_of_lookup k)).1
    · obtain ⟨m, hn, hl⟩ := J.loc
      have hvis : Vis X.env.scope y := (L.free _ (PySem.mem_of_lookup k) rfl).elim (fun k => .inr (.inl k)) (fun k => .inr (.inr k))
      obtain ⟨w', r, q⟩ := hl i y v e1 e2 hvis
      obtain ⟨c2, h2⟩ := find k
      refine ⟨w', r, .inr ⟨.inr k, c2, h2, ?_⟩⟩
      have c1 := down h2
      rcases q with ⟨k', _⟩ | ⟨_, c3, e', z⟩
      · have k' : X.env.scope.names.lookup y = some .local := k'
        rcases L.free _ (PySem.mem_of_lookup k) rfl with k2 | k2
        · rw [show X.env.scope.names.lookup y = _ from k2] at k'
          cases k'
        · rw [show X.env.scope.names.lookup y = _ from k2] at k'
          cases k'
      · rw [c1] at e'
        cases e'
        exact stays (J.freeC y _ c1) z
  · obtain ⟨w', z⟩ := J.cell y c (down e)
    exact ⟨w', stays (J.freeC y c (down e)) z⟩
  · obtain ⟨v, o, ho, _⟩ := J.cell y c (down e)
    exact un.free c o ho (J.freeC y c (down e)) (by simp)
structure Act (P : Program) (w : World) (K : PySem.W.Frag) (mg : Str → Option Value) (base : Heap) (k : Nat) (out0 : List Env) (f : Addr) (F0 : Hp) (ρ0 : List Addr) (act : Mem → OutF) (s0 : Shared) (H0 : Hp) : Prop where
  at_ : (∃ oc od fd osl, s0.heap.get? f = some { cls := oc, dict := od, data := .func fd, slots := osl }) ∧ H0 f = none ∧ f ∉ frs out0
  run : ∀ (A : Around) (outer : List Env) (s : Shared) (H : Hp) (Q : VK) (E : XK) (Z F : Hp) (ρ : List Addr) (μ : Mem), RmG k A → Env0 P w K mg base A outer s H → Un (frs out0) [] H0 H s0.heap s.heap → (∀ p o, F0 p = some o → F p = some o) → (∀ (k : Nat) p, ρ0[k]? = some p → ρ[k]? = some p) →
    Sim K mg Z F ρ μ [] [] H → FinF K mg Z F ρ Q E (act μ) → codeAny (model P w) A (.call (.ref f) ⟨[], []⟩) (CR (L2.CX P w) outer P w H s Q E) s
def actOf (m : ME) (δ : FL.Loc) : Mem → OutF := fun μ => match m (hide δ) μ with
  | .ok s _ μ' => .ok s μ'
  | .exc x _ μ' => .exc x μ'
  | .bad => .bad
abbrev lamW (E : XK) : WX := fun c d _ H => E c d H
theorem act_ok {k : Nat} {f c' : Addr} {q : Str} {params : Arguments} {body : Expr} {scope : Scope} {dV doc pm ctv : Value} {bs : List (Str × Value)} {F0 Z0 : Hp} {ρ0 : List Addr} {μ0 : Mem} {δ : FL.Loc} {m : ME} (I : Inv X pins σ H s) (S : SimX X Z0 F0 ρ0 μ0 δ σ H) (L : LmS X.N X.env.scope scope) (hN : X.N.Nodup)
    (eq : X.env.qual ++ "<lambda>" = q)
    (hf : s.heap.get? f = some (PySem.W.kdv_obj "<lambda>" q params (.expr body) scope (cloFrom X.env.cells scope.names []) dV doc pm c' ctv)) (hfn : H f = none) (hfr : f ∉ frs X.stack) (hco : F0 c' = some (CodeO c' q))
    (hbind : ∀ s1 : Shared, Un (frs X.stack) [] H H s.heap s.heap → (∀ b o, s.heap.get? b = some o → H b = none → b ∉ frs X.stack → s1.heap.get? b = some o) → BindsTo s1 (PySem.W.kdv_fn "<lambda>" q params (.expr body) scope (cloFrom X.env.cells scope.names []) dV doc pm (.ref c') ctv) ⟨[], []⟩ bs)
    (hloc : ∀ y ∈ bs, scope.names.lookup y.1 = some .local)
    (hbody : ∀ (A : Around) (outer : List Env) (s : Shared) (H : Hp) (E : XK), Cs (lamCx X A outer s H E scope f c') (lamW E) k X.N scope → JE (lamCx X A outer s H E scope f c') (lamW E) body m) :
    Act X.prog X.w X.K X.mg X.base (k + 1) X.stack f F0 ρ0 (actOf m δ) s H := by
  subst eq
  refine ⟨⟨⟨_, _, _, _, hf⟩, hfn, hfr⟩, fun A outer s1 HZ Q E Z F ρ μ hr e0 un l lr S1 fin => ?_⟩
  have kept : ∀ b o, s.heap.get? b = some o → H b = none → b ∉ frs X.stack → s1.heap.get? b = some o := fun b o e n hb => un.keep b o e n hb (by simp)
  have of1 := kept f _ hf hfn hfr
  have hc1 : HZ c' = some (CodeO c' (X.env.qual ++ "<lambda>")) := by
    rcases S1.le c' _ (l _ _ hco) with z | ⟨_, _, z, _⟩
    · exact z
    · unfold CodeO at z
      cases z
  obtain ⟨⟨oc, vs, t, hoc, hdc, hvc⟩, _, _⟩ := e0.hok c' _ hc1
  have lim : s1.heap.NoLimit := e0.mod.nolimit.keeps fun b o e => (e0.bs b o e).1
  refine PySem.W.kla_callFunE hr.r.depth of1 rfl L.co L.gen rfl ⟨c', oc, vs, t, rfl, hoc, hdc, hvc⟩ (hbind s1 (Un.kept fun _ _ z => z) kept _ _ _ _ ?_)
  refine wpAny_newFunctionEnv (fun y hy => (L.own y hy).1) hloc (fun h₁ hns hsb => ⟨lim.fresh _ hsb, ?_⟩) L.kind
  show codeAny _ _ (.expr body (lamEnv X scope s1.heap.objs.size f c')) _ _
  have kp : ∀ b o, s1.heap.get? b = some o → h₁.get? b = some o := fun b o e => hsb.extBut b o (Nat.ne_of_lt (Heap.lt_size e)) (Heap.get?_push_of_some _ e)
  have J : Inv (lamCx X A outer s1 HZ E scope f c') [] σ HZ { s1 with heap := h₁, toks := s1.toks + bs.length } := lm_start I L e0 hr.r.hd un hns kp
  have C : Cs (lamCx X A outer s1 HZ E scope f c') (lamW E) k X.N scope := ⟨rfl, hr.deeper _, takes_of rfl rfl rfl rfl, rfl, rfl, hN⟩
  refine PySem.W.kla_codeExpr (wpAny_mono ((hbody A outer s1 HZ E C).run [] _ σ HZ Q J ⟨Z, F, ρ, μ, hide δ, S.borrow S1 l lr, ?_⟩) (fun v s' hq => ?_) fun e s' hq => hq)
  · unfold actOf at fin
    cases em : m (hide δ) μ with
    | ok sl δ' μ' =>
      rw [em] at fin
      exact fun H' F' ρ' l2 lr2 S2 v vr => fin v H' F' ρ' l2 lr2 S2.drop vr.r
    | exc x δ' μ' =>
      rw [em] at fin
      exact fun c d H' F' ρ' l2 lr2 S2 er => fin c d H' F' ρ' l2 lr2 S2.drop er
    | bad => rw [em] at fin; exact fin
  · obtain ⟨w', H', J', rv, q⟩ := hq
    exact ⟨w', H', J'.os, J'.bare, J'.base, J'.hok, rv, q⟩
end
section
variable {X : Cx} {pins : List (Addr × Obj)} {σ : L2.St} {H Z F : Hp} {ρ : List Addr} {μ : Mem} {δ : FL.Loc} {s : Shared}
theorem nofr_of (I : Inv X pins σ H s) {f : Addr} (hf : s.heap.objs.size ≤ f) : f ∉ frs X.stack := fun z => by
  rcases List.mem_cons.mp (I.stkSub _ z) with e | e
  · have h1 := I.lt
    rw [← e] at h1
    exact absurd (Nat.lt_of_lt_of_le h1 hf) (Nat.lt_irrefl _)
  · exact I.nofs hf e
theorem lam_tail {j : Nat} {c P : Addr} {q : Str} {params : Arguments} {body : Expr} {scope : Scope} {dV : Value} {pos : Pos} {fl : Nat} {E : Value → Shared → Prop} {Q : Value → Shared → Prop} (I : Inv X pins σ H s) (S : SimX X Z F ρ μ δ σ H) (hj : μ[j]? = some (.tab P q))
    (TB : TabB X.base X.mg c P) (hcode : X.env.code = .ref c) (eq : X.env.qual ++ "<lambda>" = q) (hfree : ∀ y ∈ scope.names, y.2 = .free → ∃ c, X.env.cells.lookup y.1 = some c)
    (h : ∀ (f c' : Addr) (pm ctv doc : Value) (H1 F1 : Hp) (s' : Shared), Inv X pins σ H1 s' → Le Z F F1 → SimX X Z F1 ρ μ δ σ H1 → s'.heap.get? f = some (PySem.W.kdv_obj "<lambda>" q params (.expr body) scope (cloFrom X.env.cells scope.names []) dV doc pm c' ctv) → H1 f = none → f ∉ frs X.stack →
      F1 c' = some (CodeO c' q) → (∀ b o, H b = none → s.heap.get? b = some o → s'.heap.get? b = some o ∧ H1 b = none) → Q (.ref f) s') :
    wpAny (model X.prog X.w) X.A (makeTail "<lambda>" (X.env.qual ++ "<lambda>") params (.expr body) scope X.env dV .none none pos fl) Q E s := by
  subst eq
  obtain ⟨_, ps, hP, ht, ha⟩ := S.tabAt hj
  have bP : s.heap.BuiltinsAt X.mg P := TB.bm.keeps I.bk
  have hP' : s.heap.get? P = some { cls := .none, data := .fields ps } := I.hok P _ hP
  cases hc : codeAmong pos ps.toList with
  | none =>
    refine PySem.W.kdv_makeTail (mg := X.mg) (c := c) (P := P) (ps := ps) (closure_ok hfree) I.ok.glob (I.mod.glob.keeps I.bk) hcode (TB.code.keeps I.bk) hP' ht hc TB.gP bP fun c' ctv doc h' tk hx hge hlt hrec htb => ?_
    obtain ⟨c2, oc, vs, t, e2, hoc, hd, hv⟩ := hrec
    cases e2
    have hsz : s.heap.objs.size ≤ h'.objs.size := Nat.le_trans hge (Nat.le_of_lt hlt)
    have nC : H c' = none := I.hok.fresh hge
    have I1 := inv_table (t' := tk) (more := #[rawInt pos.line, rawInt pos.col, .ref c']) (h' := h'.push (PySem.W.kdv_obj "<lambda>" (X.env.qual ++ "<lambda>") params (.expr body) scope (cloFrom X.env.cells scope.names []) dV doc ((X.mg "__name__").getD .none) c' ctv)) I hP
      (fun b o hb e => Heap.get?_push_of_some _ (hx b o hb e)) (Heap.get?_push_of_some _ htb) hge ⟨oc, vs, t, Heap.get?_push_of_some _ hoc, hd, hv⟩
    obtain ⟨F1, l, hF, S1⟩ := S.tabNew (pos := pos) hj hP ht ha nC
    refine h h'.objs.size c' ((X.mg "__name__").getD .none) ctv doc _ F1 _ I1 l S1 (Heap.get?_push_size _ rfl) ?_ (nofr_of I hsz) hF fun b o n e => ⟨Heap.get?_push_of_some _ (hx b o (fun z => ?_) e), ?_⟩
    · have n1 : h'.objs.size ≠ c' := Nat.ne_of_gt hlt
      have n2 : h'.objs.size ≠ P := Nat.ne_of_gt (Nat.lt_of_lt_of_le (Heap.lt_size hP') hsz)
      rw [upd_ne n1, upd_ne n2]
      exact I.hok.fresh hsz
    · rw [z, hP] at n
      cases n
    · have m1 : b ≠ c' := Nat.ne_of_lt (Nat.lt_of_lt_of_le (Heap.lt_size e) hge)
      have m2 : b ≠ P := fun z => by
        rw [z, hP] at n
        cases n
      rw [upd_ne m1, upd_ne m2]
      exact n
  | some cv =>
    obtain ⟨c', e, hco⟩ := ha pos cv hc
    subst e
    refine PySem.W.kdv_makeTailHit (mg := X.mg) (c := c) (P := P) (ps := ps) (closure_ok hfree) I.ok.glob (I.mod.glob.keeps I.bk) hcode (TB.code.keeps I.bk) hP' ht hc bP fun ctv doc h' tk hx hsz => ?_
    have I1 : Inv X pins σ H { s with heap := h'.push (PySem.W.kdv_obj "<lambda>" (X.env.qual ++ "<lambda>") params (.expr body) scope (cloFrom X.env.cells scope.names []) dV doc ((X.mg "__name__").getD .none) c' ctv), toks := tk } := I.kept fun b o e => Heap.get?_push_of_some _ (hx b o e)
    exact h h'.objs.size c' ((X.mg "__name__").getD .none) ctv doc H F _ I1 .refl S (Heap.get?_push_size _ rfl) (I.hok.fresh hsz) (nofr_of I hsz) hco fun b o n e => ⟨Heap.get?_push_of_some _ (hx b o e), n⟩
end
structure Hlp (P : Program) (w : World) (K : PySem.W.Frag) (mg : Str → Option Value) (base : Heap) (k : Nat) (x : Str) (m : (Mem → OutF) → Mem → OutF) : Prop where
  ex : ∃ g : Addr, mg x = some (.ref g) ∧ PySem.W.keepIn K (.ref g) = true ∧
    ∀ (A : Around) (outer : List Env) (s : Shared) (H : Hp) (f : Addr) (Q : VK) (E : XK) (act : Mem → OutF) (Z F : Hp) (ρ : List Addr) (μ : Mem), RmG (k + 1) A → Env0 P w K mg base A outer s H → Sim K mg Z F ρ μ [] [] H → Act P w K mg base k outer f F ρ act s H →
      FinF K mg Z F ρ Q E (m act μ) → codeAny (model P w) A (.call (.ref g) ⟨[.ref f], []⟩) (CR (L2.CX P w) outer P w H s Q E) s
def mLam (h : (Mem → OutF) → Mem → OutF) (j : Nat) (P : Addr) (q : Str) (m : ME) : ME := fun δ μ => match μ[j]? with
  | some (.tab P' q') => if P' = P ∧ q' = q then (match h (actOf m δ) μ with
    | .ok s μ' => .ok s δ μ'
    | .exc x μ' => .exc x δ μ'
    | .bad => .bad) else .bad
  | _ => .bad
section
variable {X : Cx} {W : WX} {k : Nat} {N : List Str} {sc : Scope} {q : Str} {P : Addr}
theorem lam_call {pins : List (Addr × Obj)} {σ : L2.St} {H Z F : Hp} {ρ : List Addr} {μ : Mem} {δ : FL.Loc} {s : Shared} {kh : Nat} {f c' : Addr} {params : Arguments} {body : Expr} {scope : Scope} {dV doc pm ctv : Value} {bs : List (Str × Value)} {h : (Mem → OutF) → Mem → OutF} {m : ME} {Q : VK} {g : Addr}
    (C : Cm X W k N sc q P) (hk : kh + 2 ≤ k) (hh : ∀ (A : Around) (outer : List Env) (s : Shared) (H : Hp) (f : Addr) (Q : VK) (E : XK) (act : Mem → OutF) (Z F : Hp) (ρ : List Addr) (μ : Mem), RmG (kh + 2) A → Env0 X.prog X.w X.K X.mg X.base A outer s H → Sim X.K X.mg Z F ρ μ [] [] H → Act X.prog X.w X.K X.mg X.base (kh + 1) outer f F ρ act s H →
      FinF X.K X.mg Z F ρ Q E (h act μ) → codeAny (model X.prog X.w) A (.call (.ref g) ⟨[.ref f], []⟩) (CR (L2.CX X.prog X.w) outer X.prog X.w H s Q E) s)
    (I : Inv X pins σ H s) (S : SimX X Z F ρ μ δ σ H) (L : LmS N sc scope)
    (hf : s.heap.get? f = some (PySem.W.kdv_obj "<lambda>" q params (.expr body) scope (cloFrom X.env.cells scope.names []) dV doc pm c' ctv)) (hfn : H f = none) (hfr : f ∉ frs X.stack) (hco : F c' = some (CodeO c' q))
    (hbind : ∀ s1 : Shared, (∀ b o, s.heap.get? b = some o → H b = none → b ∉ frs X.stack → s1.heap.get? b = some o) → BindsTo s1 (PySem.W.kdv_fn "<lambda>" q params (.expr body) scope (cloFrom X.env.cells scope.names []) dV doc pm (.ref c') ctv) ⟨[], []⟩ bs)
    (hloc : ∀ y ∈ bs, scope.names.lookup y.1 = some .local)
    (hbody : ∀ (Y : Cx) (V : WX), Y.prog = X.prog → Y.w = X.w → Y.K = X.K → Y.mg = X.mg → Y.base = X.base → Cs Y V kh N scope → JE Y V body m)
    (hq : FinE X W Z F ρ σ (fun s δ' _ F' ρ' H' => ∀ v, VR X.K X.mg Z F' ρ' δ' σ H' v s → Q v H') (match h (actOf m δ) μ with
      | .ok s μ' => .ok s δ μ'
      | .exc x μ' => .exc x δ μ'
      | .bad => .bad)) :
    wpAny (model X.prog X.w) X.A (call (.ref g) [.ref f]) (EP X pins σ Q) X.xe s := by
  have eN := C.hN
  have eS := C.hsc
  have act : Act X.prog X.w X.K X.mg X.base (kh + 1) X.stack f F ρ (actOf m δ) s H := act_ok I S (by rw [eN, eS]; exact L) (by rw [eN]; exact C.nd) C.qual hf hfn hfr hco (fun s1 _ kp => hbind s1 kp) hloc
    fun A outer s H E C2 => hbody _ _ rfl rfl rfl rfl rfl (by rw [eN] at C2; exact C2)
  have S0 := S.enter
  refine wpAny_call (codeAny_mono (hh X.A X.stack s H f Q (WE W σ) (actOf m δ) (zone Z H δ σ) F ρ μ (C.rm.mono hk) I.env0 S0 act ?_) fun res s' hr => ?_)
  · revert hq
    generalize h (actOf m δ) μ = o
    intro hq
    cases o with
    | ok sl μ2 => exact fun v H' F' ρ' l lr S' rv => hq H' F' ρ' (S.leLeave l) (S.leRLeave lr) (S.leave S' l lr) v (S.came rv)
    | exc x μ2 => exact fun c d H' F' ρ' l lr S' er => hq c d H' F' ρ' (S.leLeave l) (S.leRLeave lr) (S.leave S' l lr) er
    | bad => exact hq
  · cases res with
    | error e => exact passAt C.tk σ pins H s e s' I hr
    | ok fl =>
      cases fl with
      | ret u => exact I.after hr
      | next => exact False.elim hr
      | brk => exact False.elim hr
      | cont => exact False.elim hr
end
section
variable {X : Cx} {W : WX} {k : Nat} {N : List Str} {sc : Scope} {q : Str} {P : Addr} {j kh : Nat} {x : Str} {params : Arguments} {body : Expr} {scope : Scope} {lpos p pos : Pos} {h : (Mem → OutF) → Mem → OutF} {m : ME}
theorem Cm.lam0 (C : Cm X W k N sc q P) (hH : Hlp X.prog X.w X.K X.mg X.base (kh + 1) x h) (hk : kh + 2 ≤ k) (hg : glC sc x = true) (L : lmSB N sc scope = true)
    (hbody : ∀ (Y : Cx) (V : WX), Y.prog = X.prog → Y.w = X.w → Y.K = X.K → Y.mg = X.mg → Y.base = X.base → Cs Y V kh N scope → JE Y V body m)
    (hdef : defaultsOf params X.env = ([], []) := by rfl)
    (hbind : ∀ (q : Str) (cl : List (Str × Addr)) (doc pm cv ctv : Value), bindArgs (PySem.W.kdv_fn "<lambda>" q params (.expr body) scope cl .none doc pm cv ctv) ⟨[], []⟩ = pure [] := by intro _ _ _ _ _ _; rfl) :
    JE X W (.Call (.Name x p) [.Lambda params body scope lpos] [] pos) (mLam h j P q m) := by
  refine ⟨fun pins s σ H Q I hr => ?_⟩
  obtain ⟨Z, F, ρ, μ, δ, S, fin⟩ := hr
  obtain ⟨g, hm, hkp, hh⟩ := hH.ex
  obtain ⟨g1, g2, g3⟩ := C.gl hg
  obtain ⟨c, hcode, TB⟩ := C.tab
  have LS := lmS_by L
  have LX : LmS N X.env.scope scope := by rw [C.hsc]; exact LS
  unfold mLam at fin
  cases ej : μ[j]? with
  | none => simp only [ej] at fin; exact fin.elim
  | some o =>
    cases o with
    | lst _ => simp only [ej] at fin; exact fin.elim
    | dct _ _ => simp only [ej] at fin; exact fin.elim
    | ins _ _ _ _ => simp only [ej] at fin; exact fin.elim
    | idc _ => simp only [ej] at fin; exact fin.elim
    | tab P' q' =>
      simp only [ej] at fin
      by_cases hPq : P' = P ∧ q' = q
      · rw [if_pos hPq] at fin
        obtain ⟨rfl, rfl⟩ := hPq
        refine wpAny_Call_Name_kw (ld_glob I g1 hm ?_ g2)
        refine PySem.W.callWith_K (h₀ := X.base) I.ok.mod.kin hkp ?_ (by rfl) (by rfl)
        show wpAny _ _ (spliced ((false, eval (.Lambda params body scope lpos) X.env) :: backTo pos (starEach [] X.env))) _ _ s
        refine Calls.spliced_cons (PySem.W.kla_eval hdef ?_)
        rw [makeFunction_eq]
        simp only [List.zip_nil_right, List.filterMap_nil, List.isEmpty_nil, if_true, pure_bind]
        refine lam_tail I S ej TB hcode C.qual (fun y hy => LX.has I.ok y hy) fun f c' pm ctv doc H1 F1 s' I1 l S1 hf hfn hfr hco _ => ?_
        exact Calls.spliced_nil ⟨I1.kIn, lam_call C hk hh I1 S1 LS hf hfn hfr hco (fun s1 _ => .of_eq (hbind _ _ _ _ _ _)) (fun y hy => nomatch hy) hbody (fin.mono l .refl)⟩
      · rw [if_neg hPq] at fin
        exact fin.elim
theorem Cm.lam1 {y : Str} {ap dp : Pos} {i : Int} {di : Nat} (C : Cm X W k N sc q P) (hH : Hlp X.prog X.w X.K X.mg X.base (kh + 1) x h) (hk : kh + 2 ≤ k) (hg : glC sc x = true) (L : lmSB N sc scope = true)
    (hbody : ∀ (Y : Cx) (V : WX), Y.prog = X.prog → Y.w = X.w → Y.K = X.K → Y.mg = X.mg → Y.base = X.base → Cs Y V kh N scope → JE Y V body m)
    (hy : scope.names.lookup y = some .local)
    (hbind : ∀ (q : Str) (cl : List (Str × Addr)) (T : Addr) (doc pm cv ctv v : Value), ∃ kk, bindArgs (PySem.W.kdv_fn "<lambda>" q ⟨[], [⟨y, none, ap⟩], none, [], [], none, [.Constant (.int i) di dp]⟩ (.expr body) scope cl (.ref T) doc pm cv ctv) ⟨[], []⟩ = seqItems? (.ref T) >>= kk ∧ kk (some #[v]) = pure [(y, v)] := by intro _ _ _ _ _ _ _ _; exact ⟨_, rfl, rfl⟩) :
    JE X W (.Call (.Name x p) [.Lambda ⟨[], [⟨y, none, ap⟩], none, [], [], none, [.Constant (.int i) di dp]⟩ body scope lpos] [] pos) (mLam h j P q m) := by
  refine ⟨fun pins s σ H Q I hr => ?_⟩
  obtain ⟨Z, F, ρ, μ, δ, S, fin⟩ := hr
  obtain ⟨g, hm, hkp, hh⟩ := hH.ex
  obtain ⟨g1, g2, g3⟩ := C.gl hg
  obtain ⟨c, hcode, TB⟩ := C.tab
  have LS := lmS_by L
  have LX : LmS N X.env.scope scope := by rw [C.hsc]; exact LS
  unfold mLam at fin
  cases ej : μ[j]? with
  | none => simp only [ej] at fin; exact fin.elim
  | some o =>
    cases o with
    | lst _ => simp only [ej] at fin; exact fin.elim
    | dct _ _ => simp only [ej] at fin; exact fin.elim
    | ins _ _ _ _ => simp only [ej] at fin; exact fin.elim
    | idc _ => simp only [ej] at fin; exact fin.elim
    | tab P' q' =>
      simp only [ej] at fin
      by_cases hPq : P' = P ∧ q' = q
      · rw [if_pos hPq] at fin
        obtain ⟨rfl, rfl⟩ := hPq
        refine wpAny_Call_Name_kw (ld_glob I g1 hm ?_ g2)
        refine PySem.W.callWith_K (h₀ := X.base) I.ok.mod.kin hkp ?_ (by rfl) (by rfl)
        show wpAny _ _ (spliced ((false, eval (.Lambda ⟨[], [⟨y, none, ap⟩], none, [], [], none, [.Constant (.int i) di dp]⟩ body scope lpos) X.env) :: backTo pos (starEach [] X.env))) _ _ s
        refine Calls.spliced_cons (PySem.W.kdv_lam rfl rfl ?_)
        refine PySem.W.kdv_all1 (wpAny_Constant_int (PySem.W.kdv_all0 ?_))
        rw [makeFunction_eq]
        simp only [List.zip_nil_right, List.filterMap_nil, List.isEmpty_nil, if_true, pure_bind]
        refine wpAny_bind (wpAny_newTextTuple ?_)
        obtain ⟨hp, gg, dd, tk, os⟩ := s
        have I0 : Inv X pins σ H ⟨hp.push { cls := .type "tuple", data := .seq #[.int i tk] }, gg, dd, tk + 1, os⟩ := I.kept (t' := tk + 1) fun b o e => Heap.get?_push_of_some _ e
        have nT : H hp.objs.size = none := I.hok.fresh (Nat.le_refl _)
        have fT : hp.objs.size ∉ frs X.stack := nofr_of I (Nat.le_refl _)
        refine lam_tail I0 S ej TB hcode C.qual (fun y hy => LX.has I.ok y hy) fun f c' pm ctv doc H1 F1 s' I1 l S1 hf hfn hfr hco keep => ?_
        obtain ⟨gT, nT1⟩ := keep hp.objs.size _ nT (Heap.get?_push_size hp rfl)
        refine Calls.spliced_nil ⟨I1.kIn, lam_call (bs := [(y, .int i tk)]) C hk hh I1 S1 LS hf hfn hfr hco (fun s1 kp => ?_) (fun z hz => ?_) hbody (fin.mono l .refl)⟩
        · obtain ⟨kk, e1, e2⟩ := hbind q' (cloFrom X.env.cells scope.names []) hp.objs.size doc pm (.ref c') ctv (.int i tk)
          exact .of_defaults rfl (kp _ _ gT nT1 fT) rfl e1 e2
        · rcases List.mem_cons.mp hz with rfl | hz
          · exact hy
          · cases hz
      · rw [if_neg hPq] at fin
        exact fin.elim
end
section
variable {K : PySem.W.Frag} {mg : Str → Option Value} {Z F F1 : Hp} {ρ ρ1 : List Addr} {μ : Mem} {δ : FL.Loc} {σ : L2.St} {H : Hp} {Q : VK} {E : XK}
theorem FinF.mono {r : OutF} (h : FinF K mg Z F ρ Q E r) (l : Le Z F F1) (lr : LeR Z ρ ρ1) : FinF K mg Z F1 ρ1 Q E r := by
  cases r with
  | ok s μ => exact fun v H' F' ρ' l' lr' S rv => h v H' F' ρ' (l.trans l') (lr.trans lr') S rv
  | exc x μ => exact fun c d H' F' ρ' l' lr' S er => h c d H' F' ρ' (l.trans l') (lr.trans lr') S er
  | bad => exact h
theorem fin_S {X : Cx} {W : WX} {r : OutS} (hW : ∀ c d σ' H', E c d H' → W c d σ' H') (h : FinF X.K X.mg Z F ρ Q E r.fin) : FinS X W Z F ρ { nx := fun _ H' => Q .non H', rt := Q } r := by
  cases r with
  | nx δ μ' => exact fun σ' H' F' ρ' l lr S' => h .non H' F' ρ' l lr S'.drop .non
  | rt s μ' => exact fun v H' F' ρ' l lr S' rv => h v H' F' ρ' l lr S' rv
  | bk δ μ' => exact h.elim
  | ct δ μ' => exact h.elim
  | exc x δ μ' => exact fun c d σ' H' F' ρ' l lr S' er => hW _ _ _ _ (h c d H' F' ρ' l lr S'.drop er)
  | bad => exact h
theorem Sim.frs (S : Sim K mg Z F ρ μ [] [] H) (hl : σ.length = δ.length) (h : ∀ (i : Nat) s, δ[i]? = some (some s) → ∃ d v, s = .fr d ∧ σ[i]? = some (some v) ∧ Rep K mg F ρ v d) : Sim K mg Z F ρ μ δ σ H := by
  refine ⟨S.le, S.zk, hl, fun i s e => ?_, fun i j p s s' e => ?_, S.mem, S.mlen, S.nod⟩
  · obtain ⟨d, v, rfl, ev, r⟩ := h i s e
    exact ⟨v, ev, r⟩
  · obtain ⟨d, v, z, _⟩ := h i _ e
    cases z
end
def mHelp (sub : String → Option Bool) (rest : MS) : (Mem → OutF) → Mem → OutF := fun act μ => match act μ with
  | .ok _ μ' => (rest [some (.fr .unk), some (.fr .non), none] μ').fin
  | .exc x μ' => match sub x.cls with
    | some true => (rest [some (.fr .unk), some (.fr .unk), none] μ').fin
    | some false => .exc x μ'
    | none => .bad
  | .bad => .bad
abbrev hlpB (a caught err ec : Str) (jn : Nat) (q : Nat → Pos) (rest : List Stmt) : List Stmt :=
  .Assign [.Name caught (q 0)] (.Constant .none jn (q 1)) (q 2) :: .Try [.Expr (.Call (.Name a (q 3)) [] [] (q 4)) (q 5)] [.ExceptHandler (some (.Name ec (q 6))) (some err) [.Assign [.Name caught (q 7)] (.Name err (q 8)) (q 9)] (q 10)] [] [] (q 11) :: rest
def Subs (K : PySem.W.Frag) (mg : Str → Option Value) (CS : Addr) (sub : String → Option Bool) : Prop := ∀ c C b, sub c = some b → mg (Str.ofString c) = some (.ref C) → PySem.W.exmOne K (.ref C) (.ref CS) = some b
section
variable {P : Program} {w : World} {K : PySem.W.Frag} {mg : Str → Option Value} {base : Heap} {k : Nat} {g : Addr} {x a caught err ec : Str} {jn : Nat} {q : Nat → Pos} {st : Stmt} {fd : FuncData} {rest : List Stmt} {sc : Scope} {m : MS} {sub : String → Option Bool} {CS : Addr}
theorem hlp_of (Fz : Fd K x x st g fd .none) (S : FnScope [a, caught, err] [a] sc) (hsc : defScope st = sc) (hB : defBody st = hlpB a caught err ec jn q rest) (hm : mg x = some (.ref g)) (hkp : PySem.W.keepIn K (.ref g) = true) (hbd : Binds K fd [a] [])
    (he : glC sc ec = true) (hec : mg ec = some (.ref CS)) (hsub : Subs K mg CS sub) (v0 : varC [a, caught, err] sc 0 a = true) (l1 : locC [a, caught, err] sc 1 caught = true) (v2 : varC [a, caught, err] sc 2 err = true) (k2 : sc.names.lookup err = some .local)
    (hrest : ∀ (X : Cx) (W : WX), X.prog = P → X.w = w → X.K = K → X.mg = mg → X.base = base → Cd X W (k + 1) [a, caught, err] sc → JSs X W rest m) : Hlp P w K mg base (k + 1) x (mHelp sub m) := by
  subst hsc
  refine ⟨g, hm, hkp, fun A outer s H f Q E act Z F ρ μ hr e0 S0 hact fin => ?_⟩
  obtain ⟨oc, od, kV, doc, pm, an, cdv, ct, osl, rfl, lk, hcd⟩ := Fz.ex
  have inK : K.In s.heap := e0.mod.kin.keeps fun b o e => (e0.bs b o e).1
  have lim : s.heap.NoLimit := e0.mod.nolimit.keeps fun b o e => (e0.bs b o e).1
  have hb := hbd s [.ref f] inK rfl
  refine codeAny_call_function hr.r.depth (inK _ _ lk) rfl S.co S.gen rfl (PySem.W.codeRec_of inK hcd) (hb _ _ _ _ ?_)
  refine wpAny_newFunctionEnv_cells S.kind (fun ⟨n, u⟩ hy => ?_) fun env eenv s1 xx => ?_
  · rcases S.par n (List.of_mem_zip hy).1 with z | z
    · exact Or.inl z
    · exact Or.inr ⟨z, PySem.W.cellsFrom_some _ _ _ (Or.inl z)⟩
  subst eenv
  refine ⟨lim.keeps xx.toInCall.keep, codeAny_func ?_⟩
  have rv : Vals [V.ref f] [Value.ref f] := .cons rfl .nil
  generalize hX : cxOf (L2.CX P w) P w K mg base [a, caught, err] x (defScope st) g cdv A outer s H E = X
  have I : Inv X [] (L2.start [a, caught, err] [.ref f]) H s1 := by
    subst hX
    exact inv_start S hr.r.hd e0 rfl rv xx
  have C : Cd X (lamW E) (k + 1) [a, caught, err] (defScope st) := by
    subst hX
    exact ⟨⟨rfl, hr.deeper _, takes_of rfl rfl rfl rfl, rfl, rfl, S.nd⟩, passes_of rfl, fun _ _ => rfl⟩
  have xP : X.prog = P := by subst hX; rfl
  have xw : X.w = w := by subst hX; rfl
  have xK : X.K = K := by subst hX; rfl
  have xm : X.mg = mg := by subst hX; rfl
  have xb : X.base = base := by subst hX; rfl
  have xs : X.stack = X.env :: X.outer := by subst hX; rfl
  have xf : X.env.frame = some X.env.locals := by subst hX; rfl
  have xH : X.H_0 = H := by subst hX; rfl
  have xS : X.s_0 = s := by subst hX; rfl
  have xo : X.outer = outer := by subst hX; rfl
  have xx' : X.ex = [] := by subst hX; rfl
  have xA : X.A = A.deeper (envOfC x (defScope st) s.heap.objs.size g cdv) := by subst hX; rfl
  have xE : X.env = envOfC x (defScope st) s.heap.objs.size g cdv := by subst hX; rfl
  have xX : X.xe = fun e s' => wpAny (model P w) (A.deeper (envOfC x (defScope st) s.heap.objs.size g cdv)) (leaving (envOfC x (defScope st) s.heap.objs.size g cdv) e) (fun _ s'' => L2.CX P w outer H s E e s'') (fun e' s'' => L2.CX P w outer H s E e' s'') s' := by subst hX; rfl
  have hJ := hrest X (lamW E) xP xw xK xm xb C
  subst xP xw xK xm xb
  -- the act, called
  have hcall : ∀ (W : WX) (pn : List (Addr × Obj)) (xe : Value → Shared → Prop), Takes (X.tr pn xe) W → PassesOwn (model X.prog X.w) X.A X.env xe →
      PSs (X.tr pn xe) [.Expr (.Call (.Name a (q 3)) [] [] (q 4)) (q 5)] (fun D σ H1 => σ[0]? = some (some (.ref f)) ∧ H1 = H ∧ FinF X.K X.mg Z F ρ (fun v H' => D.nx σ H') (fun c d H' => W c d σ H') (act μ)) := fun W pn xe tk _ => by
    have hp : PE (X.tr pn xe) (.Call (.Name a (q 3)) [] [] (q 4)) (fun σ H1 Q => σ[0]? = some (some (.ref f)) ∧ H1 = H ∧ FinF X.K X.mg Z F ρ (fun v H' => Q v H') (fun c d H' => W c d σ H') (act μ)) := by
      refine ⟨fun pins s' σ H1 Q' I' hh => ?_⟩
      obtain ⟨h0, rfl, hfin⟩ := hh
      have pv : PE (X.tr pn xe) (.Name a (q 3)) (tVar 0) := by
        unfold varC at v0
        simp only [Bool.and_eq_true, Bool.not_eq_true', decide_eq_true_eq, Bool.or_eq_true] at v0
        obtain ⟨⟨⟨z1, z2⟩, z3⟩, z4⟩ := v0
        refine pe_var (by show X.N[0]? = some a; rw [C.hN]; exact z1) ?_ z3 z4
        show X.env.scope.names.lookup a = _ ∨ X.env.scope.names.lookup a = _ ∨ X.env.scope.names.lookup a = _
        rw [C.hsc]
        exact z2
      refine wpAny_Call_Name_kw (thn (pv.run pins s' σ H1 (fun v H2 => v = .ref f ∧ H2 = H1) I' ⟨.ref f, h0, rfl, rfl⟩) fun u s2 ⟨v, H2, I2, r2, q2⟩ => ?_)
      obtain ⟨ev, eH⟩ := q2
      subst ev
      rw [eH] at I2
      obtain rfl : u = Value.ref f := r2
      obtain ⟨⟨oc2, od2, fd2, osl2, of0⟩, nf, ff⟩ := hact.at_
      have un : Un (frs outer) [] H1 H1 s.heap s2.heap := by
        have z : Un X.fs X.ex X.H_0 H1 X.s_0.heap s2.heap := I2.base
        rw [xH, xS, xx'] at z
        rw [← xo]
        exact z
      have of2 := un.keep f _ of0 nf ff (by simp)
      refine PySem.W.callWith_F0 ⟨_, _, _, _, of2⟩ ?_
      refine wpAny_call (codeAny_mono (hact.run X.A X.stack s2 H1 Q' (WE W σ) Z F ρ μ C.rm I2.env0 un (fun _ _ z => z) (fun _ _ z => z) S0 hfin) fun res s3 hr3 => ?_)
      cases res with
      | error e => exact passAt tk σ pins H1 s2 e s3 I2 hr3
      | ok fl =>
        cases fl with
        | ret u => exact I2.after hr3
        | next => exact False.elim hr3
        | brk => exact False.elim hr3
        | cont => exact False.elim hr3
    exact (pss_one (ps_expr hp)).imp fun D σ H1 h => h
  have loc1 := C.loc l1
  have hset : ∀ e te (pc : Pos), PE X e te → swapsWith e (some (.Name caught (q 0))) (q 2).line X.env = pure false → PS X (.Assign [.Name caught (q 0)] e (q 2)) (tAsg te (gName 1)) := fun e te _ he hs => ps_set loc1.1 loc1.2.1 loc1.2.2 he hs (.inl (C.fn caught loc1.2.2))
  have first := hset (.Constant .none jn (q 1)) (tC .non) (q 2) pe_non rfl
  have nerr : X.N[2]? = some err := by
    rw [C.hN]
    rfl
  have kerr : X.env.kindOf err = some .local := by
    show X.env.scope.names.lookup err = some .local
    rw [C.hsc]
    exact k2
  obtain ⟨g1, g2, g3⟩ := C.gl he
  have tr := ps_try_as (pos := q 11) (pos' := q 10) (np := q 6) (Wout := lamW E) (c := .ref CS) (i := 2) (ts := fun a _ _ => tAsg (tVar 2) (gName 1)) xs xf (by rw [C.hN]; exact S.nd) nerr kerr ⟨g1, g2, .inl hec⟩ C.tk hcall (fun b oe cls d pn _ _ => by
    have nd : (X.suite b ((b, oe) :: pn)).N.Nodup := loc1.1
    have pv : PE (X.suite b ((b, oe) :: pn)) (.Name err (q 8)) (tVar 2) := by
      unfold varC at v2
      simp only [Bool.and_eq_true, Bool.not_eq_true', decide_eq_true_eq, Bool.or_eq_true] at v2
      obtain ⟨⟨⟨z1, z2⟩, z3⟩, z4⟩ := v2
      refine pe_var nerr ?_ z3 z4
      show X.env.scope.names.lookup err = _ ∨ X.env.scope.names.lookup err = _ ∨ X.env.scope.names.lookup err = _
      rw [C.hsc]
      exact z2
    exact pss_one (ps_set (pos' := q 7) (pos := q 9) nd loc1.2.1 loc1.2.2 pv rfl (.inl (C.fn caught loc1.2.2))))
  have all := pss_cons first (pss_cons tr hJ)
  have hq := all.run [] s1 _ H { nx := fun _ H' => Q .non H', rt := Q } I ?_
  · rw [xA, xE, xX] at hq
    have out : ∀ {σ' : L2.St} {H' : Hp} {s' : Shared}, Inv X [] σ' H' s' → s'.os = s.os ∧ Un (frs outer) [] H H' s.heap s'.heap := fun {σ' H' s'} J => by
      have z : Un X.fs X.ex X.H_0 H' X.s_0.heap s'.heap := J.base
      rw [xH, xS, xx'] at z
      have y : s'.os = X.s_0.os := J.os
      rw [xS] at y
      rw [← xo]
      exact ⟨y, z⟩
    have hq2 : wpAny (model X.prog X.w) (A.deeper (envOfC x (defScope st) s.heap.objs.size g cdv)) (execs (defBody st) (envOfC x (defScope st) s.heap.objs.size g cdv)) (SP X [] { nx := fun _ H' => Q .non H', rt := Q }) (fun e s' => wpAny (model X.prog X.w) (A.deeper (envOfC x (defScope st) s.heap.objs.size g cdv)) (leaving (envOfC x (defScope st) s.heap.objs.size g cdv) e) (fun _ s'' => L2.CX X.prog X.w outer H s E e s'') (fun e' s'' => L2.CX X.prog X.w outer H s E e' s'') s') s1 := by
      rw [hB]
      exact hq
    refine wpAny_mono hq2 (fun fl s' hs => ?_) fun e s' hs => hs
    cases fl with
    | ret u =>
      obtain ⟨v, σ', H', J, rv, q⟩ := hs
      exact ⟨v, H', (out J).1, J.bare, (out J).2, J.hok, rv, q⟩
    | next =>
      obtain ⟨σ', H', J, q⟩ := hs
      exact ⟨.non, H', (out J).1, J.bare, (out J).2, J.hok, rfl, q⟩
    | brk =>
      obtain ⟨_, _, _, z⟩ := hs
      exact z.elim
    | cont =>
      obtain ⟨_, _, _, z⟩ := hs
      exact z.elim
  · show tAsg (tC .non) (gName 1) _ _ _
    refine ⟨rfl, rfl, ?_⟩
    unfold mHelp at fin
    cases ea : act μ with
    | bad => rw [ea] at fin; exact fin.elim
    | ok sl μ' =>
      rw [ea] at fin
      intro v H' F' ρ' l lr S' rvv
      refine ⟨Z, F', ρ', μ', _, S'.frs rfl (fun i s e => ?_), fin_S (fun _ _ _ _ z => z) (fin.mono l lr)⟩
      match i, e with
      | 0, e => cases e; exact ⟨_, .ref f, rfl, rfl, .unk⟩
      | 1, e => cases e; exact ⟨_, .non, rfl, rfl, .non⟩
      | 2, e => cases e
      | i + 3, e => cases e
    | exc xx μ' =>
      rw [ea] at fin
      intro c d H' F' ρ' l lr S' er
      obtain ⟨Cc, dx, vv, rfl, rfl, h3, h4⟩ := id er
      cases es : sub xx.cls with
      | none => simp only [es] at fin; exact fin.elim
      | some b =>
        refine ⟨b, hsub _ _ _ es h3, fun hb1 a' ha' => ?_, fun hb0 => ?_⟩
        · subst hb1
          simp only [es] at fin
          refine ⟨.ref a', rfl, ?_⟩
          refine ⟨Z, F', ρ', μ', _, S'.frs rfl (fun i s e => ?_), fin_S (fun _ _ _ _ z => z) (fin.mono l lr)⟩
          match i, e with
          | 0, e => cases e; exact ⟨_, .ref f, rfl, rfl, .unk⟩
          | 1, e => cases e; exact ⟨_, .ref a', rfl, rfl, .unk⟩
          | 2, e => cases e
          | i + 3, e => cases e
        · subst hb0
          simp only [es] at fin
          exact fin _ _ _ _ _ l lr S' er
end
theorem fnG_l {P : Program} {w : World} {K : PySem.W.Frag} {mg : Str → Option Value} {base : Heap} {k n : Nat} {f c Pt : Addr} {x qual q : Str} {st : Stmt} {fd : FuncData} {N ps : List Str} {m : MS} {dV : Value} {sc : Scope} (Fz : FdL K x qual st f fd dV c) (TB : TabB base mg c Pt) (S : FnScope N ps sc) (hsc : defScope st = sc) (hn : ps.length = n)
    (hq : ∀ (L : Addr), (envOfC qual sc L f (.ref c)).qual ++ "<lambda>" = q)
    (hbody : ∀ (X : Cx) (W : WX), X.prog = P → X.w = w → X.K = K → X.mg = mg → X.base = base → Cm X W k N sc q Pt → JSs X W (defBody st) m) : FnG P w K mg base (L2.CX P w) (k + 1) f fd ps (spM K mg (mFn N.length m) n) := by
  subst hsc
  subst hn
  obtain ⟨oc, od, kV, doc, pm, an, ct, osl, rfl, lk, hcd⟩ := Fz.ex
  refine ⟨fun vs H Q E h => h.1, fun A outer s H args us vs Q E hr e0 hb r hsp => ?_⟩
  obtain ⟨hl, Z, F0, ρ, μ, ds, S0, rr, fin⟩ := hsp
  have inK : K.In s.heap := e0.mod.kin.keeps fun b o e => (e0.bs b o e).1
  have lim : s.heap.NoLimit := e0.mod.nolimit.keeps fun b o e => (e0.bs b o e).1
  refine codeAny_call_function hr.r.depth (inK _ _ lk) rfl S.co S.gen rfl (PySem.W.codeRec_of inK hcd) (hb _ _ _ _ ?_)
  refine wpAny_newFunctionEnv_cells S.kind (fun ⟨y, u⟩ hy => ?_) fun env eenv s1 xx => ?_
  · rcases S.par y (List.of_mem_zip hy).1 with z | z
    · exact Or.inl z
    · exact Or.inr ⟨z, PySem.W.cellsFrom_some _ _ _ (Or.inl z)⟩
  subst eenv
  refine ⟨lim.keeps xx.toInCall.keep, codeAny_func ?_⟩
  have ht := hbody (cxOf (L2.CX P w) P w K mg base N qual (defScope st) f (.ref c) A outer s H E) (lamW E) rfl rfl rfl rfl rfl ⟨⟨⟨rfl, hr.deeper _, takes_of rfl rfl rfl rfl, rfl, rfl, S.nd⟩, passes_of rfl, fun _ _ => rfl⟩, ⟨c, rfl, TB⟩, hq _⟩
  have I : Inv (cxOf (L2.CX P w) P w K mg base N qual (defScope st) f (.ref c) A outer s H E) [] (L2.start N vs) H s1 := inv_start S hr.r.hd e0 hl r xx
  refine wpAny_mono (ht.run [] s1 (L2.start N vs) H { nx := fun _ H' => Q .non H', rt := Q } I ⟨Z, F0, ρ, μ, _, S0.begin rr, fin_S (fun _ _ _ _ z => z) (mFn_eq ▸ fin)⟩) (fun fl s' hs => ?_) fun e s' hs => hs
  cases fl with
  | ret u =>
    obtain ⟨v, σ', H', J, rv, q⟩ := hs
    exact ⟨v, H', J.os, J.bare, J.base, J.hok, rv, q⟩
  | next =>
    obtain ⟨σ', H', J, q⟩ := hs
    exact ⟨.non, H', J.os, J.bare, J.base, J.hok, rfl, q⟩
  | brk =>
    obtain ⟨_, _, _, z⟩ := hs
    exact z.elim
  | cont =>
    obtain ⟨_, _, _, z⟩ := hs
    exact z.elim
end FL
namespace FL
open PySem PySem.Spec PyProof.Rows L2 LamX
def rMulS : R2 := fun x y H Q => ∃ a k, x = .str a ∧ y = .int k ∧ MulOk a k ∧ Q (.str (Txt.mul a k)) H
theorem op_mulS {X : Cx} : OpR X (binaryOp .Mult) rMulS := by
  intro pins s σ H x y v u Q I rx ry h
  obtain ⟨a, k, rfl, rfl, ok, q⟩ := h
  obtain ⟨t, rfl⟩ := rx
  obtain ⟨t', rfl⟩ := ry
  exact SB.mul ok fun t2 k2 => ⟨.str (Txt.mul a k), H, I.tok k2, ⟨t2, rfl⟩, q⟩
def gRepS : D → D → Option FL.Slot
  | .str x, .int k => if 2 ≤ k ∧ k ≤ 1000 ∧ 1 ≤ x.length ∧ x.length ≤ 1000 then some (.fr (.str (List.replicate k.toNat x).flatten)) else none
  | _, _ => none
theorem foldl_app (x : Tx) : ∀ (n : Nat) (acc : Array Nat), (List.replicate n x.toArray).foldl (· ++ ·) acc = acc ++ (List.replicate n x).flatten.toArray
  | 0, acc => by simp
  | n + 1, acc => by
    rw [List.replicate_succ, List.foldl_cons, foldl_app x n, List.replicate_succ, List.flatten_cons]
    simp [Array.append_assoc]
theorem mul_toS {x : Tx} {k : Int} (h1 : 2 ≤ k) (h2 : 1 ≤ x.length) : Txt.mul (toS x) k = toS (List.replicate k.toNat x).flatten := by
  unfold Txt.mul
  have e1 : ¬ k < 1 := by omega
  have e2 : (k == 1 || (toS x).length == 0) = false := by
    rw [toS_len]
    simp only [Bool.or_eq_false_iff, beq_eq_false_iff_ne]
    exact ⟨by omega, by omega⟩
  rw [if_neg e1, e2, if_neg Bool.false_ne_true]
  show (⟨(List.replicate k.toNat x.toArray).foldl (· ++ ·) #[]⟩ : Str) = ⟨(List.replicate k.toNat x).flatten.toArray⟩
  rw [foldl_app]
  simp
theorem mul_okS {x : Tx} {k : Int} (h1 : 2 ≤ k) (h2 : k ≤ 1000) (h3 : x.length ≤ 1000) : MulOk (toS x) k := by
  have hm : x.length * k.toNat ≤ 1000 * 1000 := Nat.mul_le_mul h3 (by omega)
  refine ⟨?_, fun _ _ z => ?_, fun _ _ => ?_⟩
  · simp only [Bool.or_eq_false_iff, decide_eq_false_iff_not]
    omega
  · rw [toS_len] at z
    have hk : (2 ^ 63 - 1) / 1000 ≤ (2 ^ 63 - 1) / k := by
      apply Int.le_ediv_of_mul_le (by omega)
      have : (2 ^ 63 - 1) / 1000 * k ≤ (2 ^ 63 - 1) / 1000 * 1000 := Int.mul_le_mul_of_nonneg_left h2 (by decide)
      omega
    have : (1000 : Int) ≤ (2 ^ 63 - 1) / 1000 := by decide
    omega
  · rw [toS_len]
    have hl : x.length * k.toNat ≤ sizeLine := by rw [sizeLine_eq]; omega
    first
      | exact decide_eq_false (by omega)
      | (unfold tooLong; exact decide_eq_false (by omega))
theorem j_mulS {X : Cx} : R2J X rMulS gRepS := by
  refine r2_flat fun F ρ H x y dx dy s Q bx bY e => ?_
  unfold gRepS at e
  cases dx <;> cases dy <;> first | (cases e; done) | skip
  rename_i x k
  have e : (if 2 ≤ k ∧ k ≤ 1000 ∧ 1 ≤ x.length ∧ x.length ≤ 1000 then some (FL.Slot.fr (.str (List.replicate k.toNat x).flatten)) else none) = some s := e
  by_cases h : 2 ≤ k ∧ k ≤ 1000 ∧ 1 ≤ x.length ∧ x.length ≤ 1000
  · rw [if_pos h] at e
    cases e
    cases bx.str
    cases bY.int
    exact ⟨_, fun q => ⟨_, k, rfl, rfl, mul_okS h.1 h.2.1 h.2.2.2, by rw [mul_toS h.1 h.2.2.1]; exact q⟩, _, rfl, fun _ _ => .str⟩
  · rw [if_neg h] at e
    cases e
def gMulB : D → D → Option FL.Slot := fun x y => (gMulA x y).or (gRepS x y)
end FL
namespace FL
open PySem L2
theorem ofS_inj {a b : String} (h : Str.ofString a = Str.ofString b) : a = b := by
  rw [ofS_lit, ofS_lit] at h
  have e := toS_inj h
  unfold lit at e
  have e2 : a.toList = b.toList := by
    have inj : ∀ l m : List Char, l.map Char.toNat = m.map Char.toNat → l = m := by
      intro l
      induction l with
      | nil => intro m h; cases m with
        | nil => rfl
        | cons _ _ => cases h
      | cons c l ih =>
        intro m h
        cases m with
        | nil => cases h
        | cons d m =>
          rw [List.map_cons, List.map_cons] at h
          injection h with h1 h2
          rw [ih m h2, Char.ext (UInt32.toNat_inj.mp h1)]
    exact inj _ _ e
  exact String.toList_inj.mp e2
def getF : List String → List D → String → Option D
  | k :: ks, d :: ds, f => if k = f then some d else getF ks ds f
  | _, _, _ => none
def putNm : List String → String → List String
  | [], f => [f]
  | k :: ks, f => if k = f then k :: ks else k :: putNm ks f
def putVs : List String → List D → String → D → List D
  | [], _, _, d => [d]
  | k :: ks, x :: xs, f, d => if k = f then d :: xs else x :: putVs ks xs f d
  | _ :: _, [], _, _ => []
abbrev rowF (ks : List String) (vs : List V) : List (Str × V) := (ks.map Str.ofString).zip vs
section
variable {K : PySem.W.Frag} {mg : Str → Option Value} {Z F F' : Hp} {ρ ρ' : List Addr} {μ : Mem} {δ : FL.Loc} {σ : L2.St} {H H' : Hp}
theorem getF_row : ∀ {ks : List String} {vs : List V} {ds : List D} {f : String} {d : D}, RepL K mg F ρ vs ds → getF ks ds f = some d → ∃ v, (rowF ks vs).lookup (Str.ofString f) = some v ∧ Rep K mg F ρ v d
  | k :: ks, _, _, f, d, .cons (v := v) (vs := vs) h t, e => by
    unfold getF at e
    by_cases hk : k = f
    · rw [if_pos hk] at e
      cases e
      exact ⟨v, by simp [rowF, hk], h⟩
    · rw [if_neg hk] at e
      obtain ⟨w, e1, e2⟩ := getF_row t e
      refine ⟨w, ?_, e2⟩
      have : (Str.ofString f == Str.ofString k) = false := beq_eq_false_iff_ne.mpr fun z => hk (ofS_inj z).symm
      simp only [rowF, List.map_cons, List.zip_cons_cons, List.lookup_cons, this]
      exact e1
  | [], _, _, _, _, _, e => by cases e
  | _ :: _, _, _, _, _, .nil, e => by cases e
theorem getF_none : ∀ {ks : List String} {vs : List V} {ds : List D} {f : String}, RepL K mg F ρ vs ds → ks.length = vs.length → getF ks ds f = none → (rowF ks vs).lookup (Str.ofString f) = none
  | k :: ks, _, _, f, .cons (v := v) (vs := vs) h t, n, e => by
    unfold getF at e
    by_cases hk : k = f
    · rw [if_pos hk] at e; cases e
    · rw [if_neg hk] at e
      have : (Str.ofString f == Str.ofString k) = false := beq_eq_false_iff_ne.mpr fun z => hk (ofS_inj z).symm
      simp only [rowF, List.map_cons, List.zip_cons_cons, List.lookup_cons, this]
      exact getF_none t (by simpa using n) e
  | [], _, _, _, _, _, _ => by simp [rowF]
  | _ :: _, _, _, _, .nil, n, _ => by simp at n
theorem putF_row {v : V} {d : D} (hv : Rep K mg F ρ v d) : ∀ {ks : List String} {vs : List V} {ds : List D} {f : String}, RepL K mg F ρ vs ds → ks.length = vs.length →
    ∃ vs', putF (Str.ofString f) v (rowF ks vs) = rowF (putNm ks f) vs' ∧ (putNm ks f).length = vs'.length ∧ RepL K mg F ρ vs' (putVs ks ds f d)
  | [], _, _, f, .nil, _ => ⟨[v], rfl, rfl, .cons hv .nil⟩
  | [], _, _, f, .cons _ _, n => by simp at n
  | _ :: _, _, _, _, .nil, n => by simp at n
  | k :: ks, _, _, f, .cons (v := x) (vs := vs) (ds := ds) h t, n => by
    by_cases hk : k = f
    · subst hk
      exact ⟨v :: vs, by simp [putNm, putF, rowF], by simpa [putNm] using n, by simp only [putVs, if_true]; exact .cons hv t⟩
    · obtain ⟨vs', e1, e2, e3⟩ := putF_row hv (f := f) t (by simpa using n)
      have hne : ¬ Str.ofString k = Str.ofString f := fun z => hk (ofS_inj z)
      refine ⟨x :: vs', ?_, by simpa [putNm, hk] using e2, by simp only [putVs, hk, if_false]; exact .cons h e3⟩
      simp only [putNm, hk, if_false, rowF, List.map_cons, List.zip_cons_cons, putF, hne]
      rw [show (ks.map Str.ofString).zip vs = rowF ks vs from rfl, e1]
mutual
def D.lowb (k : Nat) : D → Bool
  | .obj j => decide (j < k)
  | .lst xs => D.lowbs k xs
  | .tup xs => D.lowbs k xs
  | .ro xs => D.lowbs k xs
  | .dct _ xs => D.lowbs k xs
  | .exn _ _ v => D.lowb k v
  | .ins _ _ xs => D.lowbs k xs
  | _ => true
def D.lowbs (k : Nat) : List D → Bool
  | [] => true
  | d :: ds => D.lowb k d && D.lowbs k ds
end
mutual
theorem Rep.lowb : ∀ {v : V} {d : D}, Rep K mg F ρ v d → D.lowb ρ.length d = true
  | _, _, .non => by simp [D.lowb]
  | _, _, .bl => by simp [D.lowb]
  | _, _, .int => by simp [D.lowb]
  | _, _, .str => by simp [D.lowb]
  | _, _, .lst _ r => by simp only [D.lowb]; exact RepL.lowbs r
  | _, _, .ro _ r => by simp only [D.lowb]; exact RepL.lowbs r
  | _, _, .tup _ r => by simp only [D.lowb]; exact RepL.lowbs r
  | _, _, .dct _ _ r => by simp only [D.lowb]; exact RepL.lowbs r
  | _, _, .obj h => by simp only [D.lowb, decide_eq_true_eq]; exact (List.getElem?_eq_some_iff.mp h).1
  | _, _, .glo _ _ => by simp [D.lowb]
  | _, _, .ty => by simp [D.lowb]
  | _, _, .exn _ _ _ r => by simp only [D.lowb]; exact Rep.lowb r
  | _, _, .ins _ _ _ _ r => by simp only [D.lowb]; exact RepL.lowbs r
  | _, _, .unk => by simp [D.lowb]
theorem RepL.lowbs : ∀ {vs : List V} {ds : List D}, RepL K mg F ρ vs ds → D.lowbs ρ.length ds = true
  | _, _, .nil => by simp [D.lowbs]
  | _, _, .cons h t => by simp only [D.lowbs, Bool.and_eq_true]; exact ⟨Rep.lowb h, RepL.lowbs t⟩
end
mutual
theorem Rep.down {k : Nat} (hk : ∀ j, j < k → ∀ p, ρ'[j]? = some p → ρ[j]? = some p) : ∀ {v : V} {d : D}, Rep K mg F ρ' v d → D.lowb k d = true → Rep K mg F ρ v d
  | _, _, .non, _ => .non
  | _, _, .bl, _ => .bl
  | _, _, .int, _ => .int
  | _, _, .str, _ => .str
  | _, _, .lst h r, b => .lst h (RepL.down hk r (by simpa only [D.lowb] using b))
  | _, _, .ro h r, b => .ro h (RepL.down hk r (by simpa only [D.lowb] using b))
  | _, _, .tup h r, b => .tup h (RepL.down hk r (by simpa only [D.lowb] using b))
  | _, _, .dct h l r, b => .dct h l (RepL.down hk r (by simpa only [D.lowb] using b))
  | _, _, .obj h, b => .obj (hk _ (by simpa only [D.lowb, decide_eq_true_eq] using b) _ h)
  | _, _, .glo h r, _ => .glo h r
  | _, _, .ty, _ => .ty
  | _, _, .exn h e o r, b => .exn h e o (Rep.down hk r (by simpa only [D.lowb] using b))
  | _, _, .ins h e o l r, b => .ins h e o l (RepL.down hk r (by simpa only [D.lowb] using b))
  | _, _, .unk, _ => .unk
theorem RepL.down {k : Nat} (hk : ∀ j, j < k → ∀ p, ρ'[j]? = some p → ρ[j]? = some p) : ∀ {vs : List V} {ds : List D}, RepL K mg F ρ' vs ds → D.lowbs k ds = true → RepL K mg F ρ vs ds
  | _, _, .nil, _ => .nil
  | _, _, .cons h t, b => by
    simp only [D.lowbs, Bool.and_eq_true] at b
    exact .cons (Rep.down hk h b.1) (RepL.down hk t b.2)
end
theorem OwnR.down {c : Own} {p q : Addr} {H0 : Hp} (h0 : OwnR K mg F ρ H0 q c) (h : OwnR K mg F' ρ' H p c) (hk : ∀ j, j < ρ.length → ∀ p, ρ'[j]? = Option.some p → ρ[j]? = Option.some p) : OwnR K mg F' ρ H p c := by
  cases c with
  | lst ds =>
    obtain ⟨_, _, r0⟩ := h0
    obtain ⟨vs, e, r⟩ := h
    exact ⟨vs, e, r.down hk r0.lowbs⟩
  | dct ks ds =>
    obtain ⟨_, _, _, r0⟩ := h0
    obtain ⟨vs, e, n, r⟩ := h
    exact ⟨vs, e, n, r.down hk r0.lowbs⟩
  | tab P q => exact h
  | ins c kd ks ds =>
    obtain ⟨_, _, _, _, e0, _, _, r0⟩ := h0
    obtain ⟨C, dx, vs, e1, e2, e3, n, r⟩ := h
    exact ⟨C, dx, vs, e1, hk _ (List.getElem?_eq_some_iff.mp e0).1 _ e2, e3, n, r.down hk r0.lowbs⟩
  | idc k =>
    obtain ⟨_, e0, _⟩ := h0
    obtain ⟨q, e1, e2⟩ := h
    exact ⟨q, hk _ (List.getElem?_eq_some_iff.mp e0).1 _ e1, e2⟩
theorem Sim.shrink {F1 H1 : Hp} {ρ1 : List Addr} {μ1 : Mem} (S : Sim K mg Z F ρ μ [] [] H) (S1 : Sim K mg Z F1 ρ1 μ1 [] [] H1) (lr : ∀ (k : Nat) p, ρ[k]? = some p → ρ1[k]? = some p) (ht : ∀ (j : Nat) c, μ[j]? = some c → μ1[j]? = some c) :
    Sim K mg Z F1 ρ μ [] [] H1 ∧ ∀ j, j < ρ.length → ∀ p, ρ1[j]? = some p → ρ[j]? = some p := by
  have hk : ∀ j, j < ρ.length → ∀ p, ρ1[j]? = some p → ρ[j]? = some p := fun j hj p e => by
    have := lr j _ (List.getElem?_eq_getElem hj)
    rw [e] at this
    cases this
    exact List.getElem?_eq_getElem hj
  refine ⟨⟨S1.le, S1.zk, rfl, fun i s e => by simp at e, fun i j p s s' e => by simp at e, fun j c e => ?_, S.mlen, S.nod⟩, hk⟩
  obtain ⟨a0, e0, _, _, r0⟩ := S.mem j c e
  obtain ⟨a, ea, f1, f2, r⟩ := S1.mem j c (ht j c e)
  rw [lr j a0 e0] at ea
  cases ea
  exact ⟨a0, e0, f1, f2, r0.down r hk⟩
theorem Sim.newIns {x dx C : Addr} {c : String} (S : Sim K mg Z F ρ μ [] [] H) (hx : H x = none) (hd : H dx = none) (ne : dx ≠ x) (hc : mg (Str.ofString c) = some (.ref C)) :
    Sim K mg Z F (ρ ++ [x, dx]) (μ ++ [.ins c (μ.length + 1) [] [], .idc μ.length]) [] [] (upd (upd H dx (.own x)) x (.ins C dx [])) ∧ LeR Z ρ (ρ ++ [x, dx]) ∧ Rep K mg F (ρ ++ [x, dx]) (.ref x) (.obj μ.length) := by
  obtain ⟨x1, x2, x3, _⟩ := S.notIn hx
  obtain ⟨d1, d2, d3, _⟩ := S.notIn hd
  have S1 := S.laid (o := .own x) hd
  have hx1 : upd H dx (.own x) x = none := by rw [upd_ne (Ne.symm ne)]; exact hx
  have S2 := S1.laid (o := .ins C dx []) hx1
  have to : ∀ (k : Nat) p, ρ[k]? = some p → (ρ ++ [x, dx])[k]? = some p := fun k p e => by rw [List.getElem?_append_left (List.getElem?_eq_some_iff.mp e).1]; exact e
  have i0 : (ρ ++ [x, dx])[μ.length]? = some x := by rw [← S.mlen]; simp
  have i1 : (ρ ++ [x, dx])[μ.length + 1]? = some dx := by rw [← S.mlen]; simp
  refine ⟨⟨S2.le, S2.zk, rfl, fun i s e => by simp at e, fun i j p s s' e => by simp at e, fun j u e => ?_, by simp [S.mlen], ?_⟩, ⟨to, fun p hp => ?_⟩, .obj i0⟩
  · by_cases hj : j < μ.length
    · rw [List.getElem?_append_left hj] at e
      obtain ⟨a, ea, f1, f2, r⟩ := S2.mem j u e
      exact ⟨a, to j a ea, f1, f2, r.up (fun _ _ z => z) to rfl⟩
    · rw [List.getElem?_append_right (by omega)] at e
      have hj2 : j - μ.length = 0 ∨ j - μ.length = 1 := by
        have := (List.getElem?_eq_some_iff.mp e).1
        simp at this
        omega
      rcases hj2 with hj2 | hj2
      · rw [hj2] at e
        simp at e
        subst e
        have : j = μ.length := by omega
        subst this
        exact ⟨x, i0, x1, x2, C, dx, [], hc, i1, upd_same, rfl, .nil⟩
      · rw [hj2] at e
        simp at e
        subst e
        have : j = μ.length + 1 := by omega
        subst this
        exact ⟨dx, i1, d1, d2, x, i0, by rw [upd_ne ne, upd_same]⟩
  · rw [List.nodup_append]
    refine ⟨S.nod, by simp [Ne.symm ne], fun a ha b hb z => ?_⟩
    subst z
    rcases List.mem_cons.mp hb with z | z
    · subst z; exact x3 ha
    · rw [List.mem_singleton.mp z] at ha; exact d3 ha
  · rcases List.mem_append.mp hp with hp | hp
    · exact .inl hp
    · rcases List.mem_cons.mp hp with z | z
      · subst z; exact .inr x2
      · rw [List.mem_singleton.mp z]; exact .inr d2
theorem Sim.settle {F1 H1 : Hp} {ρ1 : List Addr} {μ1 : Mem} {x dx : Addr} {c : String} {ks : List String} {ds : List D} (S : Sim K mg Z F ρ μ [] [] H) (S1 : Sim K mg Z F1 ρ1 μ1 [] [] H1) (l : Le Z F F1) (lr : LeR Z (ρ ++ [x, dx]) ρ1)
    (ht : ∀ (j : Nat) u, μ[j]? = some u → μ1[j]? = some u) (h0 : μ1[μ.length]? = some (.ins c (μ.length + 1) ks ds)) (h1 : μ1[μ.length + 1]? = some (.idc μ.length)) (hb : D.lowbs μ.length ds = true) :
    ∃ F2, Le Z F F2 ∧ Sim K mg Z F2 ρ μ [] [] H1 ∧ Rep K mg F2 ρ (.ref x) (.ins c ks ds) := by
  have to : ∀ (k : Nat) p, ρ[k]? = some p → ρ1[k]? = some p := fun k p e => lr.to k p (by rw [List.getElem?_append_left (List.getElem?_eq_some_iff.mp e).1]; exact e)
  have i0 : ρ1[μ.length]? = some x := lr.to _ _ (by rw [← S.mlen]; simp)
  have i1 : ρ1[μ.length + 1]? = some dx := lr.to _ _ (by rw [← S.mlen]; simp)
  obtain ⟨S2, hk⟩ := S.shrink S1 to ht
  obtain ⟨a, ea, fa, za, C, dx', vs, hc, hdx, hH, n, r⟩ := S1.mem _ _ h0
  rw [i0] at ea; cases ea
  rw [i1] at hdx; cases hdx
  obtain ⟨b, eb, fb, zb, q, hq, hHd⟩ := S1.mem _ _ h1
  rw [i1] at eb; cases eb
  rw [i0] at hq; cases hq
  have nx : x ∉ ρ := fun hm => by
    obtain ⟨j, hj⟩ := List.getElem?_of_mem hm
    have h3 := to j x hj
    have h4 := (List.getElem?_inj (List.getElem?_eq_some_iff.mp i0).1 S1.nod).mp (i0.trans h3.symm)
    have := (List.getElem?_eq_some_iff.mp hj).1
    rw [S.mlen] at this
    omega
  have nd : dx ∉ ρ := fun hm => by
    obtain ⟨j, hj⟩ := List.getElem?_of_mem hm
    have h3 := to j dx hj
    have h4 := (List.getElem?_inj (List.getElem?_eq_some_iff.mp i1).1 S1.nod).mp (i1.trans h3.symm)
    have := (List.getElem?_eq_some_iff.mp hj).1
    rw [S.mlen] at this
    omega
  have ne : dx ≠ x := fun z => by
    subst z
    rw [hH] at hHd
    cases hHd
  obtain ⟨l1, S3⟩ := S2.freeze hH ⟨fa, za, nx⟩ fun i s e => by simp at e
  have fd : upd F1 x (.ins C dx (rowF ks vs)) dx = none := by rw [upd_ne ne]; exact fb
  obtain ⟨l2, S4⟩ := S3.freeze hHd ⟨fd, zb, nd⟩ fun i s e => by simp at e
  have l12 := l1.trans l2
  refine ⟨_, l.trans l12, S4, .ins (dx := dx) hc ?_ upd_same n ?_⟩
  · rw [upd_ne (Ne.symm ne), upd_same]
  · have hb' : D.lowbs ρ.length ds = true := by rw [S.mlen]; exact hb
    exact (RepL.down hk r hb').up l12.to fun _ _ z => z
end
end FL
namespace FL
open PySem PySem.Spec PyProof.Rows L2
def insOf (μ : Mem) : D → Option (String × List String × List D)
  | .ins c ks vs => some (c, ks, vs)
  | .obj k => match μ[k]? with
    | some (.ins c _ ks vs) => some (c, ks, vs)
    | _ => none
  | _ => none
def OR.self (δ : FL.Loc) : OR → Option D
  | .d x => some x
  | .i j => match δ[j]? with
    | some (some (.fr x)) => some x
    | _ => none
section
variable {K : PySem.W.Frag} {mg : Str → Option Value} {Z F F' : Hp} {ρ ρ' : List Addr} {μ : Mem} {δ : FL.Loc} {σ : L2.St} {H H' : Hp} {v : V} {d : D}
theorem OR.self_rep {r : OR} (S : Sim K mg Z F ρ μ δ σ H) (h : OrR K mg F ρ σ v r) (e : r.self δ = some d) : Rep K mg F ρ v d := by
  cases r with
  | d d' => cases e; exact h
  | i j =>
    have h' : σ[j]? = some (some v) := h
    have e : (match δ[j]? with | some (some (.fr x)) => some x | _ => none) = some d := e
    cases q : δ[j]? with
    | none => rw [q] at e; cases e
    | some o =>
      cases o with
      | none => rw [q] at e; cases e
      | some s =>
        cases s with
        | own o => rw [q] at e; cases e
        | fr d' =>
          rw [q] at e
          cases e
          obtain ⟨w, ew, r⟩ := S.slot j _ q
          rw [h'] at ew
          cases ew
          exact r
theorem ins_at {c : String} {ks : List String} {ds : List D} (S : Sim K mg Z F ρ μ δ σ H) (h : Rep K mg F ρ v d) (e : insOf μ d = some (c, ks, ds)) :
    ∃ p C dx vs, v = .ref p ∧ mg (Str.ofString c) = some (.ref C) ∧ H p = some (.ins C dx (rowF ks vs)) ∧ ks.length = vs.length ∧ RepL K mg F ρ vs ds := by
  cases h with
  | ins hc e1 e2 n r =>
    cases e
    exact ⟨_, _, _, _, rfl, hc, (S.le _ _ e1).elim (fun q => q) fun ⟨_, _, z, _⟩ => (nomatch z), n, r⟩
  | @obj k p hp =>
    have e : (match μ[k]? with | some (.ins c _ ks vs) => some (c, ks, vs) | _ => none) = some (c, ks, ds) := e
    cases q : μ[k]? with
    | none => rw [q] at e; cases e
    | some o =>
      cases o with
      | ins c' kd ks' vs' =>
        rw [q] at e
        cases e
        obtain ⟨a, ea, _, _, C, dx, vs, e1, e2, e3, n, r⟩ := S.mem k _ q
        rw [hp] at ea
        cases ea
        exact ⟨p, C, dx, vs, rfl, e1, e3, n, r⟩
      | _ => rw [q] at e; cases e
  | _ => cases e
end
def Att.isF : Att → Bool
  | .fld => true
  | _ => false
theorem Att.isF_eq {a : Att} (h : a.isF = true) : a = .fld := by cases a <;> first | rfl | cases h
def AttOk (K : PySem.W.Frag) (mg : Str → Option Value) (f : String) (C : Addr) : Att → Prop
  | .fld => NoAttr K C (Str.ofString f)
  | .con d => ∃ v u, Con K C (Str.ofString f) v u ∧ ∀ F ρ, Rep K mg F ρ v d
  | .no => True
def AttsOk (K : PySem.W.Frag) (mg : Str → Option Value) (at_ : String → String → Att) : Prop := ∀ c f C, at_ c f ≠ .no → mg (Str.ofString c) = some (.ref C) → Cls K C ∧ AttOk K mg f C (at_ c f)
def mAt (at_ : String → String → Att) (f : String) (o : Opn) : ME := fun δ μ => (o.ev δ μ).bind fun r δ1 μ1 => match (r.self δ1).bind (insOf μ1) with
  | some (c, ks, ds) => (match at_ c f with
    | .fld => lift ((getF ks ds f).map .fr) δ1 μ1
    | .con d => if getF ks ds f = none then .ok (.fr d) δ1 μ1 else .bad
    | .no => .bad)
  | none => .bad
section
variable {X : Cx} {W : WX} {k : Nat} {e o : Expr} {pos pos' : Pos} {oo : Opn} {f : String} {at_ : String → String → Att}
theorem VR.fr' {Z F : Hp} {ρ : List Addr} {δ : FL.Loc} {σ : L2.St} {H : Hp} {v : V} {d : D} (r : Rep X.K X.mg F ρ v d) : VR X.K X.mg Z F ρ δ σ H v (.fr d) := ⟨r, fun o p z => by cases z⟩
def tAt (K : PySem.W.Frag) (ta : TE) (f : Str) : TE := fun σ H Q => ta σ H fun x H1 => ∃ a C dx fs, x = .ref a ∧ H1 a = some (.ins C dx fs) ∧ Cls K C ∧ ((NoAttr K C f ∧ ∃ v, fs.lookup f = some v ∧ Q v H1) ∨ ∃ v u, Con K C f v u ∧ fs.lookup f = none ∧ Q v H1)
theorem pe_at {ta : TE} {f : Str} (he : PE X e ta) (hb : attributeBase e f X.env (eval e X.env) = eval e X.env) : PE X (.Attribute e f pos) (tAt X.K ta f) :=
  ⟨fun pins s σ H Q I h => attr_of hb (thn (he.run pins s σ H _ I h) fun u s1 ⟨x, H1, I1, rx, a, C, dx, fs, ex, ea, c, q⟩ => by
    subst ex
    obtain rfl : u = Value.ref a := rx
    rcases q with ⟨n, v, l, q⟩ | ⟨v, u0, k, l, q⟩
    · exact getattr_ok I1 ea c n l fun u' s2 I2 ru => ⟨v, H1, I2, ru, q⟩
    · exact getcon_ok I1 ea c k l fun s2 I2 => ⟨v, H1, I2, k.rel, q⟩)⟩
theorem je_at (AO : AttsOk X.K X.mg at_) (ho : JO X W o oo) (hb : attributeBase o (Str.ofString f) X.env (eval o X.env) = eval o X.env := by rfl) : JE X W (.Attribute o (Str.ofString f) pos) (mAt at_ f oo) := by
  refine (pe_at ho hb).imp fun σ H Q ⟨Z, F, ρ, μ, δ, S, q⟩ => ⟨Z, F, ρ, μ, δ, S, (FinE.bind q).imp fun r δ1 μ1 H1 F1 ρ1 l lr S1 ⟨_, _, _, p⟩ x hx => ?_⟩
  cases es : (r.self δ1).bind (insOf μ1) with
  | none => simp only [es] at p; exact p.elim
  | some t =>
    obtain ⟨c, ks, ds⟩ := t
    simp only [es] at p
    obtain ⟨d, e1, e2⟩ := Option.bind_eq_some_iff.mp es
    obtain ⟨a, C, dx, vs, rfl, hc, hH, n, rl⟩ := ins_at S1 (OR.self_rep S1 hx e1) e2
    have ao := AO c f C
    cases ea : at_ c f with
    | no => simp only [ea] at p; exact p.elim
    | fld =>
      simp only [ea] at p ao
      obtain ⟨cl, no⟩ := ao (fun z => nomatch z) hc
      unfold lift at p
      cases eg : getF ks ds f with
      | none => simp only [eg] at p; exact p.elim
      | some d' =>
        simp only [eg] at p
        obtain ⟨v, lv, rv⟩ := getF_row rl eg
        exact ⟨a, C, dx, _, rfl, hH, cl, .inl ⟨no, v, lv, p H1 F1 ρ1 .refl .refl S1 v (VR.fr' rv)⟩⟩
    | con d' =>
      simp only [ea] at p ao
      obtain ⟨cl, v, u, co, rv⟩ := ao (fun z => nomatch z) hc
      by_cases eg : getF ks ds f = none
      · rw [if_pos eg] at p
        exact ⟨a, C, dx, _, rfl, hH, cl, .inr ⟨v, u, co, getF_none rl n eg, p H1 F1 ρ1 .refl .refl S1 v (VR.fr' (rv F1 ρ1))⟩⟩
      · rw [if_neg eg] at p; exact p.elim
def mStF (at_ : String → String → Att) (f : String) (o : Opn) (m : ME) : MS := fun δ μ => (m δ μ).thn fun s δ1 μ1 => (o.ev δ1 μ1).thn fun r δ2 μ2 => match r.self δ2 with
  | some (.obj k) => (match μ2[k]? with
    | some (.ins c kd ks vs) => if (at_ c f).isF = true ∧ ks.length < 1000 then .nx δ2 (μ2.set k (.ins c kd (putNm ks f) (putVs ks vs f s.d))) else .bad
    | _ => .bad)
  | _ => .bad
theorem js_stF {m : ME} (AO : AttsOk X.K X.mg at_) (ho : JO X W o oo) (he : JE X W e m) (hs : swapsWith e (some (.Attribute o (Str.ofString f) pos')) pos.line X.env = pure false := by rfl) : JS X W (.Assign [.Attribute o (Str.ofString f) pos'] e pos) (mStF at_ f oo m) := by
  refine (ps_fld ho he.locked hs).imp fun D' σ H ⟨Z, F, ρ, μ, δ, S, q⟩ => ⟨Z, F, ρ, μ, δ, S, (FinS.thn q).imp fun s δ1 μ1 H1 F1 ρ1 l lr S1 ⟨_, p⟩ y hy => ?_⟩
  refine ⟨Z, F1, ρ1, μ1, δ1, S1, (FinS.thn p).imp fun r δ2 μ2 H2 F2 ρ2 l2 lr2 S2 ⟨_, p2⟩ x hx => ?_⟩
  have hy2 := hy.up l2.to lr2.to
  cases es : r.self δ2 with
  | none => simp only [es] at p2; exact p2.elim
  | some d =>
    cases d with
    | obj k =>
      simp only [es] at p2
      cases em : μ2[k]? with
      | none => simp only [em] at p2; exact p2.elim
      | some u =>
        cases u with
        | ins c kd ks vs =>
          simp only [em] at p2
          by_cases hc : (at_ c f).isF = true ∧ ks.length < 1000
          · rw [if_pos hc] at p2
            have hr := OR.self_rep S2 hx es
            cases hr with
            | obj hp =>
              obtain ⟨a, ea, f1, f2, C, dx, ws, e1, e2, e3, n, rl⟩ := S2.mem k _ em
              rw [hp] at ea
              cases ea
              have ao := AO c f C
              simp only [Att.isF_eq hc.1] at ao
              obtain ⟨cl, no⟩ := ao (fun z => nomatch z) e1
              obtain ⟨vs', g1, g2, g3⟩ := putF_row hy2 (f := f) rl n
              refine ⟨_, C, dx, _, rfl, e3, cl, no, ?_, ?_⟩
              · have : (rowF ks ws).length ≤ ks.length := by simp [rowF]; omega
                exact Nat.lt_of_le_of_lt this hc.2
              · rw [g1]
                exact p2.nx (S2.writeM em hp ⟨C, dx, vs', e1, e2, upd_same, g2, g3⟩)
          · rw [if_neg hc] at p2; exact p2.elim
        | _ => simp only [em] at p2; exact p2.elim
    | _ => simp only [es] at p2; exact p2.elim
end
section
variable {X : Cx} {W : WX} {k j n : Nat} {N : List Str} {sc : Scope} {e : Expr} {es : List Expr} {pos p : Pos} {f C : Addr} {fd : FuncData} {ps : List Str} {ds : List Value} {dvs : List V} {dds : List D} {m : MF} {x : Str}
def Keeps (μ μ' : Mem) : Prop := ∀ (j : Nat) u, μ[j]? = some u → μ'[j]? = some u
open Classical in
noncomputable def lockI (c : String) (μ : Mem) : OutF → OutF
  | .ok (.fr .non) μ' => (match μ'[μ.length]?, μ'[μ.length + 1]? with
    | some (.ins c' kd ks vs), some (.idc k) => if (c' = c ∧ kd = μ.length + 1 ∧ k = μ.length) ∧ Keeps μ μ' ∧ D.lowbs μ.length vs = true then .ok (.fr (.ins c ks vs)) μ else .bad
    | _, _ => .bad)
  | .exc x μ' => if Keeps μ μ' ∧ D.lowb μ.length x.arg = true then .exc x μ else .bad
  | _ => .bad
noncomputable def mkF0 (c : String) (mi : MF) : MF := fun ds μ => lockI c μ (mi (.obj μ.length :: ds) (μ ++ [.ins c (μ.length + 1) [] [], .idc μ.length]))
noncomputable def mkF (c : String) (mi : MF) : MF := Classical.choose (sealed (mkF0 c mi))
theorem mkF_eq {c : String} {mi : MF} {ds : List D} {μ : Mem} : mkF c mi ds μ = mkF0 c mi ds μ := congrFun (congrFun (Classical.choose_spec (sealed (mkF0 c mi))) ds) μ
end
section
variable {K : PySem.W.Frag} {mg : Str → Option Value} {H : Hp} {C x dx : Addr} {c : String} {mi : MF} {n : Nat} {vs : List V} {Q : VK} {E : XK}
theorem ExcR.down {F1 : Hp} {ρ ρ1 : List Addr} {cv : Value} {d : Option Addr} {xx : Exc} {k : Nat} (hk : ∀ j, j < k → ∀ p, ρ1[j]? = some p → ρ[j]? = some p) (h : ExcR K mg F1 ρ1 cv d xx) (hb : D.lowb k xx.arg = true) : ExcR K mg F1 ρ cv d xx := by
  obtain ⟨Cc, dd, v, h1, h2, h3, h4, h5⟩ := h
  exact ⟨Cc, dd, v, h1, h2, h3, h4, h5.down hk hb⟩
theorem new_spF (hc : mg (Str.ofString c) = some (.ref C)) (hx : H x = none) (hd : H dx = none) (ne : dx ≠ x) (h : spM K mg (mkF c mi) n vs H Q E) :
    spM K mg mi (n + 1) (.ref x :: vs) (upd (upd H dx (.own x)) x (.ins C dx [])) (fun v H2 => v = .non ∧ Q (.ref x) H2) E := by
  obtain ⟨hl, Z, F, ρ, μ, ds, S, r, q⟩ := h
  obtain ⟨S2, lr, rp⟩ := S.newIns hx hd ne hc
  refine ⟨by rw [List.length_cons, hl], Z, F, _, _, .obj μ.length :: ds, S2, .cons rp (r.up (fun _ _ z => z) lr.to), ?_⟩
  rw [mkF_eq] at q
  unfold mkF0 at q
  generalize mi (.obj μ.length :: ds) (μ ++ [.ins c (μ.length + 1) [] [], .idc μ.length]) = o at q
  cases o with
  | bad => exact q
  | exc xx μ' =>
    intro cv d H' F' ρ' l lr' S' er
    unfold lockI at q
    dsimp only at q
    by_cases hk : Keeps μ μ' ∧ D.lowb μ.length xx.arg = true
    · rw [if_pos hk] at q
      obtain ⟨S3, dn⟩ := S.shrink S' (fun j p e => lr'.to j p (lr.to j p e)) hk.1
      exact q cv d H' F' ρ l .refl S3 (ExcR.down dn er (by rw [S.mlen]; exact hk.2))
    · rw [if_neg hk] at q; exact q.elim
  | ok s μ' =>
    cases s with
    | own o => exact q.elim
    | fr d =>
      cases d with
      | non =>
        intro v H' F' ρ' l lr' S' rv
        cases rv
        refine ⟨rfl, ?_⟩
        unfold lockI at q
        cases e0 : μ'[μ.length]? with
        | none => simp only [e0] at q; exact q.elim
        | some u0 =>
          cases u0 with
          | ins c' kd ks ws =>
            cases e1 : μ'[μ.length + 1]? with
            | none => simp only [e0, e1] at q; exact q.elim
            | some u1 =>
              cases u1 with
              | idc k =>
                simp only [e0, e1] at q
                by_cases hk : (c' = c ∧ kd = μ.length + 1 ∧ k = μ.length) ∧ Keeps μ μ' ∧ D.lowbs μ.length ws = true
                · rw [if_pos hk] at q
                  obtain ⟨⟨rfl, rfl, rfl⟩, h2, h3⟩ := hk
                  obtain ⟨F2, l2, S3, rp2⟩ := S.settle S' l lr' h2 e0 e1 h3
                  exact q (.ref x) H' F2 ρ l2 .refl S3 rp2
                · rw [if_neg hk] at q; exact q.elim
              | _ => simp only [e0, e1] at q; exact q.elim
          | _ => simp only [e0] at q; exact q.elim
      | _ => exact q.elim
end
section
variable {X : Cx} {W : WX} {k j n : Nat} {N : List Str} {sc : Scope} {e : Expr} {es : List Expr} {pos p : Pos} {f C : Addr} {fd : FuncData} {ps : List Str} {ds : List Value} {dvs : List V} {dds : List D} {m mi : MF} {x : Str} {c : String}
theorem RmG.make {A : Around} (r : RmG (k + 1) A) (C : Addr) (us : List Value) (kw : List (Str × Value)) : RmG k (A.under (.builtin "type.__call__" ⟨.ref C :: us, kw⟩)) :=
  ⟨r.r.make C us kw, by have := r.g; first | exact this | (simp [Around.under]; exact this)⟩
theorem run_makeG {pins : List (Addr × Obj)} {σ : L2.St} {H : Hp} {s : Shared} {Q : VK} {E : XK} {us : List Value} {vs : List V} (M : Mk X.K C f) (F : FnG X.prog X.w X.K X.mg X.base (L2.CX X.prog X.w) j f fd ps (spM X.K X.mg mi (n + 1))) (hr : RmG (j + 1) X.A) (hb : Binds X.K fd ps ds)
    (hd : Vals dvs ds) (hx : PassesAt (L2.CX X.prog X.w) X σ E) (I : Inv X pins σ H s) (r : Vals vs us)
    (h : ∀ xa dx, H xa = none → H dx = none → dx ≠ xa → spM X.K X.mg mi (n + 1) (.ref xa :: (vs ++ dvs)) (upd (upd H dx (.own xa)) xa (.ins C dx [])) (fun v H2 => v = .non ∧ Q (.ref xa) H2) E) :
    wpAny (model X.prog X.w) X.A (call (.ref C) us) (EP X pins σ Q) X.xe s := by
  have new := h (s.heap.objs.size + 1) s.heap.objs.size (I.hok.fresh (Nat.le_succ _)) (I.hok.fresh (Nat.le_refl _)) (Nat.ne_of_lt (Nat.lt_succ_self _))
  have J := Inv.made (C := C) I
  have rv : Vals (V.ref (s.heap.objs.size + 1) :: (vs ++ dvs)) (Value.ref (s.heap.objs.size + 1) :: (us ++ ds)) := .cons rfl (r.append hd)
  have many : (Value.ref (s.heap.objs.size + 1) :: us ++ ds).length = ps.length := (F.len _ _ _ _ new ▸ rv.length).symm
  refine wpAny_call (make_map (f := f) I.kIn M.makes M.init (beq_iff_eq.mp M.fn) (codeAny_mono (F.run _ X.stack _ _ ⟨Value.ref (s.heap.objs.size + 1) :: us, []⟩ _ _ _ E (hr.make C us []) (J.env0.make C us []) (hb _ (Value.ref (s.heap.objs.size + 1) :: us) J.kIn many) rv new) fun res t ht => ?_))
  match res, ht with
  | .error er, ht => exact hx pins _ _ er t J ht
  | .ok (.ret u), ht =>
    obtain ⟨v, H', I3, rvu, ev, q3⟩ := J.after ht
    cases ev
    exact ⟨rvu, V.ref (s.heap.objs.size + 1), H', I3, rfl, q3⟩
theorem CallD.mkF (hc : X.mg (Str.ofString c) = some (.ref C)) (M : Mk X.K C f) (F : FnG X.prog X.w X.K X.mg X.base (L2.CX X.prog X.w) j f fd ps (spM X.K X.mg mi (n + 1))) (hb : Binds X.K fd ps ds) (hd : Vals dvs ds) (hdd : ∀ F ρ, RepL X.K X.mg F ρ dvs dds) : CallD X (j + 1) C (FL.mkF c mi) n dds :=
  ⟨dvs, hdd, fun hr pins σ H s us vs Q E hx I r h => run_makeG M F hr hb hd hx I r fun xa dx h1 h2 h3 => new_spF hc h1 h2 h3 h⟩
end
end FL
namespace FL
open PySem PySem.Spec PyProof.Rows L2
theorem rep_nth {K : PySem.W.Frag} {mg : Str → Option Value} {F : Hp} {ρ : List Addr} : ∀ {vs : List V} {ds : List D}, RepL K mg F ρ vs ds → ∀ i : Nat, (vs[i]? = none ∧ ds[i]? = none) ∨ ∃ v d, vs[i]? = some v ∧ ds[i]? = some d ∧ Rep K mg F ρ v d
  | _, _, .nil, i => .inl ⟨rfl, rfl⟩
  | _, _, .cons h t, 0 => .inr ⟨_, _, rfl, rfl, h⟩
  | _, _, .cons h t, i + 1 => by simpa using rep_nth t i
theorem pickS_rep {K : PySem.W.Frag} {mg : Str → Option Value} {F : Hp} {ρ : List Addr} {vs dv zs : List V} {us dw ws : List D} (h1 : RepL K mg F ρ vs us) (h2 : RepL K mg F ρ dv dw) (h3 : RepL K mg F ρ zs ws) : ∀ sel : List Sel, RepL K mg F ρ (pickS sel vs dv zs) (pickS sel us dw ws)
  | [] => .nil
  | a :: sel => by
    have ih := pickS_rep h1 h2 h3 sel
    have q : (a.get vs dv zs = none ∧ a.get us dw ws = none) ∨ ∃ v u, a.get vs dv zs = some v ∧ a.get us dw ws = some u ∧ Rep K mg F ρ v u := by
      cases a with
      | pos i => exact rep_nth h1 i
      | key i => exact rep_nth h3 i
      | dfl i => exact rep_nth h2 i
    unfold pickS at ih ⊢
    rcases q with ⟨e1, e2⟩ | ⟨v, u, e1, e2, r⟩
    · rw [List.filterMap_cons_none e1, List.filterMap_cons_none e2]; exact ih
    · rw [List.filterMap_cons_some e1, List.filterMap_cons_some e2]; exact .cons r ih
def BindW1 (K : PySem.W.Frag) (fd : FuncData) (ps : List Str) (n : Nat) (ks : List Str) (sel : List Sel) (dw : List Value) : Prop :=
  ∀ (s : Shared) (x : Value) (us ws : List Value), K.In s.heap → us.length = n → ws.length = ks.length → BindsTo s fd ⟨x :: us, ks.zip ws⟩ (ps.zip (x :: pickS sel us dw ws))
section
variable {X : Cx} {W : WX} {k j n N : Nat} {e : Expr} {es : List Expr} {kws : List Keyword} {pos p : Pos} {f C a : Addr} {fd : FuncData} {ps ks : List Str} {ds : List Value} {dvs : List V} {dds : List D} {m mi : MF} {x : Str} {c : String} {sel : List Sel}
theorem run_makeW {pins : List (Addr × Obj)} {σ : L2.St} {H : Hp} {s : Shared} {Q : VK} {E : XK} {us ws : List Value} {vs zs : List V} (M : Mk X.K C f) (F : FnG X.prog X.w X.K X.mg X.base (L2.CX X.prog X.w) j f fd ps (spM X.K X.mg mi (N + 1))) (hr : RmG (j + 1) X.A)
    (hb : BindW1 X.K fd ps n ks sel ds) (hd : Vals dvs ds) (hx : PassesAt (L2.CX X.prog X.w) X σ E) (I : Inv X pins σ H s) (r : Vals vs us) (rz : Vals zs ws) (l1 : vs.length = n) (l2 : zs.length = ks.length)
    (h : ∀ xa dx, H xa = none → H dx = none → dx ≠ xa → spM X.K X.mg mi (N + 1) (.ref xa :: pickS sel vs dvs zs) (upd (upd H dx (.own xa)) xa (.ins C dx [])) (fun v H2 => v = .non ∧ Q (.ref xa) H2) E) :
    wpAny (model X.prog X.w) X.A (call (.ref C) us (ks.zip ws)) (EP X pins σ Q) X.xe s := by
  have new := h (s.heap.objs.size + 1) s.heap.objs.size (I.hok.fresh (Nat.le_succ _)) (I.hok.fresh (Nat.le_refl _)) (Nat.ne_of_lt (Nat.lt_succ_self _))
  have J := Inv.made (C := C) I
  have rv : Vals (V.ref (s.heap.objs.size + 1) :: pickS sel vs dvs zs) (Value.ref (s.heap.objs.size + 1) :: pickS sel us ds ws) := .cons rfl (pickS_vals r hd rz sel)
  have b := hb _ (Value.ref (s.heap.objs.size + 1)) us ws J.kIn (by rw [← r.length, l1]) (by rw [← rz.length, l2])
  refine wpAny_call (make_map (f := f) I.kIn M.makes M.init (beq_iff_eq.mp M.fn) (codeAny_mono (F.run _ X.stack _ _ ⟨Value.ref (s.heap.objs.size + 1) :: us, ks.zip ws⟩ _ _ _ E (hr.make C us (ks.zip ws)) (J.env0.make C us (ks.zip ws)) b rv new) fun res t ht => ?_))
  match res, ht with
  | .error er, ht => exact hx pins _ _ er t J ht
  | .ok (.ret u), ht =>
    obtain ⟨v, H', I3, rvu, ev, q3⟩ := J.after ht
    cases ev
    exact ⟨rvu, V.ref (s.heap.objs.size + 1), H', I3, rfl, q3⟩
theorem CallW.mkF (hc : X.mg (Str.ofString c) = some (.ref C)) (M : Mk X.K C f) (F : FnG X.prog X.w X.K X.mg X.base (L2.CX X.prog X.w) j f fd ps (spM X.K X.mg mi (N + 1))) (hb : BindW1 X.K fd ps n ks sel ds) (hd : Vals dvs ds) (hdd : ∀ F ρ, RepL X.K X.mg F ρ dvs dds)
    (len : ∀ {α : Type} (vs ds zs : List α), vs.length = n → ds.length = dds.length → zs.length = ks.length → (pickS sel vs ds zs).length = N) : CallW X (j + 1) C n ks sel (FL.mkF c mi) N dds :=
  ⟨M.kp, len, dvs, hdd, fun hr pins σ H s us ws vs zs Q E hx I r rz l1 l2 h => run_makeW M F hr hb hd hx I r rz l1 l2 fun xa dx h1 h2 h3 => new_spF hc h1 h2 h3 h⟩
def tCallW (sp : Sp) (n l : Nat) (sel : List Sel) (dvs : List V) (E : L2.St → XK) (t tk : TA) : TE := fun σ H Q => t σ H fun vs H1 => tk σ H1 fun zs H2 => vs.length = n ∧ zs.length = l ∧ sp (pickS sel vs dvs zs) H2 Q (E σ)
theorem pe_callW {E : L2.St → XK} {t tk : TA} {sp : Sp} (hk : PySem.W.keepIn X.K (.ref a) = true) (hr : ∀ (pins : List (Addr × Obj)) (σ : L2.St) (H : Hp) (s : Shared) (us ws : List Value) (vs zs : List V) (Q : VK) (E : XK), PassesAt (L2.CX X.prog X.w) X σ E → Inv X pins σ H s → Vals vs us → Vals zs ws → vs.length = n → zs.length = ks.length →
      sp (pickS sel vs dvs zs) H Q E → wpAny (model X.prog X.w) X.A (call (.ref a) us (ks.zip ws)) (EP X pins σ Q) X.xe s)
    (hg : Gl X x) (hm : X.mg x = some (.ref a)) (hx : ∀ σ, PassesAt (L2.CX X.prog X.w) X σ (E σ)) (ha : PA X (e :: es) t) (hkw : PK X kws tk) (hdb : (x == ("__debug__" : Str)) = false)
    (hall : (backToKw pos (keywordEach kws X.env)).all (·.1.isSome) = true) (hks : (backToKw pos (keywordEach kws X.env)).filterMap (·.1) = ks)
    (he : starEach (e :: es) X.env = (false, eval e X.env) :: starEach es X.env) (hpl : ((backTo pos (starEach (e :: es) X.env)).any (·.1) || (backToKw pos (keywordEach kws X.env)).any (·.1.isNone)) = false) :
    PE X (.Call (.Name x p) (e :: es) kws pos) (tCallW sp n ks.length sel dvs E t tk) := by
  refine ⟨fun pins s σ H Q I h => wpAny_Call_Name_kw (ld_glob I hg hm (PySem.W.callWith_KW (h₀ := X.base) I.ok.mod.kin hk hall (thn (ha.run pos pins s σ H _ I h) fun us s1 ⟨vs, H1, I1, r, q⟩ => thn (hkw.run pos pins s1 σ H1 _ I1 q) fun ws s2 ⟨zs, H2, I2, rz, l1, l2, q2⟩ => ⟨I2.kIn, ?_⟩) hpl he) hdb)⟩
  rw [hks]
  exact hr pins σ H2 s2 us ws vs zs Q _ (hx σ) I2 r rz l1 l2 q2
theorem pe_callW0 {E : L2.St → XK} {tk : TA} {sp : Sp} (hk : PySem.W.keepIn X.K (.ref a) = true) (hr : ∀ (pins : List (Addr × Obj)) (σ : L2.St) (H : Hp) (s : Shared) (us ws : List Value) (vs zs : List V) (Q : VK) (E : XK), PassesAt (L2.CX X.prog X.w) X σ E → Inv X pins σ H s → Vals vs us → Vals zs ws → vs.length = 0 → zs.length = ks.length →
      sp (pickS sel vs dvs zs) H Q E → wpAny (model X.prog X.w) X.A (call (.ref a) us (ks.zip ws)) (EP X pins σ Q) X.xe s)
    (hg : Gl X x) (hm : X.mg x = some (.ref a)) (hx : ∀ σ, PassesAt (L2.CX X.prog X.w) X σ (E σ)) (hkw : PK X kws tk) (hdb : (x == ("__debug__" : Str)) = false)
    (hall : (backToKw pos (keywordEach kws X.env)).all (·.1.isSome) = true) (hks : (backToKw pos (keywordEach kws X.env)).filterMap (·.1) = ks)
    (hpl : ((backTo pos (starEach [] X.env)).any (·.1) || (backToKw pos (keywordEach kws X.env)).any (·.1.isNone)) = false) :
    PE X (.Call (.Name x p) [] kws pos) (tCallW sp 0 ks.length sel dvs E tNil tk) := by
  refine ⟨fun pins s σ H Q I h => wpAny_Call_Name_kw (ld_glob I hg hm (PySem.W.callWith_KW0 (h₀ := X.base) I.ok.mod.kin hk hall (thn (hkw.run pos pins s σ H _ I h) fun ws s2 ⟨zs, H2, I2, rz, _, l2, q2⟩ => ⟨I2.kIn, ?_⟩) hpl) hdb)⟩
  rw [hks]
  exact hr pins σ H2 s2 [] ws [] zs Q _ (hx σ) I2 .nil rz rfl l2 q2
abbrev JK (X : Cx) (W : WX) (kws : List Keyword) (ms : List ME) : Prop := PK X kws (rdA X W ms)
theorem pk_imp {t t' : TA} (h : PK X kws t) (i : ∀ σ H Q, t' σ H Q → t σ H Q) : PK X kws t' := ⟨fun pos pins s σ H Q I q => h.run pos pins s σ H Q I (i σ H Q q)⟩
theorem jk_nil : JK X W [] [] := pk_imp pk_nil fun σ H Q ⟨Z, F, ρ, μ, δ, S, q⟩ => q H F ρ .refl .refl S [] .nil
theorem jk_cons {nm : Option Str} {kpos : Pos} {m : ME} {ms : List ME} (h : JE X W e m) (t : JK X W kws ms) : JK X W (⟨nm, e, kpos⟩ :: kws) (m :: ms) := by
  refine pk_imp (pk_cons h.locked t) fun σ H Q ⟨Z, F, ρ, μ, δ, S, q⟩ => ?_
  have q' : FinE X W Z F ρ σ (fun ds _ _ F' ρ' H' => ∀ vs, RepL X.K X.mg F' ρ' vs ds → Q vs H') ((m δ μ).bind fun s δ1 μ1 => (evA ms δ1 μ1).bind fun ds δ2 μ2 => .ok (s.d :: ds) δ2 μ2) := q
  refine ⟨Z, F, ρ, μ, δ, S, q'.bind.imp fun s δ1 μ1 H1 F1 ρ1 l lr S1 ⟨_, _, _, z⟩ v hv => ?_⟩
  refine ⟨Z, F1, ρ1, μ1, δ1, S1, z.bind.imp fun ds δ2 μ2 H2 F2 ρ2 l2 lr2 S2 ⟨_, _, _, z2⟩ vs hvs => ?_⟩
  exact z2 H2 F2 ρ2 .refl .refl S2 (v :: vs) (.cons (hv.up l2.to lr2.to) hvs)
def mCallK (m : MF) (sel : List Sel) (ms mks : List ME) (dds : List D) : ME := fun δ μ => (evA ms δ μ).bind fun ds δ1 μ1 => (evA mks δ1 μ1).bind fun zs δ2 μ2 => match m (pickS sel ds dds zs) μ2 with
  | .ok s μ3 => .ok s δ2 μ3
  | .exc x μ3 => .exc x δ2 μ3
  | .bad => .bad
theorem callW_read {ms mks : List ME} (hdd : ∀ F ρ, RepL X.K X.mg F ρ dvs dds) (len : ∀ {α : Type} (vs ds zs : List α), vs.length = n → ds.length = dds.length → zs.length = ks.length → (pickS sel vs ds zs).length = N) (h1 : ms.length = n) (h2 : mks.length = ks.length) :
    ∀ σ H Q, rdE X W (mCallK m sel ms mks dds) σ H Q → tCallW (spM X.K X.mg m N) n ks.length sel dvs (WE W) (rdA X W ms) (rdA X W mks) σ H Q := by
  intro σ H Q ⟨Z, F, ρ, μ, δ, S, q⟩
  refine ⟨Z, F, ρ, μ, δ, S, ?_⟩
  unfold mCallK at q
  cases ea : evA ms δ μ with
  | bad => rw [ea] at q; exact q
  | exc x δ1 μ1 => rw [ea] at q; exact q
  | ok ds δ1 μ1 =>
    rw [ea, Out.bind_ok] at q
    intro H1 F1 ρ1 l1 lr1 S1 vs hv
    refine ⟨Z, F1, ρ1, μ1, δ1, S1, ?_⟩
    cases eb : evA mks δ1 μ1 with
    | bad => rw [eb] at q; exact q
    | exc x δ2 μ2 => rw [eb] at q; exact q.mono l1 lr1
    | ok zs δ2 μ2 =>
      rw [eb, Out.bind_ok] at q
      intro H2 F2 ρ2 l2 lr2 S2 ws hw
      have q2 := (q.mono l1 lr1).mono l2 lr2
      have hv2 := hv.up l2.to lr2.to
      have l3 : vs.length = n := by rw [hv2.len, ← evA_len ea, h1]
      have l4 : ws.length = ks.length := by rw [hw.len, ← evA_len eb, h2]
      have hp := pickS_rep hv2 (hdd F2 ρ2) hw sel
      refine ⟨l3, l4, len vs dvs ws l3 (hdd F2 ρ2).len l4, zone Z H2 δ2 σ, F2, ρ2, μ2, pickS sel ds dds zs, S2.enter, hp, ?_⟩
      generalize m (pickS sel ds dds zs) μ2 = o at q2
      cases o with
      | ok s μ3 => exact fun v H' F' ρ' l lr S' rv => q2 H' F' ρ' (S2.leLeave l) (S2.leRLeave lr) (S2.leave S' l lr) v (S2.came rv)
      | exc x μ3 => exact fun c d H' F' ρ' l lr S' er => q2 c d H' F' ρ' (S2.leLeave l) (S2.leRLeave lr) (S2.leave S' l lr) er
      | bad => exact q2
theorem je_callW {sc : Scope} {nm : List Str} {ms mks : List ME} (Cc : Cs X W k nm sc) (F : CallW X j a n ks sel m N dds) (hm : X.mg x = some (.ref a)) (hjk : j ≤ k) (hg : glC sc x = true) (ha : JA X W (e :: es) ms) (hkw : JK X W kws mks) (h1 : ms.length = n) (h2 : mks.length = ks.length)
    (hall : (backToKw pos (keywordEach kws X.env)).all (·.1.isSome) = true := by rfl) (hks : (backToKw pos (keywordEach kws X.env)).filterMap (·.1) = ks := by rfl)
    (he : starEach (e :: es) X.env = (false, eval e X.env) :: starEach es X.env := by rfl) (hpl : ((backTo pos (starEach (e :: es) X.env)).any (·.1) || (backToKw pos (keywordEach kws X.env)).any (·.1.isNone)) = false := by rfl) :
    JE X W (.Call (.Name x p) (e :: es) kws pos) (mCallK m sel ms mks dds) := by
  obtain ⟨dvs, hdd, run⟩ := F.ex
  obtain ⟨g1, g2, g3⟩ := Cc.gl hg
  exact (pe_callW F.kp (run (Cc.rm.mono hjk)) g1 hm (passAt Cc.tk) ha hkw g2 hall hks he hpl).imp (callW_read hdd F.len h1 h2)
theorem je_callW0 {sc : Scope} {nm : List Str} {mks : List ME} (Cc : Cs X W k nm sc) (F : CallW X j a 0 ks sel m N dds) (hm : X.mg x = some (.ref a)) (hjk : j ≤ k) (hg : glC sc x = true) (hkw : JK X W kws mks) (h2 : mks.length = ks.length)
    (hall : (backToKw pos (keywordEach kws X.env)).all (·.1.isSome) = true := by rfl) (hks : (backToKw pos (keywordEach kws X.env)).filterMap (·.1) = ks := by rfl)
    (hpl : ((backTo pos (starEach [] X.env)).any (·.1) || (backToKw pos (keywordEach kws X.env)).any (·.1.isNone)) = false := by rfl) :
    JE X W (.Call (.Name x p) [] kws pos) (mCallK m sel [] mks dds) := by
  obtain ⟨dvs, hdd, run⟩ := F.ex
  obtain ⟨g1, g2, g3⟩ := Cc.gl hg
  refine (pe_callW0 F.kp (run (Cc.rm.mono hjk)) g1 hm (passAt Cc.tk) hkw g2 hall hks hpl).imp fun σ H Q h => ?_
  obtain ⟨Z, F', ρ, μ, δ, S, q⟩ := callW_read (W := W) (ms := []) hdd F.len rfl h2 σ H Q h
  exact q H F' ρ .refl .refl S [] .nil
end
end FL
namespace FL
open PySem PySem.Spec PyProof.Rows L2
theorem RmG.in1 {A : Around} {k : Nat} (r : RmG (k + 1) A) : RmG k A.in1 := ⟨r.r.in1, r.g⟩
def noX : XK := fun _ _ _ => False
section
variable {X : Cx} {W : WX} {k j n N : Nat} {e o : Expr} {es : List Expr} {kws : List Keyword} {pos p apos : Pos} {C g a dx q : Addr} {fd : FuncData} {ps : List Str} {fs : List (Str × V)} {f : Str} {sp : Sp} {nm : Str}
theorem getprop_G {pins : List (Addr × Obj)} {σ : L2.St} {H : Hp} {s : Shared} {Q : VK} {b : Bool} {E' : Value → Shared → Prop} (I : Inv X pins σ H s) (ea : H a = some (.ins C dx fs)) (c : Cls X.K C) (hp : PropOf X.K C f q g)
    (F : FnG X.prog X.w X.K X.mg X.base (L2.CX X.prog X.w) k g fd [nm] sp) (hr : RmG (k + 1) X.A) (hb : Binds X.K fd [nm] []) (h : sp [.ref a] H Q noX) : wpAny (model X.prog X.w) X.A (getAttr (.ref a) f b) (EP X pins σ Q) E' s := by
  obtain ⟨mA, O, _, _, _, _⟩ := ins_get I.hok ea
  obtain ⟨od, J, _⟩ := O.look
  obtain ⟨rest, rc⟩ := hp.rec_
  have I1 := I.tok (s.toks + 1)
  have hc : (PySem.W.clsIn X.K C).isSome = true := by
    obtain ⟨cd, e, _⟩ := PySem.W.any_some c.hd
    rw [e] <;> rfl
  refine PySem.W.get_bind I.kIn J (PySem.W.plainGet_of (c.get f)).1 (PySem.W.findObj_data hc hp.at_ hp.get hp.tak) (PySem.W.plainGet_of (c.get f)).2 (wpAny_call (PySem.W.prop_get (s := { s with toks := s.toks + 1 }) (K := X.K) I.kIn rc ?_))
  refine codeAny_mono (F.run X.A.in1 X.stack { s with toks := s.toks + 1 } H ⟨[.ref a], []⟩ [.ref a] [.ref a] Q noX hr.in1 I1.env0.in1 (hb _ [.ref a] I1.kIn rfl) (.cons rfl .nil) h) fun res t ht => ?_
  match res, ht with
  | .error er, ⟨_, _, _, _, _, _, _, _, _, _, _, _, z⟩ => exact z.elim
  | .ok (.ret u), ht =>
    obtain ⟨v, H', I3, rv, q3⟩ := I1.after ht
    show wpAny _ _ (handedOut u) _ _ _
    rw [PySem.W.handedOut_of (handed_of rv)]
    exact wpAny_pure ⟨v, H', I3, rv, q3⟩
def mProp (pt : String → String → Option MF) (f : String) (o : Opn) : ME := fun δ μ => (o.ev δ μ).bind fun r δ1 μ1 => match r.self δ1 with
  | some d => (match insOf μ1 d with
    | some (c, _, _) => (match pt c f with
      | some m => (match m [d] μ1 with
        | .ok s μ2 => .ok s δ1 μ2
        | _ => .bad)
      | none => .bad)
    | none => .bad)
  | none => .bad
def tPropG (X : Cx) (ta : TE) (f : Str) (k : Nat) : TE := fun σ H Q => ta σ H fun x H1 => ∃ a C dx fs p g fd nm sp, x = .ref a ∧ H1 a = some (.ins C dx fs) ∧ Cls X.K C ∧ PropOf X.K C f p g ∧ FnG X.prog X.w X.K X.mg X.base (L2.CX X.prog X.w) k g fd [nm] sp ∧ Binds X.K fd [nm] [] ∧ sp [.ref a] H1 Q noX
theorem pe_propG {ta : TE} (he : PE X e ta) (hr : RmG (k + 1) X.A) (hb : attributeBase e f X.env (eval e X.env) = eval e X.env) : PE X (.Attribute e f pos) (tPropG X ta f k) :=
  ⟨fun pins s σ H Q I h => attr_of hb (thn (he.run pins s σ H _ I h) fun u s1 ⟨x, H1, I1, rx, a, C, dx, fs, p, g, fd, nm, sp, ex, ea, c, hp, F, b, q⟩ => by
    subst ex
    obtain rfl : u = Value.ref a := rx
    exact getprop_G I1 ea c hp F hr b q)⟩
theorem prop_read {pt : String → String → Option MF} {f : String} {oo : Opn} (P : PropsOk X j pt) : ∀ σ H Q, rdE X W (mProp pt f oo) σ H Q → tPropG X (rdO X W oo) (Str.ofString f) j σ H Q := by
  intro σ H Q ⟨Z, F, ρ, μ, δ, S, q⟩
  refine ⟨Z, F, ρ, μ, δ, S, (FinE.bind q).imp fun r δ1 μ1 H1 F1 ρ1 l lr S1 ⟨_, _, _, z⟩ x hx => ?_⟩
  cases e1 : r.self δ1 with
  | none => simp only [e1] at z; exact z.elim
  | some d =>
    simp only [e1] at z
    cases e2 : insOf μ1 d with
    | none => simp only [e2] at z; exact z.elim
    | some t =>
      obtain ⟨c, ks, ds⟩ := t
      simp only [e2] at z
      cases e3 : pt c f with
      | none => simp only [e3] at z; exact z.elim
      | some m =>
        simp only [e3] at z
        have hr := OR.self_rep S1 hx e1
        obtain ⟨a, C, dx, vs, rfl, hc, hH, n, rl⟩ := ins_at S1 hr e2
        obtain ⟨cl, p, g, fd, nm, hp, G, b⟩ := P c f m e3 C hc
        refine ⟨a, C, dx, _, p, g, fd, nm, spM X.K X.mg m 1, rfl, hH, cl, hp, G, b, rfl, zone Z H1 δ1 σ, F1, ρ1, μ1, [d], S1.enter, .cons hr .nil, ?_⟩
        generalize m [d] μ1 = o at z
        cases o with
        | ok s μ2 => exact fun v H' F' ρ' l lr S' rv => z H' F' ρ' (S1.leLeave l) (S1.leRLeave lr) (S1.leave S' l lr) v (S1.came rv)
        | exc x μ2 => exact z.elim
        | bad => exact z.elim
theorem Cs.prop {sc : Scope} {nl : List Str} {pt : String → String → Option MF} {f : String} {oo : Opn} (Cc : Cs X W k nl sc) (P : PropsOk X j pt) (hjk : j + 1 ≤ k) (ho : JO X W o oo) (hb : attributeBase o (Str.ofString f) X.env (eval o X.env) = eval o X.env := by rfl) : JE X W (.Attribute o (Str.ofString f) pos) (mProp pt f oo) :=
  (pe_propG ho (Cc.rm.mono hjk) hb).imp (prop_read P)
end
end FL
namespace FL
open PySem PySem.Spec PyProof.Rows L2
structure InsK (K : PySem.W.Frag) (C : Addr) : Prop where
  cl : Cls K C
  ca : PySem.W.findIn K (.ref C) "__class__" = some (some (.builtin "object.__class__"))
  sp : PySem.W.specialIn K (.builtin "object.__class__") "__get__" = some (some (.builtin "getset_descriptor.__get__"))
  tk : PySem.W.takesIn K (.builtin "object.__class__") = some true
  ob : PySem.W.mroIn K C (.type "object") = some true
def IsaC (K : PySem.W.Frag) (mg : Str → Option Value) (isa : String → String → Option Bool) : Prop := ∀ c d b C D, isa c d = some b → mg (Str.ofString c) = some (.ref C) → mg (Str.ofString d) = some (.ref D) → InsK K C ∧ PySem.W.kitOne K (.ref C) (.ref D) = some b
def IsbC (K : PySem.W.Frag) (mg : Str → Option Value) (isb : String → String → Option Bool) : Prop := ∀ t d b D, isb t d = some b → mg (Str.ofString d) = some (.ref D) → PySem.W.kitOne K (.type t) (.ref D) = some b
def isD (isa isb : String → String → Option Bool) (d : String) (δ : FL.Loc) (μ : Mem) (r : OR) : Option Bool := match (r.self δ).bind (insOf μ) with
  | some (c, _, _) => isa c d
  | none => (match (r.at δ μ).bind tyN with
    | some t => isb t d
    | none => none)
def mIsC (isa isb : String → String → Option Bool) (d : String) (o : Opn) : ME := fun δ μ => (o.ev δ μ).bind fun r δ1 μ1 => match isD isa isb d δ1 μ1 r with
  | some b => .ok (.fr (.bl b)) δ1 μ1
  | none => .bad
section
variable {X : Cx} {W : WX} {k : Nat} {N : List Str} {sc : Scope} {e e' : Expr} {es : List Expr} {pos p : Pos} {o : Opn} {isa isb : String → String → Option Bool} {d : String} {D : Addr}
theorem glo_ref {F : Hp} {ρ : List Addr} {y : V} (hD : X.mg (Str.ofString d) = some (.ref D)) (h : Rep X.K X.mg F ρ y (.glo d)) : y = .ref D := by
  cases h with
  | glo g1 g2 =>
    rw [hD] at g1
    cases g1
    cases y with
    | ref p => cases g2; rfl
    | int _ => obtain ⟨_, z⟩ := g2; cases z
    | str _ => obtain ⟨_, z⟩ := g2; cases z
    | byt _ => obtain ⟨_, z⟩ := g2; cases z
    | flt _ => obtain ⟨_, z⟩ := g2; cases z
    | _ => cases g2
theorem isC_read (hD : X.mg (Str.ofString d) = some (.ref D)) (ha : IsaC X.K X.mg isa) (hb : IsbC X.K X.mg isb) : ∀ σ H Q, rdE X W (mIsC isa isb d o) σ H Q → tCB (rIsi X.K) (rdOs X W [o, .e (mD (.glo d))]) σ H Q := by
  intro σ H Q ⟨Z, F, ρ, μ, δ, S, q⟩
  refine ⟨Z, F, ρ, μ, δ, S, ?_⟩
  show FinE X W Z F ρ σ _ ((o.ev δ μ).bind fun r δ1 μ1 => .ok [r, .d (.glo d)] δ1 μ1)
  unfold mIsC at q
  cases eo : o.ev δ μ with
  | bad => rw [eo] at q; exact q
  | exc x δ1 μ1 => rw [eo] at q; exact q
  | ok r δ1 μ1 =>
    rw [eo, Out.bind_ok] at q
    intro H1 F1 ρ1 l lr S1 xs hx
    have z := q.mono l lr
    cases hx with
    | cons h1 t =>
      cases t with
      | cons h2 t =>
        cases t
        cases glo_ref hD h2
        cases ei : isD isa isb d δ1 μ1 r with
        | none => rw [ei] at z; exact z.elim
        | some b =>
          rw [ei] at z
          have fin := z H1 F1 ρ1 .refl .refl S1 (.bl b) (VR.fr' .bl)
          unfold isD at ei
          cases es : (r.self δ1).bind (insOf μ1) with
          | some w =>
            obtain ⟨c, ks, ds⟩ := w
            rw [es] at ei
            obtain ⟨y, e1, e2⟩ := Option.bind_eq_some_iff.mp es
            obtain ⟨a, C, dx, vs, rfl, hc, hH, n, rl⟩ := ins_at S1 (OR.self_rep S1 h1 e1) e2
            obtain ⟨K1, ko⟩ := ha c d b C D ei hc hD
            exact ⟨_, _, .ref C, _, b, rfl, .own D, .base (.ins hH K1.cl K1.ca K1.sp K1.tk K1.ob), ko, fin⟩
          | none =>
            rw [es] at ei
            cases et : (r.at δ1 μ1).bind tyN with
            | none => simp only [et] at ei; cases ei
            | some t =>
              simp only [et] at ei
              obtain ⟨y, e1, e2⟩ := Option.bind_eq_some_iff.mp et
              exact ⟨_, _, .type t, _, b, rfl, .own D, tyX_of S1 (h1.bor S1 e1) e2, hb t d b D ei hD, fin⟩
theorem Cs.isC (Cc : Cs X W k N sc) (h1 : glC sc "isinstance" = true) (m1 : X.mg "isinstance" = none) (h2 : glC sc (Str.ofString d) = true) (hD : ∃ D : Addr, X.mg (Str.ofString d) = some (.ref D)) (ha : IsaC X.K X.mg isa) (hb : IsbC X.K X.mg isb) (ho : JO X W e o)
    (he : starEach [e, .Name (Str.ofString d) p] X.env = (false, eval e X.env) :: starEach [.Name (Str.ofString d) p] X.env := by rfl) (he2 : starEach [.Name (Str.ofString d) p] X.env = (false, eval (.Name (Str.ofString d) p) X.env) :: starEach [] X.env := by rfl)
    (hpl : (backTo pos (starEach [.Name (Str.ofString d) p] X.env)).any (·.1) = false := by rfl) {p' : Pos} : JE X W (.Call (.Name "isinstance" p') [e, .Name (Str.ofString d) p] [] pos) (mIsC isa isb d o) :=
  let ⟨D, hD'⟩ := hD
  (pe_callB call_isi (Cc.gl h1).1 m1 rfl (jos_cons ho (jos_cons (jo_e (Cc.cls h2 ⟨D, hD'⟩)) jos_nil he2) he) (by decide) (by decide) he hpl).imp (isC_read hD' ha hb)
end
end FL
namespace FL
open PySem PySem.Spec PyProof.Rows L2
structure ClsScope (N ps : List Str) (sc : Scope) : Prop where
  kind : sc.kind = .function
  co : sc.isCoroutine = false
  gen : sc.isGenerator = false
  nd : N.Nodup
  pre : N.take ps.length = ps
  par : ∀ x ∈ ps, sc.names.lookup x = some .local
  nocell : ∀ y ∈ sc.names, y.2 ≠ .cell
  free : ∀ y ∈ sc.names, y.2 = .free → y.1 = "__class__"
  ls : sc.names.lookup ("super" : Str) = some .globalImplicit
  lc : sc.names.lookup ("__class__" : Str) = some .free
def clsX (P : Program) (w : World) (K : PySem.W.Frag) (mg : Str → Option Value) (base : Heap) (N : List Str) (qual : Str) (scope : Scope) (f : Addr) (cd : Value) (cc : Addr) (A : Around) (outer : List Env) (s : Shared) (H : Hp) (E : XK) : Cx where
  prog := P
  w := w
  K := K
  mg := mg
  base := base
  A := A.deeper (clsE qual scope s.heap.objs.size f cd cc)
  N := N
  s_0 := s
  H_0 := H
  env := clsE qual scope s.heap.objs.size f cd cc
  outer := outer
  stack := clsE qual scope s.heap.objs.size f cd cc :: outer
  ex := []
  calm := true
  fn := fun y => decide (y ≠ "__class__")
  pn := []
  xe := fun e s' => wpAny (model P w) (A.deeper (clsE qual scope s.heap.objs.size f cd cc)) (leaving (clsE qual scope s.heap.objs.size f cd cc) e) (fun _ s'' => L2.CX P w outer H s E e s'') (fun e' s'' => L2.CX P w outer H s E e' s'') s'
theorem clo_one {cc : Addr} {y : Str} {c : Addr} (e : ([(("__class__" : Str), cc)] : List (Str × Addr)).lookup y = some c) : y = "__class__" ∧ c = cc := by
  rw [List.lookup_cons] at e
  by_cases z : y = "__class__"
  · subst z
    simp at e
    exact ⟨rfl, e.symm⟩
  · rw [show (y == ("__class__" : Str)) = false by simpa using z] at e
    cases e
theorem cls_start {P : Program} {w : World} {K : PySem.W.Frag} {mg : Str → Option Value} {base : Heap} {N ps : List Str} {qual : Str} {scope : Scope} {f cc D : Addr} {cd : Value} {A : Around} {outer : List Env} {s : Shared} {H : Hp} {E : XK} {us : List Value} {vs : List V} {h₁ : Heap} {tk : Nat} {cl : Value} {cld : Option Addr} {csl : Array (Option Value)}
    (S : ClsScope N ps scope) (hd : A.handled = none) (e0 : Env0 P w K mg base A outer s H) (hcell : K.lookup cc = some ⟨cl, cld, .cell (some (.ref D)), csl⟩) (hl : vs.length = ps.length) (r : Vals vs us)
    (hns : h₁.Ns s.heap.objs.size fun y => (ps.zip us).reverse.lookup y) (kp : ∀ b o, s.heap.get? b = some o → h₁.get? b = some o) :
    Inv (clsX P w K mg base N qual scope f cd cc A outer s H E) [] (L2.start N vs) H { s with heap := h₁, toks := tk } := by
  have noA : ∀ b : Addr, b ∉ (clsX P w K mg base N qual scope f cd cc A outer s H E).ex := fun b z => absurd (show b ∈ ([] : List Addr) from z) (by simp)
  have hbase := e0.mod.kin _ _ hcell
  have hpl : ps.length ≤ N.length := by
    have q := congrArg List.length S.pre
    rw [List.length_take] at q
    omega
  refine ⟨⟨e0.mod, S.kind, rfl, rfl, Nat.le_refl _, fun y z c e1 e2 => ?_, fun y hy => ?_, fun y c z e => ?_, fun _ => hd, Around.frames_deeper e0.frames, .inr ⟨rfl, rfl⟩, fun b z => absurd z (noA b), e0.bs, e0.bsz, fun b _ _ => noA b, fun b z => absurd z (noA b), e0.funs, e0.frf⟩,
    rfl, e0.bare, Un.kept kp, ⟨_, hns, fun i y v e1 e2 e3 => ?_⟩, fun y c e => ?_, e0.hok.fresh (Nat.le_refl _), fun y c e => ?_, fun q hq => absurd (show q ∈ ([] : List (Addr × Obj)) from hq) (by simp), e0.hok.kept kp, ?_⟩
  · rw [(clo_one e1).1, (clo_one e2).1]
  · have hy : scope.names.lookup y = some .cell ∨ scope.names.lookup y = some .free := hy
    rcases hy with hy | hy
    · exact absurd rfl (S.nocell _ (PySem.mem_of_lookup hy))
    · have e : y = "__class__" := S.free _ (PySem.mem_of_lookup hy) rfl
      exact ⟨cc, by rw [e]; show ([(("__class__" : Str), cc)] : List (Str × Addr)).lookup ("__class__" : Str) = some cc; simp⟩
  · exact absurd (clo_one e).1 (of_decide_eq_true z)
  · have e1 : N[i]? = some y := e1
    unfold L2.start at e2
    by_cases h1 : i < vs.length
    · have hq : ps[i]? = some y := by
        rw [← S.pre, List.getElem?_take_of_lt (by omega)]
        exact e1
      rw [List.getElem?_append_left (by rw [List.length_map]; exact h1), List.getElem?_map] at e2
      have ha : vs[i]? = some v := by
        cases e : vs[i]? with
        | none => rw [e] at e2; cases e2
        | some a => rw [e] at e2; cases e2; rfl
      obtain ⟨u, hu, rv⟩ := r.get ha
      have ndP : ps.Nodup := by
        rw [← S.pre]
        exact S.nd.sublist (List.take_sublist _ _)
      exact ⟨u, rv, .inl ⟨S.par y (List.mem_of_getElem? hq), NdefX.zip_look ndP hq hu⟩⟩
    · rw [List.getElem?_append_right (by rw [List.length_map]; omega), List.getElem?_replicate] at e2
      split at e2 <;> cases e2
  · have e : ([(("__class__" : Str), cc)] : List (Str × Addr)).lookup y = some c := e
    rw [(clo_one e).2]
    exact ⟨_, _, kp _ _ (e0.bs _ _ hbase).1, rfl⟩
  · have e : ([(("__class__" : Str), cc)] : List (Str × Addr)).lookup y = some c := e
    rw [(clo_one e).2]
    exact (e0.bs _ _ hbase).2
  · unfold L2.start
    show _ = N.length
    rw [List.length_append, List.length_map, List.length_replicate]
    omega
structure PWb (X : Cx) (body rest : List Stmt) (t : TS) : Prop where
  run : ∀ (pins : List (Addr × Obj)) (s : Shared) (σ : L2.St) (H : Hp) (D : Ends), Inv X pins σ H s → t D σ H → _root_.PySem.wpAt (model X.prog X.w) X.A (.func body X.env) (execs rest X.env) (SP X pins D) X.xe s
structure PWs (X : Cx) (body : List Stmt) (st : Stmt) (t : TS) : Prop where
  run : ∀ (pins : List (Addr × Obj)) (s : Shared) (σ : L2.St) (H : Hp) (D : Ends), Inv X pins σ H s → t D σ H → _root_.PySem.wpAt (model X.prog X.w) X.A (.func body X.env) (exec st X.env) (SP X pins D) X.xe s
section
variable {X : Cx} {body rest : List Stmt} {st : Stmt} {t u : TS}
theorem pwb_of (h : PSs X rest t) : PWb X body rest t := ⟨fun pins s σ H D I q => wpAt_of_wpAny (h.run pins s σ H D I q)⟩
theorem pws_of (h : PS X st t) : PWs X body st t := ⟨fun pins s σ H D I q => wpAt_of_wpAny (h.run pins s σ H D I q)⟩
theorem pwb_cons (h1 : PWs X body st t) (h2 : PWb X body rest u) : PWb X body (st :: rest) (tSeq t u) := by
  refine ⟨fun pins s σ H D I h => ks_wpAt_execs_cons (ks_wpAt_mono (h1.run pins s σ H { D with nx := u D } I h) (fun f s1 q => ?_) fun _ _ z => z)⟩
  cases f with
  | next =>
    obtain ⟨σ', H', I', q⟩ := q
    exact h2.run pins s1 σ' H' D I' q
  | ret v => exact q
  | brk => exact q
  | cont => exact q
theorem PWb.imp (h : PWb X body rest t) (i : ∀ D σ H, u D σ H → t D σ H) : PWb X body rest u := ⟨fun pins s σ H D I q => h.run pins s σ H D I (i D σ H q)⟩
theorem PWs.imp (h : PWs X body st t) (i : ∀ D σ H, u D σ H → t D σ H) : PWs X body st u := ⟨fun pins s σ H D I q => h.run pins s σ H D I (i D σ H q)⟩
end
abbrev JWb (X : Cx) (W : WX) (body rest : List Stmt) (m : MS) : Prop := PWb X body rest (rdS X W m)
abbrev JWs (X : Cx) (W : WX) (body : List Stmt) (st : Stmt) (m : MS) : Prop := PWs X body st (rdS X W m)
section
variable {X : Cx} {W : WX} {body rest : List Stmt} {st : Stmt} {m n : MS}
theorem jwb_of (h : JSs X W rest m) : JWb X W body rest m := pwb_of h
theorem jws_of (h : JS X W st m) : JWs X W body st m := pws_of h
theorem jwb_cons (h : JWs X W body st m) (t : JWb X W body rest n) : JWb X W body (st :: rest) (mSeq m n) :=
  (pwb_cons h t).imp fun D σ H ⟨Z, F, ρ, μ, δ, S, q⟩ => ⟨Z, F, ρ, μ, δ, S, FinS.seq q⟩
end
theorem fnG_c {P : Program} {w : World} {K : PySem.W.Frag} {mg : Str → Option Value} {base : Heap} {k n : Nat} {f cda cc D : Addr} {x qual : Str} {st : Stmt} {fd : FuncData} {N ps : List Str} {m : MS} {dV : Value} (F : FdC K x qual st f fd dV cda cc D) (S : ClsScope N ps (defScope st)) (hn : ps.length = n)
    (hbody : ∀ (X : Cx) (W : WX), X.prog = P → X.w = w → X.K = K → X.mg = mg → X.base = base → Cd X W k N (defScope st) → CsK X f cda cc D st → JWb X W (defBody st) (defBody st) m) : FnG P w K mg base (L2.CX P w) (k + 1) f fd ps (spM K mg (mFn N.length m) n) := by
  subst hn
  obtain ⟨oc, od, kV, doc, pm, an, ct, osl, rfl, lk⟩ := F.ex
  obtain ⟨cl, cld, csl, hcell⟩ := F.cell
  refine ⟨fun vs H Q E h => h.1, fun A outer s H args us vs Q E hr e0 hb r hsp => ?_⟩
  obtain ⟨hl, Z, F0, ρ, μ, ds, S0, rd, q⟩ := hsp
  have inK : K.In s.heap := e0.mod.kin.keeps fun b o e => (e0.bs b o e).1
  have lim : s.heap.NoLimit := e0.mod.nolimit.keeps fun b o e => (e0.bs b o e).1
  refine PySem.ks_codeAny_call_defAt hr.r.depth (inK _ _ lk) rfl lim (PySem.W.codeRec_of inK F.cd) rfl hb S.nocell (fun y hy => S.par y.1 (List.of_mem_zip hy).1) (fun h₁ hns kp => ?_) S.co S.gen S.kind
  have I : Inv (clsX P w K mg base N qual (defScope st) f (.ref cda) cc A outer s H E) [] (L2.start N vs) H { s with heap := h₁, toks := s.toks + (ps.zip us).length } := cls_start S hr.r.hd e0 hcell hl r hns kp
  have C : Cd (clsX P w K mg base N qual (defScope st) f (.ref cda) cc A outer s H E) (fun c d _ H => E c d H) k N (defScope st) := by
    refine ⟨⟨rfl, hr.deeper _, takes_of rfl rfl rfl rfl, rfl, rfl, S.nd⟩, passes_of rfl, fun y hy => decide_eq_true fun z => ?_⟩
    subst z
    have hy : (defScope st).names.lookup ("__class__" : Str) = some .local ∨ (defScope st).names.lookup ("__class__" : Str) = some .cell := hy
    rw [S.lc] at hy
    rcases hy with hy | hy <;> cases hy
  have J := hbody _ _ rfl rfl rfl rfl rfl C ⟨_, x, qual, dV, F, rfl⟩
  rw [mFn_eq] at q
  refine ks_wpAt_mono (J.run [] _ (L2.start N vs) H { nx := fun _ H' => Q .non H', rt := Q } I ?_) (fun fl s' hs => ?_) fun e s' hs => hs
  · refine ⟨Z, F0, ρ, μ, _, S0.begin rd, ?_⟩
    generalize m (startD N.length ds) μ = o at q
    cases o with
    | nx δ μ' => exact fun σ' H' F' ρ' l lr S' => q .non H' F' ρ' l lr S'.drop .non
    | rt s μ' => exact fun v H' F' ρ' l lr S' rv => q v H' F' ρ' l lr S' rv
    | bk δ μ' => exact q.elim
    | ct δ μ' => exact q.elim
    | exc x δ μ' => exact fun c d σ' H' F' ρ' l lr S' er => q c d H' F' ρ' l lr S'.drop er
    | bad => exact q
  · cases fl with
    | ret u =>
      obtain ⟨v, σ', H', J, rv, q⟩ := hs
      exact ⟨v, H', J.os, J.bare, J.base, J.hok, rv, q⟩
    | next =>
      obtain ⟨σ', H', J, q⟩ := hs
      exact ⟨.non, H', J.os, J.bare, J.base, J.hok, rfl, q⟩
    | brk =>
      obtain ⟨_, _, _, z⟩ := hs
      exact z.elim
    | cont =>
      obtain ⟨_, _, _, z⟩ := hs
      exact z.elim
end FL
namespace FL
open PySem PySem.Spec PyProof.Rows L2
def mSuper (c : String) (mi : MF) (ms : List ME) : MS := fun (δ : FL.Loc) (μ : Mem) => match δ[0]? with
  | some (some (FL.Slot.fr d)) => (match insOf μ d with
    | some (c', _, _) => if c' = c then (evA ms δ μ).thn fun ds δ1 μ1 => (match mi (d :: ds) μ1 with
      | .ok _ μ2 => .nx δ1 μ2
      | .exc x μ2 => .exc x δ1 μ2
      | .bad => .bad) else .bad
    | none => .bad)
  | _ => .bad
section
variable {X : Cx} {W : WX} {k j N : Nat} {nl : List Str} {sc : Scope} {e : Expr} {es : List Expr} {q0 q1 q2 q4 q5 : Pos} {f cda cc D : Addr} {p0 : Str} {c m : String} {mi : MF} {ms : List ME} {body : List Stmt} {pl : Sem Bool}
theorem jws_super (C : Cd X W k nl sc) (T : SupT X f cda cc D p0) (G : SupG X j c m D mi N) (hjk : j ≤ k) (ha : JA X W (e :: es) ms) (hN : ms.length + 1 = N) (hm : (Str.ofString m == ("__class__" : Str)) = false)
    (ev : eval (.Call (.Attribute (.Call (.Name "super" q0) [] [] q1) (Str.ofString m) q2) (e :: es) [] q4) X.env = (do
      let ov ← attributeBase (.Call (.Name "super" q0) [] [] q1) (Str.ofString m) X.env (eval (.Call (.Name "super" q0) [] [] q1) X.env)
      standAt q2.atName
      let (f, first) ← holding [ov] (getMethod ov (Str.ofString m) pl)
      callWith q4 f first (backTo q4 (starEach (e :: es) X.env)) []))
    (sw : swapsWith (.Call (.Attribute (.Call (.Name "super" q0) [] [] q1) (Str.ofString m) q2) (e :: es) [] q4) none q5.line X.env = pure false)
    (he : starEach (e :: es) X.env = (false, eval e X.env) :: starEach es X.env) (hpl : (backTo q4 (starEach es X.env)).any (·.1) = false) :
    JWs X W body (.Expr (.Call (.Attribute (.Call (.Name "super" q0) [] [] q1) (Str.ofString m) q2) (e :: es) [] q4) q5) (mSuper c mi ms) := by
  obtain ⟨of, fd0, ar, lf, lfd, har, har2⟩ := T.lk
  obtain ⟨ccl, cdd, cvs, ccs, file, tf, hcode, hvs, hfile⟩ := T.code
  obtain ⟨cl, cld, csl, hcell⟩ := T.cell
  obtain ⟨cdD, hD⟩ := T.clsD
  refine ⟨fun pins s σ H E I ⟨Z, F, ρ, μ, δ, S, q0⟩ => ?_⟩
  unfold mSuper at q0
  obtain ⟨d, e0, q⟩ : ∃ d, δ[0]? = some (some (FL.Slot.fr d)) ∧ FinS X W Z F ρ E (match insOf μ d with
    | some (c', _, _) => if c' = c then (evA ms δ μ).thn fun ds δ1 μ1 => (match mi (d :: ds) μ1 with
      | .ok _ μ2 => .nx δ1 μ2
      | .exc x μ2 => .exc x δ1 μ2
      | .bad => .bad) else .bad
    | none => .bad) := by
    cases e0 : δ[0]? with
    | none => rw [e0] at q0; exact q0.elim
    | some o =>
      cases o with
      | none => rw [e0] at q0; exact q0.elim
      | some z =>
        cases z with
        | own _ => rw [e0] at q0; exact q0.elim
        | fr d => rw [e0] at q0; exact ⟨d, rfl, q0⟩
  cases ei : insOf μ d with
  | none => simp only [ei] at q; exact q.elim
  | some t =>
  obtain ⟨c', ks, ds0⟩ := t
  simp only [ei] at q
  by_cases hc' : c' = c
  case neg => rw [if_neg hc'] at q; exact q.elim
  rw [if_pos hc'] at q
  subst hc'
  obtain ⟨v0, es0, rep0⟩ := S.slot 0 _ e0
  have rep0 : Rep X.K X.mg F ρ v0 d := rep0
  obtain ⟨a, Ca, dx, vs, rfl, hmC, hHa, hks, rl⟩ := ins_at S rep0 ei
  obtain ⟨g, og, fdg, ps, ds, dvs, cdC, hcC, hal, lg, ogc, fing, hsub, Fg, hb⟩ := G Ca hmC
  obtain ⟨mA, O, _⟩ := ins_get I.hok hHa
  obtain ⟨od, J, _⟩ := O.look
  obtain ⟨mloc, hns, hlook⟩ := I.loc
  obtain ⟨u0, ru0, look0⟩ := hlook 0 p0 _ T.n0 es0 (.inl T.l0)
  cases ru0
  have gself : mloc p0 = some (.ref a) := by
    rcases look0 with ⟨_, z⟩ | ⟨z, _⟩
    · exact z
    · have z : X.env.scope.names.lookup p0 = some .cell ∨ X.env.scope.names.lookup p0 = some .free := z
      rw [T.l0] at z
      rcases z with z | z <;> cases z
  have kX := I.kIn
  have oD : ∃ o : Obj, X.K.lookup D = some o ∧ o.data = .cls cdD := by
    unfold PySem.W.clsIn at hD
    split at hD
    · rename_i ho
      cases hD
      exact ⟨_, ho, rfl⟩
    · cases hD
  have oC : ∃ o : Obj, X.K.lookup Ca = some o ∧ o.data = .cls cdC := by
    unfold PySem.W.clsIn at hcC
    split at hcC
    · rename_i ho
      cases hcC
      exact ⟨_, ho, rfl⟩
    · cases hcC
  obtain ⟨oD, hoD, hdD⟩ := oD
  obtain ⟨oC, hoC, hdC⟩ := oC
  have lcell : s.heap.IsCell cc (some (.ref D)) := ⟨_, kX _ _ hcell, rfl⟩
  obtain ⟨mb, hmb, hbb⟩ := I.mod.blt
  have kd := I.ok.kind
  refine ks_wpAt_Expr_any (ks_wpAt_MethodCall (pl := pl) ?_ ev) (by unfold interactive; simp [kd]) sw
  refine ks_wpAt_super_base T.ls T.lc hm T.func (kX _ _ lf) lfd har T.ecode (kX _ _ hcode) rfl hvs hfile T.top ?_
  refine PySem.W.ks_loadName_global kd T.ls (PySem.Calls.loadGlobal_builtin (mg := X.mg) (by rw [I.ok.glob]; exact I.mod.glob.keeps I.bk) T.sup (by rw [I.ok.blt]; exact hmb.keeps I.bk) ((hbb "super" (by decide)).trans PyProof.Rows.Boot.«super») ⟨rfl, ?_⟩)
  refine wpAny_loadName_free kd T.lc T.cells lcell ?_
  refine wpAny_loadName_local (m := mloc) kd (by rw [har2]; exact T.l0) hns (by rw [har2]; exact gself) ?_
  obtain ⟨hp, gg, dd, tt, os⟩ := s
  refine PySem.ks_wpAny_isType_cls (kX _ _ hoD) hdD ⟨rfl, ?_⟩
  refine PySem.ks_wpAny_call_super (kX _ _ hoD) hdD J.at_ J.cls (fun c z => by cases z) (PySem.W.looks_mroIn kX hsub) fun h2 hso k2 => ?_
  have KX2 : X.K.In h2 := kX.keeps k2
  have I2 : Inv X pins σ H ⟨h2, gg, dd, tt, os⟩ := I.kept (t' := tt) k2
  have hne : a ≠ Ca := fun z => by
    have y := kX _ _ hoC
    have y2 := J.at_
    rw [z] at y2
    have y3 := y2.symm.trans y
    have y4 := congrArg Obj.data (Option.some.inj y3)
    rw [hdC] at y4
    cases y4
  refine PySem.ks_wpAny_getMethod_super (x := a) (C := Ca) (D := D) (f := g) (of := og) hso (PySem.W.looks_opaque KX2 T.any) (l₀ := cdC.mro) (fun A Q E s k q => wpAny_bind ((PySem.W.looks_clsIn KX2 hcC) A _ E s k (wpAny_pure q))) rfl KX2 hal (KX2 _ _ lg) ogc hne hm ?_
  have I3 : Inv X ((h2.objs.size, PySem.W.methodObj (.ref g) (.ref a)) :: pins) σ H ⟨h2.push (PySem.W.methodObj (.ref g) (.ref a)), gg, dd, tt + 1, os⟩ :=
    ClX.pin_new (t' := tt + 1) I2 (fun _ _ z => Heap.get?_push_of_some _ z) (Nat.le_refl _) (Heap.get?_push_size h2 rfl) (fun v z => nomatch z)
  have hbase : X.base.get? h2.objs.size = none := ClX.base_none I2 (Nat.le_refl _)
  refine ClX.callwith_cm (X := X) (C := a) (g := g) I3 hbase fing (thn (ha.run q4 _ _ σ H (fun ws H2 => spM X.K X.mg mi N (.ref a :: ws) H2 (fun _ H3 => E.nx σ H3) (WE W σ)) I3 ?_) fun us s3 ⟨ws, H2, I4, rv, q2⟩ => ⟨⟨ClX.pin_at I4, I4.kIn⟩, ?_⟩) he hpl
  · refine ⟨Z, F, ρ, μ, δ, S, ?_⟩
    cases ea : evA ms δ μ with
    | bad => rw [ea] at q; exact q
    | exc x δ1 μ1 =>
      rw [ea] at q
      exact fun c d H' F' ρ' l lr S' er => q c d σ H' F' ρ' l lr S' er
    | ok us δ1 μ1 =>
      rw [ea] at q
      intro H1 F1 ρ1 l1 lr1 S1 ws hw
      have rep1 := rep0.up l1.to lr1.to
      have hl := hw.len
      have hl2 := evA_len ea
      refine ⟨by rw [List.length_cons, hl, ← hl2]; exact hN, zone Z H1 δ1 σ, F1, ρ1, μ1, d :: us, S1.enter, .cons rep1 hw, ?_⟩
      have q1 : FinS X W Z F ρ E (match mi (d :: us) μ1 with | .ok _ μ2 => .nx δ1 μ2 | .exc x μ2 => .exc x δ1 μ2 | .bad => .bad) := q
      have q2 := q1.mono l1 lr1
      generalize mi (d :: us) μ1 = o at q2
      cases o with
      | ok s μ3 => exact fun v H' F' ρ' l lr S' rv => q2 σ H' F' ρ' (S1.leLeave l) (S1.leRLeave lr) (S1.leave S' l lr)
      | exc x μ3 => exact fun c d H' F' ρ' l lr S' er => q2 c d σ H' F' ρ' (S1.leLeave l) (S1.leRLeave lr) (S1.leave S' l lr) er
      | bad => exact q2
  · have rv2 : Vals (V.ref a :: ws) (Value.ref a :: us) := .cons rfl rv
    have hr : RmG j X.A := C.rm.mono hjk
    have len2 : (Value.ref a :: us).length = ps.length := by rw [← rv2.length]; exact Fg.len _ _ _ _ q2
    have bb := hb s3 (Value.ref a :: us) I4.kIn (by rw [List.append_nil]; exact len2)
    rw [List.append_nil] at bb
    refine wpAny_call (PySem.W.method_call (ClX.pin_at I4) (codeAny_mono (Fg.run X.A X.stack s3 H2 ⟨.ref a :: us, []⟩ _ _ (fun _ H3 => E.nx σ H3) (WE W σ) hr I4.env0 bb rv2 q2) fun res t ht => ?_))
    match res, ht with
    | .error er, ht => exact passAt C.tk σ _ H2 s3 er t I4 ht
    | .ok (.ret u), ht =>
      obtain ⟨v, H', I5, rv5, q5⟩ := I4.after ht
      exact ⟨σ, H', ClX.unpin I5, q5⟩
end
end FL
namespace FL
open PySem PySem.Spec PyProof.Rows L2
theorem room_caller : RmG 200 callerA := ⟨⟨rfl, by decide, by decide⟩, rfl⟩
end FL
namespace FL
open PySem PySem.Spec PyProof.Rows L2 LamX
def Hid (h : Heap) (H : Hp) : Prop := ∀ p, H p ≠ none → (∃ o its n, h.get? p = some o ∧ o.data = .seq its n) ∨ h.get? p = some oTab
theorem hid_has {h : Heap} {H : Hp} (x : Hid h H) {p : Addr} {o : Obj} (e : h.get? p = some o) (n1 : ∀ its n, o.data ≠ .seq its n) (n2 : o.data ≠ .fields #[]) : (hidT h H).get? p = some o ∧ H p = none := by
  have n : H p = none := Classical.byContradiction fun z => by
    rcases x p z with ⟨o', its, n, e', d⟩ | e'
    · rw [e] at e'
      cases e'
      exact n1 _ _ d
    · rw [e] at e'
      cases e'
      exact n2 rfl
  exact ⟨hidT_get e n, n⟩
theorem hid_ns {h : Heap} {H : Hp} (x : Hid h H) {p : Addr} {f : Str → Option Value} : h.Ns p f → (hidT h H).Ns p f := fun ⟨o, es, ep, e, d, r⟩ =>
  ⟨o, es, ep, (hid_has x e (fun its n z => by rw [d] at z; cases z) (fun z => by rw [d] at z; cases z)).1, d, r⟩
theorem ns_not {h : Heap} {p : Addr} {f : Str → Option Value} {o : Obj} (x : h.Ns p f) (e : h.get? p = some o) (n : ∀ es ep, o.data ≠ .dict es ep) : False := by
  obtain ⟨o', es, ep, e', d, _⟩ := x
  rw [e] at e'
  cases e'
  exact n _ _ d
abbrev Blt (h : Heap) (mg : Str → Option Value) : Prop := ∃ (bm : Addr) (ob : Obj), mg "__builtins__" = some (.ref bm) ∧ bm ≠ builtinsNs ∧ h.get? bm = some ob ∧ ob.cls = .type "module" ∧ ob.dict = some builtinsNs ∧ ob.data = .plain
theorem hid_tab {h : Heap} {H : Hp} (x : Hid h H) {mg : Str → Option Value} {c P : Addr} (G : h.Ns mainGlobals mg) (B : Blt h mg) (e : h.get? P = some oTab) (C : PySem.W.CodeHd h c P) : TabB (hidT h H) mg c P := by
  constructor
  · obtain ⟨o, its, f1, f2, f3, f4, f5, f6, f7, g1, g2, g3, gs⟩ := C
    refine ⟨o, its, f1, f2, f3, f4, f5, f6, f7, (hid_has x g1 (fun _ _ z => ?_) fun z => ?_).1, g2, g3, gs⟩
    · rw [g3] at z
      cases z
    · rw [g3] at z
      cases z
      have w := gs.1
      simp at w
  · obtain ⟨bm, ob, a1, a2, a3, a4, a5, a6⟩ := B
    refine ⟨bm, ob, a1, a2, fun z => ?_, fun z => ?_, (hid_has x a3 (fun _ _ z => ?_) fun z => ?_).1, a4, a5, a6⟩
    · subst z
      exact ns_not G a3 fun _ _ z => by rw [a6] at z; cases z
    · subst z
      rw [e] at a3
      cases a3
      cases a6
    · rw [a6] at z
      cases z
    · rw [a6] at z
      cases z
  · intro z
    rw [← z] at e
    exact ns_not G e fun _ _ z => by cases z
def hpT (a : Addr) (u : Option HO) (T : List Addr) : Hp := fun p => if p ∈ T then some (.tbl #[]) else if p = a then u else none
def memT (cs : List (Addr × Addr × Str)) : Mem := cs.map fun p => .tab p.2.1 p.2.2
theorem memT_get {cs : List (Addr × Addr × Str)} {j : Nat} {o : Own} (e : (memT cs)[j]? = some o) : ∃ p, cs[j]? = some p ∧ o = .tab p.2.1 p.2.2 := by
  unfold memT at e
  rw [List.getElem?_map] at e
  obtain ⟨p, e1, e2⟩ := Option.map_eq_some_iff.mp e
  exact ⟨p, e1, e2.symm⟩
theorem lawGT {P : Program} {w : World} {K : PySem.W.Frag} {mg mb : Str → Option Value} {k : Nat} {f a : Addr} {fd : FuncData} {x : Str} {m : MF} {t : Shared} {us : List Value} {ns : List Int} {cs : List (Addr × Addr × Str)}
    (hK : K.In t.heap) (hg : t.heap.Ns mainGlobals mg) (hbn : t.heap.Ns builtinsNs mb) (hbb : ∀ x : Str, x ≠ "__name__" → mb x = bootBuiltins x) (hlim : t.heap.NoLimit) (hgen : t.gens = #[]) (hB : Blt t.heap mg)
    (hT : ∀ p ∈ cs, t.heap.get? p.2.1 = some oTab) (nT : ∀ p ∈ cs, K.lookup p.2.1 = none) (hC : ∀ p ∈ cs, PySem.W.CodeHd t.heap p.1 p.2.1) (dT : (cs.map fun p => p.2.1).Nodup)
    (ha : t.heap.get? a = some { cls := .type "list", data := .seq us.toArray }) (hi : IntsAre us ns) (hl : ns.length ≤ sizeLine) (hr : RmG k callerA)
    (F : ∀ base : Heap, K.In base → base.Ns mainGlobals mg → (∀ p ∈ cs, TabB base mg p.1 p.2.1) → FnG P w K mg base (L2.CX P w) k f fd [x] (spM K mg m 1)) (hbind : ∀ (s : Shared) (u : Value), BindsTo s fd ⟨[u], []⟩ [(x, u)])
    (hm : ∃ μ', m [.ro (ns.map .int)] (memT cs) = .ok (.fr (.bl true)) μ') :
    codeAny (model P w) callerA (.call (.ref f) ⟨[.ref a], []⟩) (fun r s' => r = .ok (.ret (.bool true)) ∧ OldK t.heap s'.heap ∧ s'.os = t.os ∧ AllBare s'.gens) t := by
  have vv := vals_ints hi
  have lv := hi.length
  obtain ⟨μ', hm⟩ := hm
  have hTm : ∀ p ∈ cs.map (fun p => p.2.1), t.heap.get? p = some oTab ∧ K.lookup p = none := fun p hp => by
    obtain ⟨y, hy, rfl⟩ := List.mem_map.mp hp
    exact ⟨hT y hy, nT y hy⟩
  have naT : a ∉ cs.map fun p => p.2.1 := fun z => by
    have w := (hTm a z).1
    rw [ha] at w
    have w' := congrArg Obj.data (Option.some.inj w)
    cases w'
  have main : ∀ u : Option HO, (u = none ∨ ∃ o, u = some (.frz o (.lst (ns.map V.int)))) → (u ≠ none → K.lookup a = none) → SqL K (hpT a u []) a (ns.map V.int) → (∀ o, u = some o → ∀ H, ObjOk P w H t.heap a o) →
      codeAny (model P w) callerA (.call (.ref f) ⟨[.ref a], []⟩) (fun r s' => r = .ok (.ret (.bool true)) ∧ OldK t.heap s'.heap ∧ s'.os = t.os ∧ AllBare s'.gens) t := by
    intro u hu free sq oka
    have h0 : ∀ p, hpT a u (cs.map fun p => p.2.1) p = none ∨ (p ∈ (cs.map fun p => p.2.1) ∧ hpT a u (cs.map fun p => p.2.1) p = some (.tbl #[])) ∨ (p = a ∧ p ∉ (cs.map fun p => p.2.1) ∧ hpT a u (cs.map fun p => p.2.1) p = u) := fun p => by
      unfold hpT
      by_cases z1 : p ∈ cs.map fun p => p.2.1
      · exact .inr (.inl ⟨z1, if_pos z1⟩)
      · by_cases z2 : p = a
        · exact .inr (.inr ⟨z2, z1, by rw [if_neg z1, if_pos z2]⟩)
        · exact .inl (by rw [if_neg z1, if_neg z2])
    generalize eH : hpT a u (cs.map fun p => p.2.1) = H at h0
    have hid : Hid t.heap H := fun p z => by
      rcases h0 p with n | ⟨n, _⟩ | ⟨rfl, _⟩
      · exact absurd n z
      · exact .inr (hTm p n).1
      · exact .inl ⟨_, _, _, ha, rfl⟩
    have kB : K.In (hidT t.heap H) := fun p o e => hidT_get (hK p o e) (by
      rcases h0 p with n | ⟨n, _⟩ | ⟨rfl, _, n⟩
      · exact n
      · rw [(hTm p n).2] at e
        cases e
      · rw [n]
        exact Classical.byContradiction fun z => by
          rw [free z] at e
          cases e)
    have HaT : ∀ p ∈ cs.map (fun p => p.2.1), H p = some (.tbl #[]) := fun p hp => by
      rw [← eH]
      exact if_pos hp
    have Ha : H a = u := by
      rw [← eH]
      unfold hpT
      rw [if_neg naT, if_pos rfl]
    have mB : Mod K mg (hidT t.heap H) := ⟨kB, hid_ns hid hg, ⟨mb, hid_ns hid hbn, hbb⟩, let ⟨mc, q1, q2⟩ := hlim; ⟨mc, hid_ns hid q1, q2⟩⟩
    have ok : HOk P w H t.heap := fun p o e => by
      rcases h0 p with n | ⟨n, e2⟩ | ⟨rfl, _, n⟩
      · rw [n] at e
        cases e
      · rw [e] at e2
        cases e2
        exact (hTm p n).1
      · rw [n] at e
        exact oka o e H
    have env : Env0 P w K mg (hidT t.heap H) callerA [] t H := ⟨rfl, mB, fun p o e => of_hidT e, Nat.le_of_eq (hidT_size _ _), trivial, fun p hp => absurd (show p ∈ ([] : List Addr) from hp) (by simp), ok, .of_eq hgen⟩
    have fa : hpT a u [] a = u := by
      unfold hpT
      rw [if_neg (by simp), if_pos rfl]
    have fn : ∀ p, p ≠ a → hpT a u [] p = none := fun p z => by
      unfold hpT
      rw [if_neg (by simp), if_neg z]
    have S0 : Sim K mg (fun _ => none) (hpT a u []) (cs.map fun p => p.2.1) (memT cs) [] [] H := by
      refine ⟨fun p o h => ?_, fun p o h => (nomatch h), rfl, fun i s e => (by simp at e), fun i j p s t e => (by simp at e), fun k c e => ?_, by unfold memT; simp, dT⟩
      · by_cases z : p = a
        · subst z
          rw [fa] at h
          exact .inl (Ha.trans h)
        · rw [fn p z] at h
          cases h
      · obtain ⟨p, e1, rfl⟩ := memT_get e
        have hp : p.2.1 ∈ cs.map fun p => p.2.1 := List.mem_map.mpr ⟨p, List.mem_of_getElem? e1, rfl⟩
        refine ⟨p.2.1, by rw [List.getElem?_map, e1]; rfl, fn _ fun z => naT (by rw [← z]; exact hp), rfl, rfl, #[], HaT _ hp, True.intro, fun pos cv hc => ?_⟩
        have z : codeAmong pos [] = some cv := hc
        simp [codeAmong] at z
    have hsp : spM K mg m 1 [.ref a] H (fun v _ => v = .bl true) (fun _ _ _ => False) := by
      refine ⟨rfl, _, hpT a u [], _, memT cs, [.ro (ns.map .int)], S0, .cons (.ro sq (RepL.ofInts ns)) .nil, ?_⟩
      rw [hm]
      intro v H' F' ρ' _ _ _ rv
      cases rv
      rfl
    refine codeAny_mono ((F _ kB (hid_ns hid hg) (fun p hp => hid_tab hid hg hB (hT p hp) (hC p hp))).run callerA [] t H ⟨[.ref a], []⟩ [.ref a] [.ref a] _ _ hr env (hbind t (.ref a)) (.cons rfl .nil) hsp) fun res s' h => ?_
    cases res with
    | error e =>
      obtain ⟨_, _, _, _, _, _, _, _, _, _, _, _, z⟩ := h
      exact z.elim
    | ok fl =>
      cases fl with
      | next => exact False.elim h
      | brk => exact False.elim h
      | cont => exact False.elim h
      | ret u' =>
        obtain ⟨v, H', os, bare, un, ok', rv, q⟩ := h
        have q' : v = .bl true := q
        subst q'
        cases rv
        have each : ∀ p o, t.heap.get? p = some o → (p ∉ (cs.map fun p => p.2.1) ∧ s'.heap.get? p = some o) ∨ (p ∈ (cs.map fun p => p.2.1) ∧ o = oTab ∧ ∃ more : Array Value, s'.heap.get? p = some { cls := .none, data := .fields more }) := fun p o e => by
          by_cases hp : p ∈ cs.map fun p => p.2.1
          · obtain ⟨more, z⟩ := un.tbls p #[] (HaT p hp)
            rw [(hTm p hp).1] at e
            cases e
            exact .inr ⟨hp, rfl, _, ok' p _ z⟩
          · refine .inl ⟨hp, ?_⟩
            cases q : H p with
            | none => exact un.keep p o e q (by intro z; exact absurd (show p ∈ ([] : List Addr) from z) (by simp)) (by simp)
            | some y =>
              rcases h0 p with n | ⟨n, _⟩ | ⟨rfl, _, n⟩
              · rw [n] at q
                cases q
              · exact absurd n hp
              · rcases hu with z | ⟨ob, z⟩
                · rw [n, z] at q
                  cases q
                · obtain ⟨e1, _⟩ := ok p _ (n.trans z)
                  obtain ⟨e2, _⟩ := ok' p _ (un.frzs p ob _ (n.trans z))
                  rw [e] at e1; cases e1
                  exact e2
        refine ⟨rfl, ⟨fun p o e => ?_, fun p o e => ?_⟩, os, bare⟩
        · rcases each p o e with ⟨_, z⟩ | ⟨hp, rfl, more, z⟩
          · exact .inl z
          · obtain ⟨y, hy, rfl⟩ := List.mem_map.mp hp
            exact .inr (.inl ⟨((hC y hy).tab (hT y hy)).isCodeTable, rfl, #[], more, rfl, by rw [Array.empty_append]; exact z⟩)
        · rcases each p o e with ⟨_, z⟩ | ⟨_, _, more, z⟩
          · exact ⟨o, z⟩
          · exact ⟨_, z⟩
  cases hk : K.lookup a with
  | some o =>
    have e := hK a o hk
    rw [ha] at e
    cases e
    exact main none (.inl rfl) (fun z => absurd rfl z) (.inr ⟨_, us.toArray, _, hk, rfl, rfl, rfl, by rw [List.size_toArray, lv]; exact hl, by simpa using vv⟩) (fun o z => nomatch z)
  | none =>
    refine main (some (.frz { cls := .type "list", data := .seq us.toArray } (.lst (ns.map V.int)))) (.inr ⟨_, rfl⟩) (fun _ => hk) (.inl (.inr ⟨{ cls := .type "list", data := .seq us.toArray }, ?_⟩)) (fun o z H => ?_)
    · unfold hpT
      rw [if_neg (by simp), if_pos rfl]
    · cases z
      exact ⟨ha, by rw [List.length_map]; exact hl, us, _, vv, ha⟩
end FL
namespace FL
open PySem PySem.Spec PyProof.Rows L2 LamX
def csOf (K : PySem.W.Frag) (ts : Mks) : List (Addr × Addr × Str) := ts.map fun t => (codeAd K t.1, tabAd K t.1, t.2)
theorem hkG_eq {n : Nat} {fs : List (PySem.W.Frag → Bool)} {ds : List Dsc} {ts : Mks} {g : Addr → Option Obj} {s : Shared} (h : ∀ a, g a = s.heap.get? a) : hkG n fs ds ts g = (hookF n fs ds ts).obs s := by
  have e : g = s.heap.get? := funext h
  rw [e]
  rfl
section
variable {fs : List (PySem.W.Frag → Bool)} {ds : List Dsc} {ts : Mks} {K : PySem.W.Frag}
theorem HkSays.tabs (c : HkSays fs ds ts K) : (∀ t ∈ ts, PySem.W.codeHdIn K (codeAd K t.1) (tabAd K t.1) = true ∧ K.lookup (tabAd K t.1) = none) ∧ (ts.map fun t => tabAd K t.1).Nodup := by
  obtain ⟨a, b⟩ := Bool.and_eq_true_iff.mp (show ((ts.all fun t => PySem.W.codeHdIn K (codeAd K t.1) (tabAd K t.1) && (K.lookup (tabAd K t.1)).isNone) && decide (ts.map fun t => tabAd K t.1).Nodup) = true from (Bool.and_eq_true_iff.mp c.t).2)
  refine ⟨fun t ht => ?_, of_decide_eq_true b⟩
  obtain ⟨x, y⟩ := Bool.and_eq_true_iff.mp (List.all_eq_true.mp a t ht)
  exact ⟨x, Option.isNone_iff_eq_none.mp y⟩
theorem HkSays.fact (c : HkSays fs ds ts K) (i : Nat) {f : PySem.W.Frag → Bool} (h : fs[i]? = some f) : f K = true := List.all_eq_true.mp c.both.1 f (List.mem_of_getElem? h)
end
def tbOf (K : PySem.W.Frag) (ts : Mks) : Nat → Addr := fun j => (ts.map fun t => tabAd K t.1).getD j 0
theorem walkH {l : PySem.W.OpenLaw} {k n : Nat} {q : Program} {loose : List Str} {XP : (Str → Option Value) → Heap → Prop} {d : DefRec} {x : Str} {m : (Nat → Addr) → MF} {fs : List (PySem.W.Frag → Bool)} {ds : List Dsc} {ts : Mks}
    (hn : l.most = some 63) (hdf : d.params.defaults = []) (hr : RmG k callerA)
    (F : ∀ (w : World) (mg : Str → Option Value) (fa : Addr) (h : Heap) (K : PySem.W.Frag), K.In h → HkSays fs ds ts K → h.Ns mainGlobals mg → mg d.name = some (.ref fa) →
      ∃ fd : FuncData, (∀ (s : Shared) (u : Value), BindsTo s fd ⟨[u], []⟩ [(x, u)]) ∧
        ∀ base : Heap, K.In base → base.Ns mainGlobals mg → (∀ p ∈ csOf K ts, TabB base mg p.1 p.2.1) → FnG l.prog w K mg base (L2.CX l.prog w) k fa fd [x] (spM K mg (m (tbOf K ts)) 1))
    (hm : ∀ (K : PySem.W.Frag) (ns : List Int), ns.length ≤ 63 → ∃ μ', m (tbOf K ts) [.ro (ns.map .int)] (memT (csOf K ts)) = .ok (.fr (.bl true)) μ') :
    PySem.W.WalkO q loose XP (hookF n fs ds ts).says l.row.toRowW d [] (fun f vs => PySem.call f vs) := by
  refine Att.attach_call hn hdf fun w s0 s1 mg mb fa o pm cd doc a vs ns G Y ho hd hcd hmg hobj hints hlen hg => ?_
  obtain ⟨K, hK, c, hT⟩ := Y
  obtain ⟨fd, hb, hF⟩ := F w mg fa _ K hK c G.T.g hmg
  obtain ⟨t1, t2⟩ := c.tabs
  have mem : ∀ p ∈ csOf K ts, ∃ t ∈ ts, p = (codeAd K t.1, tabAd K t.1, t.2) := fun p hp => by
    obtain ⟨t, ht, rfl⟩ := List.mem_map.mp hp
    exact ⟨t, ht, rfl⟩
  refine lawGT hK G.T.g G.T.b G.T.builtins G.T.nolimit hg G.T.bmain (fun p hp => ?_) (fun p hp => ?_) (fun p hp => ?_) ?_ hobj hints (Nat.le_trans hlen (by rw [line_eq]; decide)) hr hF hb (hm K ns hlen)
  · obtain ⟨t, ht, rfl⟩ := mem p hp
    exact hT t ht
  · obtain ⟨t, ht, rfl⟩ := mem p hp
    exact (t1 t ht).2
  · obtain ⟨t, ht, rfl⟩ := mem p hp
    exact PySem.W.codeHd_of_K hK (t1 t ht).1
  · have e : ((csOf K ts).map fun p => p.2.1) = ts.map fun t => tabAd K t.1 := by
      unfold csOf
      rw [List.map_map]
      rfl
    rw [e]
    exact t2
end FL
namespace FL
open PySem PySem.Spec PyProof.Rows L2 LamX
def kvAd (K : PySem.W.Frag) (p : FnP) : Value := match K.lookup (fAdF K p) with
  | some ⟨_, _, .func fd, _⟩ => fd.kwdefaults
  | _ => .none
def prpT : PrpTb → String → String → Option String
  | [], _, _ => none
  | (c', f', b) :: t, c, f => if c = c' ∧ f = f' then some b else prpT t c f
def isaT : IsaTb → String → String → Option Bool
  | [], _, _ => none
  | (c', d', b) :: t, c, d => if c = c' ∧ d = d' then some b else isaT t c d
def subT : List (String × Bool) → String → Option Bool
  | [], _ => none
  | (c', b) :: t, c => if c = c' then some b else subT t c
end FL
namespace L09
open PySem PySem.Spec PyProof.Rows L2 FL LamX
def sub__law_refused : String → Option Bool := subT subl__law_refused
def isa : String → String → Option Bool := isaT isal
def isb : String → String → Option Bool := isaT isbl
end L09
namespace FL
open PySem PySem.Spec PyProof.Rows L2
def nbT (tb : Nat → Addr) (n : Nat) : Nat := (List.range n).foldl (fun a i => Nat.max a (tb i + 1)) 0
end FL
namespace L09
open PySem PySem.Spec PySem.W PySem.Calls PyProof.Rows FL
theorem ob_eq (s : PySem.W.SharedT) : ob s = hk.obs s.abs := hkG_eq (HandSHeadRun.getT_eq s)
end L09
namespace FL
open PySem PySem.Spec PyProof.Rows L2
structure FuW (P : Program) (w : World) (K : PySem.W.Frag) (mg : Str → Option Value) (base : Heap) (j : Nat) (x : Str) (n : Nat) (ks : List Str) (sel : List Sel) (m : MF) (N : Nat) (dds : List D) : Prop where
  len : ∀ {α : Type} (vs ds zs : List α), vs.length = n → ds.length = dds.length → zs.length = ks.length → (pickS sel vs ds zs).length = N
  ex : ∃ (f : Addr) (fd : FuncData) (ps : List Str) (ds : List Value) (dvs : List V), mg x = some (.ref f) ∧ PySem.W.keepIn K (.ref f) = true ∧ FnG P w K mg base (L2.CX P w) j f fd ps (spM K mg m N) ∧ BindW K fd ps n ks sel ds ∧ Vals dvs ds ∧ ∀ F ρ, RepL K mg F ρ dvs dds
structure ClW (P : Program) (w : World) (K : PySem.W.Frag) (mg : Str → Option Value) (base : Heap) (j : Nat) (c : String) (n : Nat) (ks : List Str) (sel : List Sel) (mi : MF) (N : Nat) (dds : List D) : Prop where
  len : ∀ {α : Type} (vs ds zs : List α), vs.length = n → ds.length = dds.length → zs.length = ks.length → (pickS sel vs ds zs).length = N
  ex : ∃ (C f : Addr) (fd : FuncData) (ps : List Str) (ds : List Value) (dvs : List V), mg (Str.ofString c) = some (.ref C) ∧ Mk K C f ∧ FnG P w K mg base (L2.CX P w) j f fd ps (spM K mg mi (N + 1)) ∧ BindW1 K fd ps n ks sel ds ∧ Vals dvs ds ∧ ∀ F ρ, RepL K mg F ρ dvs dds
section
variable {X : Cx} {j n N : Nat} {x : Str} {c : String} {ks : List Str} {sel : List Sel} {m mi : MF} {dds : List D}
theorem FuW.call (V : FuW X.prog X.w X.K X.mg X.base j x n ks sel m N dds) : ∃ a, X.mg x = some (.ref a) ∧ CallW X j a n ks sel m N dds := by
  obtain ⟨f, fd, ps, ds, dvs, e1, e2, e3, e4, e5, e6⟩ := V.ex
  exact ⟨f, e1, .fn e3 e2 e4 e5 e6 V.len⟩
theorem ClW.callF (V : ClW X.prog X.w X.K X.mg X.base j c n ks sel mi N dds) : ∃ a, X.mg (Str.ofString c) = some (.ref a) ∧ CallW X (j + 1) a n ks sel (mkF c mi) N dds := by
  obtain ⟨C, f, fd, ps, ds, dvs, e1, e2, e3, e4, e5, e6⟩ := V.ex
  exact ⟨C, e1, .mkF e1 e2 e3 e4 e5 e6 V.len⟩
end
end FL
namespace FL
open PySem PySem.Spec PyProof.Rows L2
section
variable {X : Cx} {W : WX} {k : Nat} {N : List Str} {sc : Scope} {a b e o : Expr} {es : List Expr} {pos p apos : Pos} {x : Str}
theorem RepL.pair {F : Hp} {ρ : List Addr} {vs : List V} {d d' : D} (h : RepL X.K X.mg F ρ vs [d, d']) : ∃ v w, vs = [v, w] ∧ Rep X.K X.mg F ρ v d ∧ Rep X.K X.mg F ρ w d' := by
  cases h with
  | cons h t => obtain ⟨w, rfl, h'⟩ := t.single; exact ⟨_, w, rfl, h, h'⟩
theorem pop0_ {oo : Opn} (ho : JO X W o oo) (hbase : attributeBase o "pop" X.env (eval o X.env) = eval o X.env := by rfl) (hline : (apos.endLine == pos.line) = true := by rfl) : JE X W (.Call (.Attribute o "pop" apos) [] [] pos) (mMut "list" gPop0 oo []) :=
  je_mut0 PySem.F.plainAttrs_list PySem.F.slot_list_pop PySem.F.type_list_pop mt_pop j_pop0 ho hbase hline
abbrev rReprD (K : PySem.W.Frag) : List V → Hp → VK → Prop := fun xs H Q => ∃ x d, xs = [x] ∧ Dp K H x d ∧ PyData.showable d = true ∧ PyData.hasDict d = false ∧ d.depth ≤ 64 ∧ (PyData.shown d).length ≤ sizeLine ∧ Q (.str (PyData.shown d)) H
theorem o_repr (hg : X.A.guards = some []) (hu : X.A.units + 70 < cLine) : CallR X (.builtin "repr") (rReprD X.K) := by
  intro pins s σ H xs us Q I rv h
  obtain ⟨x, d, rfl, hd, hs, hn, hdp, hz, q⟩ := h
  obtain ⟨u, rfl, ru⟩ : ∃ u, us = [u] ∧ RelV x u := by
    cases rv with
    | cons r t => cases t; exact ⟨_, rfl, r⟩
  obtain ⟨as, rd⟩ := Dp.reads I d x u hd ru
  have fin : ∀ a, u = .ref a → wpAny (model X.prog X.w) X.A (call (.builtin "repr") [u]) (EP X pins σ Q) X.xe s := by
    intro a ea
    subst ea
    exact repr_of_reads' rd hs (PyData.noDict_hsm hn) hg (by omega) (fun _ _ e => e) (fun h' t tk kk => ⟨.str (PyData.shown d), H, I.kept (t' := tk) kk, ⟨t, rfl⟩, q⟩) hz
  cases hd with
  | non => cases ru; exact PySem.P.repr_of_none ⟨.str _, H, I.tok _, ⟨_, rfl⟩, q⟩
  | bl b => cases ru; exact PySem.P.repr_of_bool ⟨.str _, H, I.tok _, ⟨_, by cases b <;> rfl⟩, q⟩
  | int i =>
    obtain ⟨t, rfl⟩ := ru
    exact PySem.P.repr_of_int (of_decide_eq_true hs) ⟨.str _, H, I.tok _, ⟨_, rfl⟩, q⟩
  | str z =>
    obtain ⟨t, rfl⟩ := ru
    exact PySem.P.repr_of_str ⟨.str _, H, I.tok _, ⟨_, rfl⟩, q⟩ hz
  | lst hq ha => cases ru; exact fin _ rfl
  | tup hq ha => cases ru; exact fin _ rfl
def gRepr : List D → Option Slot := fun ds => match ds with
  | [d] => match D.py d with
    | some q => if (PyData.showable q && (!PyData.hasDict q && (decide (q.depth ≤ 64) && decide ((PyData.shown q).length ≤ 16777216)))) = true then some (.fr (.str (PyData.shown q).cps.toList)) else none
    | none => none
  | _ => none
theorem j_repr : RLJ X (rReprD X.K) gRepr :=
  rl1_flat (g := fun d => match D.py d with
    | some q => if (PyData.showable q && (!PyData.hasDict q && (decide (q.depth ≤ 64) && decide ((PyData.shown q).length ≤ 16777216)))) = true then some (.fr (.str (PyData.shown q).cps.toList)) else none
    | none => none) fun Z F ρ μ δ σ H x dx s Q S b e => by
    cases ep : D.py dx with
    | none => simp only [ep] at e; cases e
    | some q =>
      simp only [ep] at e
      split at e
      · rename_i hc
        simp only [Bool.and_eq_true, Bool.not_eq_true', decide_eq_true_eq] at hc
        cases e
        exact ⟨.str (PyData.shown q), fun qq => ⟨x, q, rfl, b.dp S ep, hc.1, hc.2.1, hc.2.2.1, by rw [line_eq]; exact hc.2.2.2, qq⟩, _, rfl, by
          have := @Rep.str X.K X.mg F ρ (PyData.shown q).cps.toList
          rwa [toS_of] at this⟩
      · cases e
theorem Cs.hg (C : Cs X W k N sc) : X.A.guards = some [] := C.rm.g
theorem Cs.hu70 (C : Cs X W k N sc) : X.A.units + 70 < cLine := by have := C.rm.r.un; omega
end
end FL
namespace FL
open PySem PySem.Spec PyProof.Rows L2
section
variable {prog : Program} {w : World} {A : Around} {E : Value → Shared → Prop} {s : Shared}
def RowAt (h : Heap) (v : Value) (i : Int) : Prop := ∃ (p : Addr) (ob : Obj) (xs : List Value) (n : Nat) (t : Tok), v = .ref p ∧ h.get? p = some ob ∧ ob.cls = .type "tuple" ∧ ob.data = .seq (Value.int i t :: xs).toArray n
theorem RowAt.stay {h h' : Heap} {v : Value} {i : Int} (r : RowAt h v i) (k : ∀ p ob, h.get? p = some ob → ob.cls = .type "tuple" → h'.get? p = some ob) : RowAt h' v i :=
  let ⟨p, ob, xs, n, t, e, ho, hc, hd⟩ := r
  ⟨p, ob, xs, n, t, e, k p ob ho hc, hc, hd⟩
end
end FL
namespace FL
open PySem PySem.Spec PyProof.Rows L2
section
variable {X : Cx} {W : WX}
theorem new_pair {Z F H : Hp} {ρ : List Addr} {μ : Mem} {δ : Loc} {σ : L2.St} {p : Addr} {a b : V} {da db : D} (S : Sim X.K X.mg Z F ρ μ δ σ H) (hp : H p = none) (ra : Rep X.K X.mg F ρ a da) (rb : Rep X.K X.mg F ρ b db) :
    ∃ F2, Le Z F F2 ∧ Sim X.K X.mg Z F2 ρ μ δ σ (upd H p (.tup [a, b])) ∧ Rep X.K X.mg F2 ρ (.ref p) (.tup [da, db]) := by
  obtain ⟨F2, l, S2, r⟩ := vr_newT S hp (.cons ra (.cons rb .nil))
  exact ⟨F2, l, S2, r.r⟩
end
end FL
namespace FL
open PySem PySem.Spec PyProof.Rows L2
def dkey : D → Option DK
  | .int n => some (.i n)
  | .str x => some (.s x)
  | _ => none
def putA (kds : List (DK × D)) (k : DK) (d : D) : List (DK × D) := if (kds.any fun p => decide (p.1 = k)) = true then kds.map (fun p => if p.1 = k then (p.1, d) else p) else kds ++ [(k, d)]
def dropA (kds : List (DK × D)) (k : DK) : List (DK × D) := kds.filter fun p => decide (p.1 ≠ k)
abbrev dctO (kds : List (DK × D)) : Own := .dct (kds.map (·.1)) (kds.map (·.2))
section
variable {K : PySem.W.Frag} {mg : Str → Option Value} {F F' : Hp} {ρ ρ' : List Addr} {H : Hp} {p : Addr}
theorem KV.of : ∀ {ks : List DK} {vs : List V} {ds : List D}, ks.length = vs.length → RepL K mg F ρ vs ds → KV K mg F ρ ((ks.map DK.key).zip vs) (ks.zip ds)
  | [], _, _, h, r => by cases r <;> first | exact .nil | (cases h; done)
  | k :: ks, _, _, h, r => by
    cases r with
    | nil => cases h
    | cons h1 t => exact .cons h1 (KV.of (by simpa using h) t)
theorem KV.back : ∀ {kvs : List (Key × V)} {kds : List (DK × D)}, KV K mg F ρ kvs kds → kvs = ((kds.map (·.1)).map DK.key).zip (kvs.map (·.2)) ∧ RepL K mg F ρ (kvs.map (·.2)) (kds.map (·.2)) ∧ kvs.length = kds.length
  | _, _, .nil => ⟨rfl, .nil, rfl⟩
  | _, _, .cons h t => by
    obtain ⟨a, b, c⟩ := KV.back t
    refine ⟨?_, .cons h b, by rw [List.length_cons, List.length_cons, c]⟩
    simp only [List.map_cons, List.zip_cons_cons]
    rw [← a]
theorem KV.up (l : ∀ p o, F p = some o → F' p = some o) (lr : ∀ (k : Nat) p, ρ[k]? = some p → ρ'[k]? = some p) : ∀ {kvs : List (Key × V)} {kds : List (DK × D)}, KV K mg F ρ kvs kds → KV K mg F' ρ' kvs kds
  | _, _, .nil => .nil
  | _, _, .cons h t => .cons (h.up l lr) (KV.up l lr t)
theorem KV.app : ∀ {a b : List (Key × V)} {c d : List (DK × D)}, KV K mg F ρ a c → KV K mg F ρ b d → KV K mg F ρ (a ++ b) (c ++ d)
  | _, _, _, _, .nil, h => h
  | _, _, _, _, .cons h t, r => .cons h (KV.app t r)
theorem KV.any {k : DK} : ∀ {kvs : List (Key × V)} {kds : List (DK × D)}, KV K mg F ρ kvs kds → (kvs.any fun kv => decide (kv.1 = k.key)) = (kds.any fun p => decide (p.1 = k))
  | _, _, .nil => rfl
  | _, _, .cons h t => by rw [List.any_cons, List.any_cons, KV.any t, key_dec]
theorem KV.repl {k : DK} {v : V} {d : D} (r : Rep K mg F ρ v d) : ∀ {kvs : List (Key × V)} {kds : List (DK × D)}, KV K mg F ρ kvs kds → KV K mg F ρ (kvs.map fun kv => if kv.1 = k.key then (kv.1, v) else kv) (kds.map fun p => if p.1 = k then (p.1, d) else p)
  | _, _, .nil => .nil
  | _, _, @KV.cons _ _ _ _ k1 v1 d1 kvs kds h t => by
    rw [List.map_cons, List.map_cons]
    by_cases z : k1 = k
    · rw [if_pos (show DK.key k1 = DK.key k by rw [z]), if_pos (show k1 = k from z)]
      exact .cons r (KV.repl r t)
    · rw [if_neg (show ¬ DK.key k1 = DK.key k from fun q => z (DK.key_inj q)), if_neg (show ¬ k1 = k from z)]
      exact .cons h (KV.repl r t)
theorem KV.put {k : DK} {v : V} {d : D} (r : Rep K mg F ρ v d) {kvs : List (Key × V)} {kds : List (DK × D)} (h : KV K mg F ρ kvs kds) : KV K mg F ρ (putK kvs k.key v) (putA kds k d) := by
  unfold putK putA
  rw [h.any]
  by_cases z : (kds.any fun p => decide (p.1 = k)) = true
  · rw [if_pos z, if_pos z]
    exact h.repl r
  · rw [if_neg z, if_neg z]
    exact h.app (.cons r .nil)
theorem KV.drop {k : DK} : ∀ {kvs : List (Key × V)} {kds : List (DK × D)}, KV K mg F ρ kvs kds → KV K mg F ρ (dropK kvs k.key) (dropA kds k)
  | _, _, .nil => .nil
  | _, _, @KV.cons _ _ _ _ k1 v1 d1 kvs kds h t => by
    have ih := KV.drop (k := k) t
    unfold dropK dropA at ih ⊢
    by_cases z : k1 = k
    · rw [List.filter_cons_of_neg (by simp [z]), List.filter_cons_of_neg (by simp [z])]
      exact ih
    · rw [List.filter_cons_of_pos (by simpa using fun q => z (DK.key_inj q)), List.filter_cons_of_pos (by simpa using z)]
      exact .cons h ih
theorem own_kv {ks : List DK} {ds : List D} (h : OwnR K mg F ρ H p (.dct ks ds)) : ∃ kvs, H p = some (.dK kvs) ∧ KV K mg F ρ kvs (ks.zip ds) := by
  obtain ⟨vs, e, n, r⟩ := h
  exact ⟨_, e, KV.of n r⟩
theorem kv_own {kvs : List (Key × V)} {kds : List (DK × D)} (h : KV K mg F ρ kvs kds) (e : H p = some (.dK kvs)) : OwnR K mg F ρ H p (dctO kds) := by
  obtain ⟨a, b, c⟩ := h.back
  refine ⟨kvs.map (·.2), by rw [e]; exact congrArg (fun z => some (HO.dK z)) a, by simp [c], b⟩
end
section
variable {X : Cx} {W : WX} {o i e value : Expr} {pos pos' apos cpos : Pos}
theorem key_of {F H : Hp} {ρ : List Addr} {y : V} {d : D} {k : DK} (h : Bor X.K X.mg F ρ H y d) (e : dkey d = some k) : y = kV k.key := by
  cases d <;> first | (cases e; done) | skip
  · cases e
    exact h.int
  · cases e
    exact h.str
theorem key_rep {F : Hp} {ρ : List Addr} {y : V} {d : D} {k : DK} (h : Rep X.K X.mg F ρ y d) (e : dkey d = some k) : y = kV k.key := key_of (H := F) (.fr h) e
def gGetD : D → D → Option Slot
  | .dct ks ds, y => match dkey y with
    | some k => (getA (ks.zip ds) k).map .fr
    | none => none
  | _, _ => none
abbrev rGetD : R2 := fun x y H Q => ∃ a v, x = .ref a ∧ DGet H a y (some v) ∧ Q v H
theorem j_getD : R2J X rGetD gGetD := by
  intro Z F ρ μ δ σ H x y dx dy s Q S bx bY e q
  unfold gGetD at e
  cases dx <;> first | (cases e; done) | skip
  · rename_i ks ds
    cases ek : dkey dy with
    | none => simp only [ek] at e; cases e
    | some k =>
      simp only [ek] at e
      obtain ⟨d, e1, e2⟩ := Option.map_eq_some_iff.mp e
      subst e2
      obtain ⟨p, vs, rfl, hr, hl, r⟩ := bx.dct S
      obtain ⟨v, g, rv⟩ := (KV.of hl r).get e1
      exact ⟨p, v, rfl, .inl ⟨_, k.key, hr, key_of bY ek, g.symm⟩, q _ H F .refl S ⟨rv, fun o p z => by cases z⟩⟩
theorem je_getD {oa ob : Opn} (hu : X.A.units + 1 < cLine) (ha : JO X W o oa) (hb : JO X W i ob) (hs : NoSl i) : JE X W (.Subscript o i pos) (m2 gGetD oa ob) :=
  (pe_dget hu ha hb hs).imp (m2_read (r := rGetD) j_getD)
end
end FL
namespace FL
open PySem PySem.Spec PyProof.Rows L2
section
variable {X : Cx} {W : WX} {e : Expr} {pos : Pos}
theorem perm_back {α β : Type} {f : α → β} : ∀ {ys : List β} {l : List α}, ys.Perm (l.map f) → ∃ l' : List α, List.Perm l' l ∧ List.map f l' = ys := by
  have key : ∀ {ys zs : List β}, ys.Perm zs → ∀ {l : List α}, zs = l.map f → ∃ l' : List α, List.Perm l' l ∧ List.map f l' = ys := by
    intro ys zs h
    induction h with
    | nil =>
      intro l e
      cases l with
      | nil => exact ⟨[], .refl _, rfl⟩
      | cons _ _ => cases e
    | cons x _ ih =>
      intro l e
      cases l with
      | nil => cases e
      | cons a l =>
        rw [List.map_cons] at e
        injection e with e1 e2
        obtain ⟨l', p, q⟩ := ih e2
        exact ⟨a :: l', p.cons a, by rw [List.map_cons, q, e1]⟩
    | swap x y r =>
      intro l e
      cases l with
      | nil => cases e
      | cons a l =>
        cases l with
        | nil => cases e
        | cons b l =>
          rw [List.map_cons, List.map_cons] at e
          injection e with e1 e2
          injection e2 with e2 e3
          exact ⟨b :: a :: l, List.Perm.swap a b l, by rw [List.map_cons, List.map_cons, e1, e2, e3]⟩
    | trans _ _ ih1 ih2 =>
      intro l e
      obtain ⟨l1, p1, q1⟩ := ih2 e
      obtain ⟨l2, p2, q2⟩ := ih1 q1.symm
      exact ⟨l2, p2.trans p1, q2⟩
  intro ys l h
  exact key h rfl
def tLockD (td : TE) : TE := fun σ H Q => td σ H fun x H1 => ∃ d kvs, x = .ref d ∧ H1 d = some (.dK kvs) ∧ ∀ o H2, H2 d = some (.frz o (.dK kvs)) → (∀ b, b ≠ d → H2 b = H1 b) → Q x H2
theorem pe_lockD {td : TE} (he : PE X e td) : PE X e (tLockD td) := by
  refine ⟨fun pins s σ H Q I h => ?_⟩
  refine wpAny_mono (he.run pins s σ H _ I h) (fun u s1 ⟨x, H1, I1, r, d, kvs, ex, hd, q⟩ => ?_) fun _ _ z => z
  obtain ⟨od, J⟩ := I1.lock hd True.intro
  exact ⟨x, _, J, r, q od _ upd_same fun b hb => upd_ne hb⟩
def itemsD (kds : List (DK × D)) : List D := kds.map fun p => .tup [p.1.d, p.2]
def mItems (i : Nat) : MM (List D) := fun δ μ => match δ[i]? with
  | some (some (.own (.dct ks ds))) => .ok (itemsD (ks.zip ds)) (δ.set i (some (.fr (.dct ks ds)))) μ
  | _ => .bad
theorem rep_key {K : PySem.W.Frag} {mg : Str → Option Value} {F : Hp} {ρ : List Addr} (k : DK) : Rep K mg F ρ (kV k.key) k.d := by
  cases k with
  | i n => exact .int
  | s x => exact .str
theorem itr_items {F : Hp} {ρ : List Addr} {d : Addr} {o : Obj} {kvs : List (Key × V)} {kds : List (DK × D)} (hF : F d = some (.frz o (.dK kvs))) (r : KV X.K X.mg F ρ kvs kds) : ItR X F ρ (Iti d o kvs) (itemsD kds) := by
  intro Z' F' ρ' μ δ σ H i to tr S
  have q : H d = some (.frz o (.dK kvs)) := by
    rcases S.le _ _ (to _ _ hF) with z | ⟨_, _, z, _⟩
    · exact z
    · cases z
  obtain ⟨_, _, hl⟩ := r.back
  refine ⟨fun h => ⟨q, by rw [hl]; simpa [itemsD] using h⟩, fun x hx => ?_⟩
  unfold itemsD at hx
  rw [List.getElem?_map] at hx
  obtain ⟨p, e1, rfl⟩ := Option.map_eq_some_iff.mp hx
  obtain ⟨v, e2, rv⟩ := r.at e1
  refine ⟨⟨q, (List.getElem?_eq_some_iff.mp e2).1⟩, fun y H' ⟨T, k, w, e3, ey, hT, eH⟩ => ?_⟩
  subst ey
  subst eH
  rw [e2] at e3
  cases e3
  exact new_pair S hT (rep_key p.1) (rv.up to tr)
theorem Sim.lockItems {K : PySem.W.Frag} {mg : Str → Option Value} {Z F H H2 : Hp} {ρ : List Addr} {μ : Mem} {δ : Loc} {σ : L2.St} {i : Nat} {p : Addr} {ks : List DK} {ds : List D} {o : Obj} {kvs : List (Key × V)} (S : Sim K mg Z F ρ μ δ σ H) (e : δ[i]? = some (some (.own (.dct ks ds)))) (hp : σ[i]? = some (some (.ref p)))
    (kv : KV K mg F ρ kvs (ks.zip ds)) (hn : ks.length = ds.length) (h2 : H2 p = some (.frz o (.dK kvs))) (hk : ∀ b, b ≠ p → H2 b = H b) :
    ∃ F2, Le Z F F2 ∧ F2 p = some (.frz o (.dK kvs)) ∧ KV K mg F2 ρ kvs (ks.zip ds) ∧ Sim K mg Z F2 ρ μ (δ.set i (some (.fr (.dct ks ds)))) σ H2 := by
  obtain ⟨v, ev, p', rfl, fr, ow⟩ := S.slot i _ e
  rw [hp] at ev
  cases ev
  have hi : i < δ.length := (List.getElem?_eq_some_iff.mp e).1
  have same : σ.set i (some (.ref p)) = σ := by
    apply List.ext_getElem?
    intro j
    by_cases z : j = i
    · subst z
      rw [List.getElem?_set_self (by rw [S.len]; exact hi), hp]
    · rw [List.getElem?_set_ne (Ne.symm z)]
  have S1 : Sim K mg Z F ρ μ (δ.set i none) σ H := by
    have := S.forget (i := i) (x := some (.ref p))
    rwa [same] at this
  have none_at : ∀ (j : Nat) s, (δ.set i none)[j]? = some (some (.own s)) → σ[j]? ≠ some (some (.ref p)) := fun j s e1 e2 => by
    by_cases z : j = i
    · subst z
      rw [List.getElem?_set_self hi] at e1
      cases e1
    · rw [List.getElem?_set_ne (Ne.symm z)] at e1
      exact z (S.apart j i p s _ e1 e e2 hp)
  have S2 : Sim K mg Z F ρ μ (δ.set i none) σ H2 := S1.heap hk fr.f fr.z fr.r none_at
  obtain ⟨l, S3⟩ := S2.freeze h2 fr none_at
  refine ⟨_, l, upd_same, kv.up l.to fun _ _ h => h, ?_⟩
  have kv2 := kv.up (ρ' := ρ) l.to fun _ _ h => h
  obtain ⟨b1, b2, b3⟩ := kv2.back
  have rp : Rep K mg (upd F p (.frz o (.dK kvs))) ρ (.ref p) (.dct ks ds) := by
    have f1 : (ks.zip ds).map (·.1) = ks := List.map_fst_zip (by omega)
    have f2 : (ks.zip ds).map (·.2) = ds := List.map_snd_zip (by omega)
    rw [f2] at b2
    rw [f1] at b1
    exact .dct (.inr ⟨o, by rw [upd_same, ← b1]⟩) (by rw [hn, ← b2.len]) b2
  have S4 := S3.store (i := i) (v := .ref p) (s := .fr (.dct ks ds)) ⟨rp, fun o p z => by cases z⟩ (by simpa using hi)
  rw [same, List.set_set] at S4
  exact S4
theorem ji_items {i : Nat} {elts : List Expr} {kk : Nat} {tpos apos cpos : Pos} (hv : PE X e (tVar i)) (hbase : attributeBase e "items" X.env (eval e X.env) = eval e X.env := by rfl) (hline : (apos.endLine == cpos.line) = true := by rfl) :
    JI X W (.Tuple elts kk tpos) (.Call (.Attribute e "items" apos) [] [] cpos) (mItems i) := by
  refine (pi_items (pe_lockD hv) hbase hline).imp fun σ H R ⟨Z, F, ρ, μ, δ, S, q⟩ => ?_
  unfold mItems at q
  cases e1 : δ[i]? with
  | none => simp only [e1] at q; exact q.elim
  | some so =>
    cases so with
    | none => simp only [e1] at q; exact q.elim
    | some s =>
      cases s with
      | fr d => simp only [e1] at q; exact q.elim
      | own c =>
        cases c <;> first | (simp only [e1] at q; exact q.elim) | skip
        rename_i ks ds
        simp only [e1] at q
        obtain ⟨v, ev, p, rfl, fr, ow⟩ := S.slot i _ e1
        obtain ⟨vs, hH, hn, rl⟩ := id ow
        obtain ⟨kvs, hH2, kv⟩ := own_kv ow
        refine ⟨.ref p, ev, p, kvs, rfl, hH2, fun o H2 h1 h2 => ?_⟩
        obtain ⟨F2, l2, hF2, kv2, S2⟩ := S.lockItems e1 ev kv (by rw [hn, rl.len]) h1 h2
        exact ⟨p, o, kvs, rfl, h1, q H2 F2 ρ l2 .refl S2 _ (itr_items hF2 kv2)⟩
def dcD (f : TgF) (tests : MT) (kx vx : ME) (vs : List Nat) : List D → List (DK × D) → ME
  | [], acc => fun δ μ => .ok (.own (dctO acc)) δ μ
  | d :: ds, acc => fun δ μ => match f d δ with
    | none => .bad
    | some δ' => (tests δ' μ).cut.bind fun b δ2 μ2 => if b = true then (kx δ2 μ2).cut.bind fun s δ3 μ3 => (vx δ3 μ3).cut.bind fun t δ4 μ4 => match dkey s.d with
        | some k => if acc.length < 16777216 then dcD f tests kx vx vs ds (putA acc k t.d) (wipeD δ4 vs) μ4 else .bad
        | none => .bad
      else dcD f tests kx vx vs ds acc (wipeD δ2 vs) μ2
def mDc (mi : MM (List D)) (f : TgF) (tests : MT) (kx vx : ME) (vs : List Nat) : ME := fun δ μ => (mi δ μ).bind fun ds δ1 μ1 => dcD f tests kx vx vs ds [] (wipeD δ1 vs) μ1
theorem wipe_own {vs : List Nat} {δ : Loc} {i : Nat} {c : Own} : (wipeD δ vs)[i]? = some (some (.own c)) → δ[i]? = some (some (.own c)) := by
  induction vs with
  | nil => exact id
  | cons v vs ih =>
    intro h
    have hn := wipeD_in h
    unfold wipeD at h
    rw [List.getElem?_set_ne (fun z => hn (by simp [z]))] at h
    exact ih h
theorem dc_read {mi : MM (List D)} {f : TgF} {tests : MT} {kx vx : ME} {vs is : List Nat} {B : Cx} (hK : B.K = X.K) (hm : B.mg = X.mg) (hsub : ∀ j ∈ is, j ∈ vs) : ∀ σ H Q, rdE X W (mDc mi f tests kx vx vs) σ H Q → tDc (rdI X W mi) (rdG X f is) (rdT B W0 tests) (rdE B W0 kx) (rdE B W0 vx) vs σ H Q := by
  intro σ H Q ⟨Z, F, ρ, μ, δ, S, q⟩
  refine ⟨Z, F, ρ, μ, δ, S, (FinE.bind q).imp fun ds δ1 μ1 H1 F1 ρ1 l lr S1 ⟨_, _, _, p⟩ J hJ A hA => ?_⟩
  obtain ⟨n1, n2, n3, n4⟩ := S1.notIn hA
  let P : Slot → Loc → Mem → Hp → List Addr → Hp → Prop := fun s δ' _ F' ρ' H' => ∀ v, VR X.K X.mg Z F' ρ' δ' σ H' v s → Q v H'
  let Wd : Nat → Nat → Hp → Prop := fun i k H => k = ds.length - i ∧ i ≤ ds.length ∧ ∃ F' ρ' μ δ kvs acc, (∀ p o, F1 p = some o → F' p = some o) ∧ (∀ (k : Nat) p, ρ1[k]? = some p → ρ'[k]? = some p) ∧ Sim X.K X.mg Z F' ρ' μ (wipeD δ vs) (L2.wipe σ vs) H ∧
    Free Z F' ρ' A ∧ (∀ (i : Nat) s, (wipeD δ vs)[i]? = some (some (.own s)) → (L2.wipe σ vs)[i]? ≠ some (some (.ref A))) ∧ H A = some (.dK kvs) ∧ KV X.K X.mg F' ρ' kvs acc ∧ FinE X W Z F' ρ' σ P (dcD f tests kx vx vs (ds.drop i) acc (wipeD δ vs) μ)
  have wout : ∀ {δ : Loc} {s : Slot} (i : Nat), (wipeD δ vs)[i]? = some (some s) → (L2.wipe σ vs)[i]? = σ[i]? := fun i h => wipe_out (wipeD_in h)
  have Sw := (S1.laid (o := .dK []) hA).wipe vs
  refine ⟨Wd, ⟨ds.length, by simp, Nat.zero_le _, F1, ρ1, μ1, δ1, [], [], fun _ _ h => h, fun _ _ h => h, Sw, ⟨n1, n2, n3⟩, fun i s e1 e2 => ?_, upd_same, .nil, by rw [List.drop_zero]; exact p⟩, ?_⟩
  · have e4 := wout i e1
    rw [e2] at e4
    exact n4 i s (wipe_own e1) e4.symm
  rintro i k H2 ⟨rfl, hle, F2, ρ2, μ2, δ2, kvs, acc, to, tr, S2, fA, nA, hL, kv, p2⟩
  obtain ⟨j1, j2⟩ := hJ Z F2 ρ2 μ2 _ _ H2 i to tr S2
  by_cases hlt : i < ds.length
  · refine .inr ?_
    have hd : ds.drop i = ds[i] :: ds.drop (i + 1) := List.drop_eq_getElem_cons hlt
    have SG := S2.guard hL fA nA
    obtain ⟨go, yl⟩ := hJ (upd Z A (.dK kvs)) F2 ρ2 μ2 _ _ H2 i to tr SG |>.2 ds[i] (List.getElem?_eq_getElem hlt)
    refine ⟨go, fun H' => Wd (i + 1) (ds.length - (i + 1)) H', fun H' w => ⟨ds.length - (i + 1), by omega, w⟩, fun x H' y => ?_⟩
    obtain ⟨F3, l3, S3, r3⟩ := yl x H' y
    rw [hd] at p2
    unfold dcD at p2
    cases ef : f ds[i] (wipeD δ2 vs) with
    | none => simp only [ef] at p2; exact p2.elim
    | some δ3 =>
      simp only [ef] at p2
      refine ⟨_, F3, ρ2, μ2, _, _, S3, r3, δ3, ef, fun σ4 hσ hl4 S4 => ?_⟩
      have ws : L2.wipe σ4 vs = L2.wipe σ vs := by
        have h1 := wipe_same (σ := L2.wipe σ vs) (σ' := σ4) hl4 (vs := vs) fun j hj => hσ j fun z => hj (hsub j z)
        rw [h1]
        exact wipe_same (wipe_length _ _) fun j hj => wipe_out hj
      refine ⟨by rw [ws, wipe_same (σ := σ) (σ' := σ) rfl fun _ _ => rfl], ?_⟩
      refine ⟨_, F3, ρ2, μ2, δ3, by rw [hK, hm]; exact S4, (FinE.cut (p := A) (o := .dK kvs) hK hm (p2.mono l3.unguard .refl)).imp fun b δ5 μ5 H5 F5 ρ5 l5 lr5 _ ⟨S5, l5', lr5', p5⟩ => ?_⟩
      have fin : ∀ {F6 : Hp} {ρ6 : List Addr} {μ6 : Mem} {δ6 : Loc} {H6 H7 : Hp} {kvs' : List (Key × V)} {acc' : List (DK × D)}, Sim X.K X.mg (upd Z A (.dK kvs)) F6 ρ6 μ6 δ6 σ4 H6 → Le (upd Z A (.dK kvs)) F3 F6 → LeR (upd Z A (.dK kvs)) ρ2 ρ6 →
          (∀ a, a ≠ A → H7 a = H6 a) → H7 A = some (.dK kvs') → KV X.K X.mg F6 ρ6 kvs' acc' → FinE X W Z F6 ρ6 σ P (dcD f tests kx vx vs (ds.drop (i + 1)) acc' (wipeD δ6 vs) μ6) → Wd (i + 1) (ds.length - (i + 1)) H7 := by
        intro F6 ρ6 μ6 δ6 H6 H7 kvs' acc' S6 l6 lr6 hne hA7 kv' p6
        have fA6 : Free Z F6 ρ6 A := (fA.on l3 .refl).on l6 lr6
        have S8 := ((S6.unguard fA.z).heap hne fA6.f fA6.z fA6.r S6.guardNo).wipe vs
        rw [ws] at S8
        refine ⟨rfl, hlt, F6, ρ6, μ6, δ6, kvs', acc', fun p o h => l6.to p o (l3.to p o (to p o h)), fun k p h => lr6.to k p (tr k p h), S8, fA6, fun i' s e1 e2 => ?_, hA7, kv', p6⟩
        have e4 : (L2.wipe σ4 vs)[i']? = σ4[i']? := wipe_out (wipeD_in e1)
        rw [ws, e2] at e4
        exact S6.guardNo i' s (wipe_own e1) e4.symm
      cases b with
      | false =>
        simp only [if_neg Bool.false_ne_true] at p5 ⊢
        exact fin S5 l5' lr5' (fun _ _ => rfl) S5.guarded (kv.up (fun p o h => l5'.to p o (l3.to p o h)) lr5'.to) p5
      | true =>
        simp only [if_true] at p5 ⊢
        refine ⟨_, F5, ρ5, μ5, δ5, by rw [hK, hm]; exact S5, (FinE.cut (p := A) (o := .dK kvs) hK hm p5).imp fun s δ6 μ6 H6 F6 ρ6 l6 lr6 _ ⟨S6, l6', lr6', p6⟩ v vr => ?_⟩
        rw [hK, hm] at vr
        refine ⟨_, F6, ρ6, μ6, δ6, by rw [hK, hm]; exact S6, (FinE.cut (p := A) (o := .dK kvs) hK hm p6).imp fun t δ7 μ7 H7 F7 ρ7 l7 lr7 _ ⟨S7, l7', lr7', p7⟩ u ur => ?_⟩
        rw [hK, hm] at ur
        cases ek : dkey s.d with
        | none => simp only [ek] at p7; exact p7.elim
        | some k =>
          simp only [ek] at p7
          have ev : v = kV k.key := by
            have r := vr.r
            cases s with
            | fr d => exact key_rep r ek
            | own c => cases c <;> cases ek
          obtain ⟨F8, l8, S8, r8⟩ := S7.lock ur
          by_cases hz : acc.length < 16777216
          · rw [if_pos hz] at p7
            have kv8 := kv.up (fun p o h => l8.to p o (l7'.to p o (l6'.to p o (l5'.to p o (l3.to p o h))))) (ρ' := ρ7) fun k p h => lr7'.to k p (lr6'.to k p (lr5'.to k p h))
            obtain ⟨_, _, hlen⟩ := kv.back
            refine ⟨kvs, k.key, ev, S8.guarded, by rw [hlen, line_eq]; exact hz, ?_⟩
            exact fin S8 (((l5'.trans l6').trans l7').trans l8) ((lr5'.trans lr6').trans lr7') (fun a ne => upd_ne ne) upd_same (kv8.put r8) (p7.mono l8.unguard .refl)
          · rw [if_neg hz] at p7; exact p7.elim
  · have e : i = ds.length := by omega
    subst e
    rw [List.drop_length] at p2
    refine .inl ⟨j1 (Nat.le_refl _), ?_⟩
    have S3 : Sim X.K X.mg Z F2 ρ2 μ2 (wipeD δ2 vs) σ H2 := S2.agree (wipe_length _ _).symm fun i s e => (wout i e).symm
    exact p2 H2 F2 ρ2 .refl .refl S3 (.ref A) ⟨⟨A, rfl, fA, kv_own kv hL⟩, fun o p z1 z2 i o' e1 e2 => by
      cases z2
      exact nA i o' e1 (by rw [wout i e1]; exact e2)⟩
theorem je_dc {kx vx tg iter : Expr} {ifs : List Expr} {scope : Scope} {own : List (Str × Nat)} {mi : MM (List D)} {f : TgF} {is : List Nat} {tests : MT} {mk mv : ME} (hc : X.calm = true) (hN : X.N.Nodup) (hi : JI X W tg iter mi) (ok : BlkOk X.N X.env.scope scope own)
    (hg : ∀ (s : Shared) (H : Hp) (C : Addr) (cl : List (Str × Addr)) (fp : List Addr), JG (X.blk s H scope (compEnvC scope cl C X.env) fp) tg f is) (ht : ∀ (s : Shared) (H : Hp) (C : Addr) (cl : List (Str × Addr)) (fp : List Addr), JTs (X.blk s H scope (compEnvC scope cl C X.env) fp) W0 ifs tests)
    (hk : ∀ (s : Shared) (H : Hp) (C : Addr) (cl : List (Str × Addr)) (fp : List Addr), JE (X.blk s H scope (compEnvC scope cl C X.env) fp) W0 kx mk) (hv : ∀ (s : Shared) (H : Hp) (C : Addr) (cl : List (Str × Addr)) (fp : List Addr), JE (X.blk s H scope (compEnvC scope cl C X.env) fp) W0 vx mv)
    (hsub : ∀ j ∈ is, j ∈ own.map (·.2)) (hs : ∀ x, foldedSetIterable iter X.env x = pure x := by intro _; rfl) : JE X W (.DictComp kx vx [⟨tg, iter, ifs, 0⟩] scope pos) (mDc mi f tests mk mv (own.map (·.2))) :=
  (pe_dc (g := rdG X f is) (tt := rdT X W0 tests) (tk := rdE X W0 mk) (tv := rdE X W0 mv) hc hN hi ok hg ht hk hv hs).imp (dc_read (B := X) rfl rfl hsub)
theorem Cs.dc {k : Nat} {N : List Str} {sc : Scope} {kx vx tg iter : Expr} {ifs : List Expr} {scope : Scope} {mi : MM (List D)} {f : TgF} {is : List Nat} {tests : MT} {mk mv : ME} {Tx : Program → World → PySem.W.Frag → (Str → Option Value) → Heap → Prop} (C : Cs X W k N sc) (T : Tx X.prog X.w X.K X.mg X.base) (own : List (Str × Nat)) (hi : JI X W tg iter mi) (ok : blkC N sc scope own = true)
    (hb : ∀ (Y : Cx), Tx Y.prog Y.w Y.K Y.mg Y.base → Cs Y W0 k N (relS scope sc) → JG Y tg f is ∧ JTs Y W0 ifs tests ∧ JE Y W0 kx mk ∧ JE Y W0 vx mv) (hsub : (is.all fun j => (own.map (·.2)).contains j) = true) (hs : ∀ x, foldedSetIterable iter X.env x = pure x := by intro _; rfl) :
    JE X W (.DictComp kx vx [⟨tg, iter, ifs, 0⟩] scope pos) (mDc mi f tests mk mv (own.map (·.2))) := by
  have at_ := fun s H c cl fp => hb (X.blk s H scope (compEnvC scope cl c X.env) fp) T (C.blk scope s H c cl fp)
  exact je_dc C.calm (by rw [C.hN]; exact C.nd) hi (by rw [C.hN, C.hsc]; exact blkOk_by ok) (fun s H c cl fp => (at_ s H c cl fp).1) (fun s H c cl fp => (at_ s H c cl fp).2.1) (fun s H c cl fp => (at_ s H c cl fp).2.2.1) (fun s H c cl fp => (at_ s H c cl fp).2.2.2) (fun j hj => by simpa using List.all_eq_true.mp hsub j hj) hs
section
variable {k : Nat} {N : List Str} {sc : Scope} {o i value : Expr} {oo oi : Opn} {m : ME} {p p' apos cpos tpos : Pos} {es : List Expr}
theorem Cs.getD (C : Cs X W k N sc) (ha : JO X W o oo) (hb : JO X W i oi) (hs : NoSl i) : JE X W (.Subscript o i pos) (m2 gGetD oo oi) := je_getD (by have := C.hu; omega) ha hb hs
theorem Cs.items {x : Str} {i : Nat} {elts : List Expr} {kk : Nat} (C : Cs X W k N sc) (h : varC N sc i x = true) (hbase : attributeBase (.Name x p) "items" X.env (eval (.Name x p) X.env) = eval (.Name x p) X.env := by rfl) (hline : (apos.endLine == cpos.line) = true := by rfl) :
    JI X W (.Tuple elts kk tpos) (.Call (.Attribute (.Name x p) "items" apos) [] [] cpos) (mItems i) := ji_items (C.var h) hbase hline
end
end
end FL
namespace FL
open PySem L2
noncomputable def bSource : MS := (mSeq (mSet 2 (mIf (mTb (m2 (gEq true) (.v 0) (.e (mLst [])))) (m2 gIxL (.v 0) (.e (m2 gMod (.v 1) (.e (mC gLen [(.v 0)]))))) (mD (.int 1))))
    (mRet (mShare (mLst [(mV 2), (m2 gMulA (.e (mD (.int 3))) (.v 1)), (mIf (mTb (m2 gGe (.v 2) (.e (m2 gPow (.e (mD (.int 10))) (.e (mD (.int 18))))))) (m2 gDiv (.v 2) (.e (m2 gPow (.e (mD (.int 10))) (.e (mD (.int 18)))))) (mD (.int 0)))]))))
noncomputable def bNext : MS := (mSeq (mIfS (mTb (m2 gGt (.e (m2 gIxL (.v 0) (.e (mD (.int 2))))) (.e (mD (.int 0))))) (mSeq (mSet 2 (m2 gMod (.e (m2 gIxL (.v 0) (.e (mD (.int 2))))) (.v 1)))
    (mSeq (mSetI gSetL (.v 0) (.e (mD (.int 2))) (m2 gDiv (.e (m2 gIxL (.v 0) (.e (mD (.int 2))))) (.v 1)))
    (mRet (mV 2))))
    mPass)
    (mSeq (mSetI gSetL (.v 0) (.e (mD (.int 1))) (m2 gAdd (.e (m2 gIxL (.v 0) (.e (mD (.int 1))))) (.e (mD (.int 1)))))
    (mSeq (mSet 3 (mLst [(mD (.int 2147483647)), (mD (.int 2147483629)), (mD (.int 2147483587)), (mD (.int 2147483579)), (mD (.int 2147483563)), (mD (.int 2147483549)), (mD (.int 2147483543)), (mD (.int 2147483497))]))
    (mSeq (mSet 4 (m2 gIxL (.e (m2 gAdd (.v 3) (.e (mLst [(mD (.int 2147483489)), (mD (.int 2147483477)), (mD (.int 2147483423))])))) (.e (m2 gMod (.e (m2 gIxL (.v 0) (.e (mD (.int 1))))) (.e (mD (.int 11)))))))
    (mRet (m2 gMod (.e (m2 gDiv (.e (m2 gMod (.e (m2 gPow (.e (m2 gAdd (.e (m2 gAdd (.e (m2 gMod (.e (m2 gIxL (.v 0) (.e (mD (.int 0))))) (.v 4))) (.e (m2 gMulA (.e (mD (.int 7919))) (.e (m2 gIxL (.v 0) (.e (mD (.int 1))))))))) (.e (mD (.int 1))))) (.e (mD (.int 5))))) (.v 4))) (.e (mD (.int 13))))) (.v 1)))))))
noncomputable def mNext : MF := mFn 5 bNext
noncomputable def mSource : MF := mFn 3 bSource
noncomputable def bPick : MS := (mRet (m2 gIxL (.v 1) (.e (mCall mNext [(mV 0), (mC gLen [(.v 1)])] []))))
noncomputable def mPick : MF := mFn 2 bPick
def Src (μ : Mem) (j : Nat) (B : Int) : Prop := ∃ c i g : Int, μ[j]? = some (.lst [.int c, .int i, .int g]) ∧ 0 ≤ i ∧ i ≤ B ∧ 0 ≤ g
theorem Src.mono {μ : Mem} {j : Nat} {B B' : Int} (h : Src μ j B) (hb : B ≤ B') : Src μ j B' := by
  obtain ⟨c, i, g, h1, h2, h3, h4⟩ := h
  exact ⟨c, i, g, h1, h2, by omega, h4⟩
theorem Fr.refl {j : Nat} {μ : Mem} : Fr j μ μ := ⟨rfl, fun _ _ => rfl⟩
theorem ix0 {a b c : D} : L2.atI [a, b, c] 0 = some a := rfl
theorem ix1 {a b c : D} : L2.atI [a, b, c] 1 = some b := rfl
theorem ix2 {a b c : D} : L2.atI [a, b, c] 2 = some c := rfl
theorem ixn1 : ixN 3 1 = some 1 := rfl
theorem ixn2 : ixN 3 2 = some 2 := rfl
def primes : List Int := [2147483647, 2147483629, 2147483587, 2147483579, 2147483563, 2147483549, 2147483543, 2147483497, 2147483489, 2147483477, 2147483423]
theorem primes_at (r : Int) (h0 : 0 ≤ r) (h1 : r < 11) : ∃ p : Int, L2.atI (primes.map D.int) r = some (.int p) ∧ 2147483423 ≤ p ∧ p ≤ 2147483647 := by
  have e : r = 0 ∨ r = 1 ∨ r = 2 ∨ r = 3 ∨ r = 4 ∨ r = 5 ∨ r = 6 ∨ r = 7 ∨ r = 8 ∨ r = 9 ∨ r = 10 := by omega
  rcases e with rfl | rfl | rfl | rfl | rfl | rfl | rfl | rfl | rfl | rfl | rfl <;> exact ⟨_, rfl, by decide, by decide⟩
theorem next_spec {μ : Mem} {j : Nat} {n B : Int} (h : Src μ j B) (hB : B ≤ 2 ^ 40) (h0 : 0 < n) (hn : n ≤ 2 ^ 63) :
    ∃ r μ', mNext [.obj j, .int n] μ = .ok (.fr (.int r)) μ' ∧ 0 ≤ r ∧ r < n ∧ Src μ' j (B + 1) ∧ Fr j μ μ' := by
  obtain ⟨c, i, g, hm, i0, iB, g0⟩ := h
  have hj : j < μ.length := (List.getElem?_eq_some_iff.mp hm).1
  have hlog : n.natAbs.log2 < 9000 := by
    have : n.natAbs < 2 ^ 64 := by omega
    have := (Nat.log2_lt (by omega)).mpr this
    omega
  by_cases hg : 0 < g
  · refine ⟨g % n, μ.set j (.lst [.int c, .int i, .int (g / n)]), ?_, Int.emod_nonneg _ (by omega), Int.emod_lt_of_pos _ h0, ⟨c, i, g / n, by simp [hj], i0, by omega, Int.ediv_nonneg g0 (by omega)⟩, .set⟩
    simp [mNext, bNext, mFn_eq, mSeq, mIfS, mTb, m2, Opn.ev, mSet, mRet, mV, mD, mSetI, OR.at, look, startD, Out.bind, Out.thn, OutS.seq, OutS.fin, Slot.d, Own.d, lift, hm, gGt, gGtI, gTx, gInt, gMod, gDiv, gIxL, ix2, hg, h0, hlog, recv, gSetL, ixn2]
  · have e0 : g = 0 := by omega
    subst e0
    have hr0 : 0 ≤ (i + 1) % 11 := Int.emod_nonneg _ (by decide)
    have hr1 : (i + 1) % 11 < 11 := Int.emod_lt_of_pos _ (by decide)
    obtain ⟨p, ep, p0, p1⟩ := primes_at _ hr0 hr1
    have hc0 : 0 ≤ c % p := Int.emod_nonneg _ (by omega)
    have hc1 : c % p < p := Int.emod_lt_of_pos _ (by omega)
    have hbase : (c % p + 7919 * (i + 1) + 1).natAbs < 2 ^ 64 := by omega
    have hmul : Nat.log2 7919 + (i + 1).natAbs.log2 < 1000000 := by
      have h1 : Nat.log2 7919 = 12 := by decide +kernel
      have h2 : (i + 1).natAbs.log2 < 64 := (Nat.log2_lt (by omega)).mpr (by omega)
      omega
    have hp9 : 0 < p := by omega
    refine ⟨(c % p + 7919 * (i + 1) + 1) ^ 5 % p / 13 % n, μ.set j (.lst [.int c, .int (i + 1), .int 0]), ?_, Int.emod_nonneg _ (by omega), Int.emod_lt_of_pos _ h0, ⟨c, i + 1, 0, by simp [hj], by omega, by omega, by omega⟩, .set⟩
    have ep' : L2.atI [D.int 2147483647, .int 2147483629, .int 2147483587, .int 2147483579, .int 2147483563, .int 2147483549, .int 2147483543, .int 2147483497, .int 2147483489, .int 2147483477, .int 2147483423] ((i + 1) % 11) = some (.int p) := ep
    have hs : ∀ c : Own, (μ.set j c)[j]? = some c := fun c => List.getElem?_set_self hj
    have l13 : Nat.log2 13 < 9000 := by decide +kernel
    simp [mNext, bNext, mFn_eq, mSeq, mIfS, mTb, m2, Opn.ev, mSet, mRet, mV, mD, mSetI, mLst, evA, mPass, OR.at, look, startD, Out.bind, Out.thn, OutS.seq, OutS.fin, Slot.d, Own.d, lift, hm, hs, gGt, gGtI, gTx, gInt, gMod, gDiv, gPow, gMulA, gMul, gAdd, gAddS, gAddL, gAddT, gIxL, ix0, ix1, ix2, h0, hlog, recv, gSetL, ixn1, ep', hp9, hbase, hmul, l13]
theorem atI_nat {α : Type} {xs : List α} {r : Int} (h0 : 0 ≤ r) (h1 : r < xs.length) : ∃ x, L2.atI xs r = some x ∧ x ∈ xs := by
  have hr : r.toNat < xs.length := by omega
  refine ⟨xs[r.toNat], ?_, List.getElem_mem hr⟩
  unfold L2.atI ixN
  simp [h0, h1, hr]
theorem pick_lst {μ : Mem} {j : Nat} {B : Int} {xs : List D} (h : Src μ j B) (hB : B ≤ 2 ^ 40) (h0 : xs ≠ []) (hn : xs.length ≤ 2 ^ 24) :
    ∃ x μ', x ∈ xs ∧ mPick [.obj j, .lst xs] μ = .ok (.fr x) μ' ∧ Src μ' j (B + 1) ∧ Fr j μ μ' := by
  have hl : 0 < xs.length := List.length_pos_iff.mpr h0
  obtain ⟨r, μ', e, r0, r1, hs, hf⟩ := next_spec (n := xs.length) h hB (by omega) (by omega)
  obtain ⟨x, ex, hx⟩ := atI_nat r0 r1
  refine ⟨x, μ', hx, ?_, hs, hf⟩
  simp [mPick, bPick, mFn_eq, mRet, m2, Opn.ev, mCall, evA, mV, mC, evs, OR.ats, OR.at, look, startD, Out.bind, Out.thn, OutS.fin, Slot.d, gLen, gLen1, lift, e, gIxL, ex]
theorem pys_ints (ns : List Int) : D.pys (ns.map D.int) = some (ns.map PyData.int) := by
  induction ns with
  | nil => rfl
  | cons n ns ih => simp [D.pys, D.py, ih]
theorem canLay_ints (ns : List Int) : PyData.canLayAll0 (ns.map PyData.int) = true := by
  induction ns with
  | nil => simp [PyData.canLayAll0]
  | cons n ns ih => simp [PyData.canLayAll0, PyData.canLay0, ih]
theorem depth_ints (ns : List Int) : PyData.depthAll (ns.map PyData.int) = 0 := by
  induction ns with
  | nil => simp [PyData.depthAll]
  | cons n ns ih => simp [PyData.depthAll, PyData.depth, ih]
theorem shaped_ints (ns : List Int) : SeqAt.shaped (.list (ns.map PyData.int)) = true := by
  simp [SeqAt.shaped, PyData.canLay0, PyData.depth, canLay_ints, depth_ints]
theorem eq_ints_nil (neg : Bool) (ns : List Int) : gEq neg (.ro (ns.map .int)) (.lst []) = some (tb (decide (ns = []) != neg)) := by
  have h := shaped_ints ns
  have h0 := shaped_ints []
  have e : PyData.eqvAll (ns.map PyData.int) [] = decide (ns = []) := by cases ns <;> simp [PyData.eqvAll]
  simp only [List.map_nil] at h0
  simp [gEq, eqS, eqP, D.py, pys_ints, D.pys, h, h0, PyData.eqv, e]
theorem source_spec {ns : List Int} {k : Int} {μ : Mem} (hl : ns.length ≤ 63) (h0 : 0 ≤ k) (hk : k ≤ 2 ^ 40) :
    ∃ c g, 0 ≤ g ∧ mSource [.ro (ns.map .int), .int k] μ = .ok (.fr (.obj μ.length)) (μ ++ [.lst [.int c, .int (3 * k), .int g]]) := by
  have hmul : Nat.log2 3 + k.natAbs.log2 < 1000000 := by
    have h1 : Nat.log2 3 = 1 := by decide +kernel
    by_cases hz : k.natAbs = 0
    · rw [hz, h1]; decide +kernel
    · have h2 : k.natAbs.log2 < 64 := (Nat.log2_lt hz).mpr (by omega)
      omega
  have l10 : Nat.log2 1000000000000000000 < 9000 := by decide +kernel
  have core : ∀ c : Int, (ns = [] ∧ c = 1 ∨ ns ≠ [] ∧ L2.atI (ns.map D.int) (k % (ns.length : Int)) = some (.int c)) →
      ∃ g, 0 ≤ g ∧ mSource [.ro (ns.map .int), .int k] μ = .ok (.fr (.obj μ.length)) (μ ++ [.lst [.int c, .int (3 * k), .int g]]) := by
    intro c hc
    by_cases hb : 1000000000000000000 ≤ c
    · refine ⟨c / 1000000000000000000, Int.ediv_nonneg (by omega) (by decide), ?_⟩
      rcases hc with ⟨rfl, rfl⟩ | ⟨hne, hat⟩
      · omega
      · have hp := List.length_pos_iff.mpr hne
        simp [mSource, bSource, mFn_eq, mSeq, mIf, mTb, m2, Opn.ev, mSet, mRet, mV, mD, mLst, mShare, mC, evs, evA, OR.at, OR.ats, look, startD, Out.bind, Out.thn, OutS.seq, OutS.fin, Slot.d, Own.d, lift, eq_ints_nil, hne, gLen, gLen1, gMod, gInt, hp, gIxL, hat, gMulA, gMul, hmul, gGe, gGeI, gPow, gDiv, l10, hb]
    · refine ⟨0, by decide, ?_⟩
      rcases hc with ⟨rfl, rfl⟩ | ⟨hne, hat⟩
      · have e0 : gEq true (.ro []) (.lst []) = some (tb false) := eq_ints_nil true []
        simp [mSource, bSource, mFn_eq, mSeq, mIf, mTb, m2, Opn.ev, mSet, mRet, mV, mD, mLst, mShare, mC, evs, evA, OR.at, OR.ats, look, startD, Out.bind, Out.thn, OutS.seq, OutS.fin, Slot.d, Own.d, lift, e0, gLen, gLen1, gMod, gInt, gIxL, gMulA, gMul, hmul, gGe, gGeI, gPow, gDiv, l10, hb]
      · have hp := List.length_pos_iff.mpr hne
        simp [mSource, bSource, mFn_eq, mSeq, mIf, mTb, m2, Opn.ev, mSet, mRet, mV, mD, mLst, mShare, mC, evs, evA, OR.at, OR.ats, look, startD, Out.bind, Out.thn, OutS.seq, OutS.fin, Slot.d, Own.d, lift, eq_ints_nil, hne, gLen, gLen1, gMod, gInt, hp, gIxL, hat, gMulA, gMul, hmul, gGe, gGeI, gPow, gDiv, l10, hb]
  by_cases hne : ns = []
  · obtain ⟨g, g0, e⟩ := core 1 (.inl ⟨hne, rfl⟩)
    exact ⟨1, g, g0, e⟩
  · have hp : 0 < (ns.length : Int) := by have := List.length_pos_iff.mpr hne; omega
    obtain ⟨x, ex, hx⟩ := atI_nat (xs := ns.map D.int) (r := k % (ns.length : Int)) (Int.emod_nonneg _ (by omega)) (by rw [List.length_map]; exact Int.emod_lt_of_pos _ hp)
    obtain ⟨c, _, rfl⟩ := List.mem_map.mp hx
    obtain ⟨g, g0, e⟩ := core c (.inr ⟨hne, ex⟩)
    exact ⟨c, g, g0, e⟩
end FL
namespace FL
open PySem L2
abbrev lo1 := PyProof.Rows.lo1
def WS : Tx := lit "abcdefghijklmnopqrstuvwxyz0123456789"
theorem ws_eq : lit "abcdefghijklmnopqrstuvwxyz0123456789" = WS := rfl
def stepW (st : List Tx × Tx) (c : Nat) : List Tx × Tx :=
  if c ∈ WS then (if (st.2 ++ [c]).length = 20 then (st.1 ++ [st.2 ++ [c]], []) else (st.1, st.2 ++ [c]))
  else if st.2 = [] then (st.1, []) else (st.1 ++ [st.2], [])
def finW (st : List Tx × Tx) : List Tx := if st.2 = [] then st.1 else st.1 ++ [st.2]
def wordsL (y : Tx) : List Tx := finW (y.foldl stepW ([], []))
end FL
namespace FL
open PySem L2
theorem lcD_cons {f : TgF} {t : MT} {m : ME} {vs : List Nat} {d : D} {ds acc : List D} {δ : FL.Loc} {μ : Mem} : lcD f t m vs (d :: ds) acc δ μ = (match f d δ with
    | none => .bad
    | some δ' => (t δ' μ).cut.bind fun b δ2 μ2 => if b = true then (m δ2 μ2).cut.bind fun s δ3 μ3 => if acc.length < 16777216 then lcD f t m vs ds (acc ++ [s.d]) (wipeD δ3 vs) μ3 else .bad
      else lcD f t m vs ds acc (wipeD δ2 vs) μ2) := rfl
theorem kitB_ss : kitB "str" "str" = some true := by kernel_rfl
theorem stepW_pre (f f' : List Tx) (r : Tx) (c : Nat) : stepW (f ++ f', r) c = (f ++ (stepW (f', r) c).1, (stepW (f', r) c).2) := by
  unfold stepW
  dsimp only
  split
  · split <;> simp
  · split <;> simp
theorem foldW_pre (y : Tx) : ∀ (f f' : List Tx) (r : Tx), y.foldl stepW (f ++ f', r) = (f ++ (y.foldl stepW (f', r)).1, (y.foldl stepW (f', r)).2) := by
  induction y with
  | nil => intro f f' r; rfl
  | cons c y ih =>
    intro f f' r
    rw [List.foldl_cons, List.foldl_cons, stepW_pre]
    exact ih f _ _
theorem finW_pre (f : List Tx) (st : List Tx × Tx) : finW (f ++ st.1, st.2) = f ++ finW st := by
  unfold finW
  dsimp only
  split <;> simp
theorem foldW_gap {g : Tx} (hg : ∀ c ∈ g, c ∉ WS) (h0 : g ≠ []) : ∀ st : List Tx × Tx, g.foldl stepW st = (finW st, []) := by
  have key : ∀ (g : Tx), (∀ c ∈ g, c ∉ WS) → ∀ f : List Tx, g.foldl stepW (f, []) = (f, []) := by
    intro g
    induction g with
    | nil => intro _ f; rfl
    | cons c g ih =>
      intro h f
      have hc : c ∉ WS := h c (List.mem_cons_self ..)
      rw [List.foldl_cons]
      have e : stepW (f, []) c = (f, []) := by unfold stepW; simp [hc]
      rw [e]
      exact ih (fun d hd => h d (List.mem_cons_of_mem _ hd)) f
  cases g with
  | nil => exact absurd rfl h0
  | cons c g =>
    intro st
    have hc : c ∉ WS := hg c (List.mem_cons_self ..)
    rw [List.foldl_cons]
    have e : stepW st c = (finW st, []) := by
      unfold stepW finW
      rw [if_neg hc]
      split <;> rfl
    rw [e]
    exact key g (fun d hd => hg d (List.mem_cons_of_mem _ hd)) _
theorem wordsL_gap {x g y : Tx} (hg : ∀ c ∈ g, c ∉ WS) (h0 : g ≠ []) : wordsL (x ++ g ++ y) = wordsL x ++ wordsL y := by
  unfold wordsL
  rw [List.foldl_append, List.foldl_append, foldW_gap hg h0]
  generalize finW (x.foldl stepW ([], [])) = f
  have := foldW_pre y f [] []
  rw [List.append_nil] at this
  rw [this, finW_pre]
theorem wordsL_nil : wordsL [] = [] := rfl
theorem wordsL_gap1 {x g : Tx} (hg : ∀ c ∈ g, c ∉ WS) (h0 : g ≠ []) : wordsL (x ++ g) = wordsL x := by
  have := wordsL_gap (x := x) (y := []) hg h0
  simpa [wordsL_nil] using this
theorem foldW_run {x : Tx} (hx : ∀ c ∈ x, c ∈ WS) : ∀ (f : List Tx) (r : Tx), r.length < 20 → (∀ p ∈ f, p.length = 20) →
    ∃ f' r', x.foldl stepW (f, r) = (f', r') ∧ f'.flatten ++ r' = f.flatten ++ r ++ x ∧ (∀ p ∈ f', p.length = 20) ∧ r'.length < 20 := by
  induction x with
  | nil => intro f r hr hf; exact ⟨f, r, rfl, by simp, hf, hr⟩
  | cons c x ih =>
    intro f r hr hf
    have hc : c ∈ WS := hx c (List.mem_cons_self ..)
    have ih := ih fun d hd => hx d (List.mem_cons_of_mem _ hd)
    rw [List.foldl_cons]
    unfold stepW
    rw [if_pos hc]
    by_cases hl : (r ++ [c]).length = 20
    · rw [if_pos hl]
      obtain ⟨f', r', e, h1, h2, h3⟩ := ih (f ++ [r ++ [c]]) [] (by simp) (fun p hp => by
        rcases List.mem_append.mp hp with hp | hp
        · exact hf p hp
        · rw [List.mem_singleton.mp hp]; exact hl)
      exact ⟨f', r', e, by rw [h1]; simp, h2, h3⟩
    · rw [if_neg hl]
      have hl' : (r ++ [c]).length < 20 := by simp at hl ⊢; omega
      obtain ⟨f', r', e, h1, h2, h3⟩ := ih f (r ++ [c]) hl' hf
      exact ⟨f', r', e, by rw [h1]; simp, h2, h3⟩
theorem flat_len {f : List Tx} (h : ∀ p ∈ f, p.length = 20) : f.flatten.length = 20 * f.length := by
  induction f with
  | nil => rfl
  | cons p f ih =>
    rw [List.flatten_cons, List.length_append, List.length_cons, h p (List.mem_cons_self ..), ih fun q hq => h q (List.mem_cons_of_mem _ hq)]
    omega
theorem wordsL_run {x : Tx} (hx : ∀ c ∈ x, c ∈ WS) (h0 : x ≠ []) : ∃ f l, wordsL x = f ++ [l] ∧ (f ++ [l]).flatten = x ∧ (∀ p ∈ f, p.length = 20) ∧ 1 ≤ l.length ∧ l.length ≤ 20 ∧ (f.length + 1) = (x.length + 19) / 20 := by
  obtain ⟨f, r, e, h1, h2, h3⟩ := foldW_run hx [] [] (by simp) (by simp)
  have hlen := congrArg List.length h1
  simp only [List.flatten_nil, List.nil_append, List.length_append, flat_len h2] at hlen
  have hx0 := List.length_pos_iff.mpr h0
  unfold wordsL
  rw [e]
  unfold finW
  by_cases hr : r = []
  · subst hr
    rw [if_pos rfl]
    simp only [List.length_nil, Nat.add_zero] at hlen
    have hf : f ≠ [] := by rintro rfl; simp at hlen; omega
    have ef := (List.dropLast_concat_getLast hf).symm
    refine ⟨f.dropLast, f.getLast hf, ef, by rw [← ef]; simpa using h1, fun p hp => h2 p ((List.dropLast_sublist f).subset hp), by rw [h2 _ (List.getLast_mem hf)]; decide, by rw [h2 _ (List.getLast_mem hf)]; decide, ?_⟩
    have := List.length_pos_iff.mpr hf
    rw [List.length_dropLast]
    omega
  · rw [if_neg hr]
    have hr0 := List.length_pos_iff.mpr hr
    exact ⟨f, r, rfl, by rw [List.flatten_append]; simpa using h1, h2, hr0, by omega, by omega⟩
theorem joinT_len (g : Tx) : ∀ ws : List Tx, (joinT g ws).length ≤ (ws.map List.length).sum + g.length * ws.length
  | [] => by simp [joinT]
  | [w] => by simp [joinT]
  | w :: v :: r => by
    have ih := joinT_len g (v :: r)
    show (w ++ g ++ joinT g (v :: r)).length ≤ _
    simp only [List.length_append, List.map_cons, List.sum_cons, List.length_cons] at ih ⊢
    have : g.length * (r.length + 1 + 1) = g.length * (r.length + 1) + g.length := by rw [Nat.mul_add, Nat.mul_one]
    omega
theorem pys_strs (xs : List Tx) : D.pys (xs.map D.str) = some (xs.map fun x => PyData.str (toS x)) := by
  induction xs with
  | nil => rfl
  | cons n ns ih => simp [D.pys, D.py, ih]
theorem strOk_ascii {x : Tx} (h : ∀ c ∈ x, c < 128) : PyData.canLay0 (.str (toS x)) = true := by
  simp only [PyData.canLay0, PyData.strOk, toS]
  simp only [List.all_toArray, List.all_eq_true, decide_eq_true_eq]
  intro c hc
  have := h c hc
  omega
theorem shaped_strs {xs : List Tx} (h : ∀ x ∈ xs, ∀ c ∈ x, c < 128) : SeqAt.shaped (.list (xs.map fun x => PyData.str (toS x))) = true := by
  have h1 : PyData.canLayAll0 (xs.map fun x => PyData.str (toS x)) = true := by
    induction xs with
    | nil => simp [PyData.canLayAll0]
    | cons x xs ih =>
      rw [List.map_cons]
      simp only [PyData.canLayAll0, strOk_ascii (h x (List.mem_cons_self ..)), ih fun y hy => h y (List.mem_cons_of_mem _ hy), Bool.and_self]
  have h2 : PyData.depthAll (xs.map fun x => PyData.str (toS x)) = 0 := by
    clear h h1
    induction xs with
    | nil => simp [PyData.depthAll]
    | cons x xs ih => rw [List.map_cons]; simp [PyData.depthAll, PyData.depth, ih]
  simp [SeqAt.shaped, PyData.canLay0, PyData.depth, h1, h2]
theorem eqv_strs : ∀ xs ys : List Tx, PyData.eqvAll (xs.map fun x => PyData.str (toS x)) (ys.map fun x => PyData.str (toS x)) = decide (xs = ys)
  | [], [] => by simp [PyData.eqvAll]
  | [], _ :: _ => by simp [PyData.eqvAll]
  | _ :: _, [] => by simp [PyData.eqvAll]
  | x :: xs, y :: ys => by
    rw [List.map_cons, List.map_cons]
    simp only [PyData.eqvAll, PyData.eqv, eqv_strs xs ys]
    by_cases e : x = y
    · subst e; simp
    · have n : ¬ toS x = toS y := fun z => e (toS_inj z)
      simp [e, n]
theorem eq_strs (neg : Bool) {xs ys : List Tx} (hx : ∀ x ∈ xs, ∀ c ∈ x, c < 128) (hy : ∀ x ∈ ys, ∀ c ∈ x, c < 128) :
    gEq neg (.lst (xs.map .str)) (.lst (ys.map .str)) = some (tb (decide (xs = ys) != neg)) := by
  simp [gEq, eqS, eqP, D.py, pys_strs, shaped_strs hx, shaped_strs hy, PyData.eqv, eqv_strs]
theorem joinT_mem {g : Tx} {c : Nat} : ∀ {ws : List Tx}, c ∈ joinT g ws → c ∈ g ∨ ∃ w ∈ ws, c ∈ w
  | [], h => by simp [joinT] at h
  | [w], h => .inr ⟨w, by simp, h⟩
  | w :: v :: r, h => by
    have h : c ∈ w ++ g ++ joinT g (v :: r) := h
    rcases List.mem_append.mp h with h | h
    · rcases List.mem_append.mp h with h | h
      · exact .inr ⟨w, by simp, h⟩
      · exact .inl h
    · rcases joinT_mem h with h | ⟨u, hu, h⟩
      · exact .inl h
      · exact .inr ⟨u, List.mem_cons_of_mem _ hu, h⟩
end FL
namespace FL
open PySem L2
theorem Sh.mono {d n e m : Nat} {x : D} (h : Sh d n x) (h1 : d ≤ e) (h2 : n ≤ m) : Sh e m x :=
  let ⟨q, a, b, c, l, g, k⟩ := h
  ⟨q, a, b, c, l, Nat.le_trans g h1, Nat.le_trans k h2⟩
theorem small_str : ∀ k : Fin 26, (PyData.shown (.str (toS [97 + k.val]))).length ≤ 3 := by decide +kernel
theorem Sh.letter {c : Nat} (h0 : 97 ≤ c) (h1 : c < 123) : Sh 0 3 (.str [c]) := by
  have := small_str ⟨c - 97, by omega⟩
  have e : 97 + (c - 97) = c := by omega
  simp only [e] at this
  exact ⟨.str (toS [c]), rfl, by simp [PyData.showable], by simp [PyData.hasDict], by simp only [PyData.canLay0]; exact strOk_ascii fun x hx => by simp at hx; omega, by simp [PyData.depth], this⟩
theorem Sh.rep {d n : Nat} {x : D} (h : Sh d n x) (h1 : d ≤ 64) (h2 : n ≤ 16777216) : ∃ t, gRepr [x] = some (.fr (.str t)) := by
  obtain ⟨q, a, b, c, l, g, k⟩ := h
  have k' : (PyData.shown q).length ≤ 16777216 := by omega
  have g' : q.depth ≤ 64 := by omega
  exact ⟨_, by simp only [gRepr, a, b, c]; rw [if_pos (by simp [k', g'])]⟩
theorem Sh.same {d n : Nat} {x : D} (neg : Bool) (h : Sh d n x) (h1 : d ≤ 64) (h2 : eqS x x = none) : gEq neg x x = some (tb (true != neg)) := by
  obtain ⟨q, a, b, c, l, g, k⟩ := h
  have s : SeqAt.shaped q = true := by
    unfold SeqAt.shaped
    rw [l, decide_eq_true (show q.depth ≤ 64 by omega)]
    rfl
  simp [gEq, h2, eqP, a, s, SeqAt.eqv_refl q l]
end FL
namespace FL
open PySem PySem.Spec PyProof.Rows L2
def intT (i : Int) : Tx := (toString i : Str).cps.toList
theorem intT_toS (i : Int) : toS (intT i) = (toString i : Str) := by simp [intT, toS]
def mFmt (m : ME) : ME := fun δ μ => (m δ μ).bind fun s δ1 μ1 => match s.d with
  | .str y => if y.length ≤ 16777216 then .ok (.fr (.str y)) δ1 μ1 else .bad
  | .int i => if i.natAbs.log2 < 1920 then .ok (.fr (.str (intT i))) δ1 μ1 else .bad
  | _ => .bad
def joinM : List ME → Tx → ME
  | [], acc => fun δ μ => .ok (.fr (.str acc)) δ μ
  | m :: ms, acc => fun δ μ => (m δ μ).bind fun s δ1 μ1 => match s.d with
    | .str y => if (acc ++ y).length ≤ 16777216 then joinM ms (acc ++ y) δ1 μ1 else .bad
    | _ => .bad
def mJoined (ms : List ME) : ME := joinM ms []
inductive JFs (X : Cx) (W : WX) : List Expr → List ME → Prop where
  | nil : JFs X W [] []
  | cons {e : Expr} {m : ME} {es : List Expr} {ms : List ME} (h : JE X W e m) (r : JFs X W es ms) : JFs X W (e :: es) (m :: ms)
section
variable {X : Cx} {W : WX} {e v1 v2 : Expr} {es rest : List Expr} {pos : Pos} {m : ME} {ms : List ME}
theorem je_fmt (he : JE X W e m) : JE X W (.FormattedValue e (-1) none pos) (mFmt m) := by
  refine (pe_fmt he.locked).imp fun σ H Q ⟨Z, F, ρ, μ, δ, S, q⟩ => ⟨Z, F, ρ, μ, δ, S, (FinE.bind q).imp fun s δ1 μ1 H1 F1 ρ1 l lr S1 ⟨_, _, _, z⟩ v rv => ?_⟩
  generalize s.d = d at z rv
  cases rv with
  | @str y =>
    have z : FinE X W Z F1 ρ1 σ _ (if y.length ≤ 16777216 then Out.ok (Slot.fr (.str y)) δ1 μ1 else .bad) := z
    by_cases c : y.length ≤ 16777216
    · rw [if_pos c] at z
      exact .inl ⟨_, rfl, by rw [line_eq]; simpa [toS, Str.length] using c, z H1 F1 ρ1 .refl .refl S1 _ (VR.fr' .str)⟩
    · rw [if_neg c] at z; exact z.elim
  | @int i =>
    have z : FinE X W Z F1 ρ1 σ _ (if i.natAbs.log2 < 1920 then Out.ok (Slot.fr (.str (intT i))) δ1 μ1 else .bad) := z
    by_cases c : i.natAbs.log2 < 1920
    · rw [if_pos c] at z
      refine .inr ⟨i, rfl, c, ?_⟩
      rw [← intT_toS]
      exact z H1 F1 ρ1 .refl .refl S1 _ (VR.fr' .str)
    · rw [if_neg c] at z; exact z.elim
  | _ => exact z.elim
theorem pj_of : ∀ {es : List Expr} {ms : List ME}, JFs X W es ms → PJ X es (ms.map fun m σ H Q => ∃ Z F ρ μ δ, Sim X.K X.mg Z F ρ μ δ σ H ∧ FinE X W Z F ρ σ (fun s δ' μ' F' ρ' H' => ∀ v, Rep X.K X.mg F' ρ' v s.d → Q v H') (m δ μ))
  | _, _, .nil => .nil
  | _, _, .cons h r => .cons h.locked (pj_of r)
theorem js_read : ∀ (ms : List ME) (acc : Tx) (Z F : Hp) (ρ : List Addr) (μ : Mem) (δ : FL.Loc) (σ : L2.St) (H : Hp) (Q : VK), Sim X.K X.mg Z F ρ μ δ σ H → FinE X W Z F ρ σ (fun s δ' _ F' ρ' H' => ∀ v, VR X.K X.mg Z F' ρ' δ' σ H' v s → Q v H') (joinM ms acc δ μ) →
    tJs (ms.map fun m σ H Q => ∃ Z F ρ μ δ, Sim X.K X.mg Z F ρ μ δ σ H ∧ FinE X W Z F ρ σ (fun s δ' μ' F' ρ' H' => ∀ v, Rep X.K X.mg F' ρ' v s.d → Q v H') (m δ μ)) (toS acc) σ H fun out H1 => Q (.str out) H1
  | [], acc, Z, F, ρ, μ, δ, σ, H, Q, S, q => q H F ρ .refl .refl S _ (VR.fr' .str)
  | m :: ms, acc, Z, F, ρ, μ, δ, σ, H, Q, S, q => by
    refine ⟨Z, F, ρ, μ, δ, S, (FinE.bind q).imp fun s δ1 μ1 H1 F1 ρ1 l lr S1 ⟨_, _, _, z⟩ v rv => ?_⟩
    generalize s.d = d at z rv
    cases rv with
    | @str y =>
      have z : FinE X W Z F1 ρ1 σ (fun s δ' _ F' ρ' H' => ∀ v, VR X.K X.mg Z F' ρ' δ' σ H' v s → Q v H') (if (acc ++ y).length ≤ 16777216 then joinM ms (acc ++ y) δ1 μ1 else .bad) := z
      by_cases c : (acc ++ y).length ≤ 16777216
      · rw [if_pos c] at z
        have e : toS acc ++ toS y = toS (acc ++ y) := by
          show (⟨_⟩ : Str) = _
          simp [toS]
        refine ⟨_, rfl, ?_, ?_⟩
        · rw [e, line_eq]; simpa [toS, Str.length] using c
        · rw [e]
          exact js_read ms (acc ++ y) Z F1 ρ1 μ1 δ1 σ H1 Q S1 z
      · rw [if_neg c] at z; exact z.elim
    | _ => exact z.elim
theorem je_joined (h : JFs X W (v1 :: v2 :: rest) ms) : JE X W (.JoinedStr (v1 :: v2 :: rest) pos) (mJoined ms) :=
  (pe_joined (pj_of h)).imp fun σ H Q ⟨Z, F, ρ, μ, δ, S, q⟩ => js_read ms [] Z F ρ μ δ σ H Q S q
end
end FL
namespace FL
open PySem PySem.Spec PyProof.Rows L2
def gStrI : List D → Option Slot
  | [.int i] => if i.natAbs.log2 < 1920 then some (.fr (.str (intT i))) else none
  | _ => none
abbrev rStrI : List V → Hp → VK → Prop := fun xs H Q => ∃ i, xs = [.int i] ∧ i.natAbs.log2 < 1920 ∧ Q (.str (toString i)) H
section
variable {X : Cx} {W : WX} {k : Nat} {N : List Str} {sc : Scope} {x : Str} {pos : Pos}
theorem j_strI : RLJ X rStrI gStrI := by
  intro Z F ρ μ δ σ H xs ds s Q S b e q
  unfold gStrI at e
  split at e
  · rename_i i
    by_cases c : i.natAbs.log2 < 1920
    · rw [if_pos c] at e
      cases e
      obtain ⟨v, rfl, hb⟩ := b.one
      cases hb.int
      refine ⟨i, rfl, c, ?_⟩
      rw [← intT_toS]
      exact q _ H F .refl S (VR.fr' .str)
    · rw [if_neg c] at e; cases e
  · cases e
def TupS (K : PySem.W.Frag) (mg : Str → Option Value) (x : Str) (xs : List Tx) : Prop :=
  ∃ (a : Addr) (o : Obj) (its : List Value) (n : Nat), mg x = some (.ref a) ∧ K.lookup a = some o ∧ o.cls = .type "tuple" ∧ o.data = .seq its.toArray n ∧ StrsAre its (xs.map toS) ∧ xs.length ≤ sizeLine
theorem vals_tx : ∀ {its : List Value} {xs : List Tx}, StrsAre its (xs.map toS) → Vals ((xs.map toS).map V.str) its
  | [], [], _ => .nil
  | _ :: _, x :: xs, h => by
    cases h with
    | cons y t r => exact .cons ⟨t, rfl⟩ (vals_tx r)
  | [], _ :: _, h => by cases h
  | _ :: _, [], h => by cases h
theorem Cs.gTupS {xs : List Tx} (C : Cs X W k N sc) (h : glC sc x = true) (hm : TupS X.K X.mg x xs) : JE X W (.Name x pos) (mD (.tup (xs.map .str))) := by
  obtain ⟨g1, g2, g3⟩ := C.gl h
  obtain ⟨a, o, its, n, e1, e2, e3, e4, e5, e6⟩ := hm
  refine je_mod g1 e1 (v := .ref a) rfl (fun F ρ => .tup (vs := (xs.map toS).map V.str) (.inr ⟨o, its.toArray, n, e2, e3, e4, ?_, by simpa using vals_tx e5⟩) (RepL.ofStrs _)) g2
  have l := (vals_tx e5).length
  rw [List.length_map, List.length_map] at l
  rw [List.size_toArray, ← l]
  exact e6
end
end FL
namespace FL
open PySem PySem.Spec PyProof.Rows L2
section
variable {K : PySem.W.Frag} {c f s : Str}
theorem tFld_ok (h : tFld c f K = true) : Cls K (He.ga K c) ∧ NoAttr K (He.ga K c) f :=
  let ⟨a, b⟩ := Bool.and_eq_true_iff.mp h
  ⟨He.cls_ok a, He.noat_ok b⟩
theorem tCon_ok (h : tCon c f s K = true) : Cls K (He.ga K c) ∧ ∃ u, Con K (He.ga K c) f (.str s) u := by
  obtain ⟨a, b⟩ := Bool.and_eq_true_iff.mp h
  refine ⟨He.cls_ok a, ?_⟩
  split at b
  · rename_i y t e
    obtain ⟨b1, b2⟩ := Bool.and_eq_true_iff.mp b
    obtain ⟨b2, b3⟩ := Bool.and_eq_true_iff.mp b2
    have b1 := of_decide_eq_true b1
    subst b1
    exact ⟨_, e, ⟨t, rfl⟩, of_decide_eq_true b2, by simpa using b3⟩
  · cases b
theorem tPrp_ok (h : tPrp c f K = true) : Cls K (He.ga K c) ∧ PropOf K (He.ga K c) f (He.ma K (He.ga K c) f) (fAdF K (c, some f)) := by
  obtain ⟨a, b⟩ := Bool.and_eq_true_iff.mp h
  obtain ⟨b1, b⟩ := Bool.and_eq_true_iff.mp b
  obtain ⟨b2, b⟩ := Bool.and_eq_true_iff.mp b
  obtain ⟨b3, b⟩ := Bool.and_eq_true_iff.mp b
  refine ⟨He.cls_ok a, of_decide_eq_true b1, of_decide_eq_true b2, of_decide_eq_true b3, ?_⟩
  split at b
  · rename_i g r e
    refine ⟨r, ?_⟩
    rw [e]
    have : fAdF K (c, some f) = g := by
      unfold fAdF
      rw [show He.fAd K (c, some f) = He.ma K (He.ga K c) f from rfl, e]
    rw [this]
  · cases b
theorem tInit_ok (h : tInit c f K = true) : fAdF K (c, some f) = He.ma K (He.ga K c) f := of_decide_eq_true h
theorem strsB_ok : ∀ {vs : List Value} {xs : List Str}, strsB vs xs = true → StrsAre vs xs
  | [], [], _ => .nil
  | .str y t :: vs, x :: xs, h => by
    obtain ⟨a, b⟩ := Bool.and_eq_true_iff.mp (show (decide (y = x) && strsB vs xs) = true from h)
    have a := of_decide_eq_true a
    subst a
    exact .cons y t (strsB_ok b)
  | [], _ :: _, h => by cases h
  | v :: _, [], h => by cases v <;> cases h
theorem tTup_ok {h : Heap} {mg : Str → Option Value} {x : Str} {xs : List Tx} (X : K.In h) (G : h.Ns mainGlobals mg) (t : tTup x (xs.map toS) K = true) : TupS K mg x xs := by
  unfold tTup at t
  split at t
  · rename_i a e
    split at t
    · rename_i T od its n sl lk
      obtain ⟨t1, t2⟩ := Bool.and_eq_true_iff.mp t
      obtain ⟨t2, t3⟩ := Bool.and_eq_true_iff.mp t2
      have t1 := of_decide_eq_true t1
      subst t1
      refine ⟨a, _, its.toList, n, PySem.W.mg_of X G e, lk, rfl, rfl, strsB_ok t2, ?_⟩
      have t3 := of_decide_eq_true t3
      rw [List.length_map] at t3
      rw [line_eq]
      omega
    · cases t
  · cases t
theorem tSup_ok {D B : Str} (t : tSup c D B f K = true) : ∃ cdC og, PySem.W.clsIn K (He.ga K c) = some cdC ∧ PySem.W.alongIn K f ((cdC.mro.dropWhile (· != .ref (He.ga K D))).drop 1) = some (some (.ref (fAdF K (B, some f)))) ∧ K.lookup (fAdF K (B, some f)) = some og ∧ og.cls = .type "function" ∧
    PySem.W.fnIn K (fAdF K (B, some f)) = true ∧ PySem.W.mroIn K (He.ga K c) (.ref (He.ga K D)) = some true := by
  obtain ⟨t1, t2⟩ := Bool.and_eq_true_iff.mp t
  obtain ⟨t2, t3⟩ := Bool.and_eq_true_iff.mp t2
  obtain ⟨t3, t4⟩ := Bool.and_eq_true_iff.mp t3
  split at t1
  · rename_i cd e1
    split at t2
    · rename_i T od dt sl e2
      have t2 := of_decide_eq_true t2
      subst t2
      exact ⟨cd, _, e1, of_decide_eq_true t1, e2, rfl, t3, of_decide_eq_true t4⟩
    · cases t2
  · cases t1
theorem tIsa_ok {d : Str} {b : Bool} (t : tIsa c d b K = true) : InsK K (He.ga K c) ∧ PySem.W.kitOne K (.ref (He.ga K c)) (.ref (He.ga K d)) = some b := by
  obtain ⟨a1, t⟩ := Bool.and_eq_true_iff.mp t
  obtain ⟨a2, t⟩ := Bool.and_eq_true_iff.mp t
  obtain ⟨a3, t⟩ := Bool.and_eq_true_iff.mp t
  obtain ⟨a4, t⟩ := Bool.and_eq_true_iff.mp t
  obtain ⟨a5, a6⟩ := Bool.and_eq_true_iff.mp t
  exact ⟨⟨He.cls_ok a1, of_decide_eq_true a2, of_decide_eq_true a3, of_decide_eq_true a4, of_decide_eq_true a5⟩, of_decide_eq_true a6⟩
theorem tIsb_ok {T : String} {d : Str} {b : Bool} (t : tIsb T d b K = true) : PySem.W.kitOne K (.type T) (.ref (He.ga K d)) = some b := of_decide_eq_true t
end
end FL
namespace FL
open PySem L2
section
variable {α β : Type} {a : α} {δ : FL.Loc} {μ : Mem} {x : Exc} {s : FL.Slot}
@[simp] theorem ev_l1 {k : MS} : (OutS.nx δ μ).loop k = k δ μ := rfl
@[simp] theorem ev_l2 {k : MS} : (OutS.ct δ μ).loop k = k δ μ := rfl
@[simp] theorem ev_l3 {k : MS} : (OutS.bk δ μ).loop k = .nx δ μ := rfl
@[simp] theorem ev_l4 {k : MS} : (OutS.rt s μ).loop k = .rt s μ := rfl
@[simp] theorem ev_l5 {k : MS} : (OutS.exc x δ μ).loop k = .exc x δ μ := rfl
@[simp] theorem ev_f1 : (OutS.nx δ μ).fin = .ok (.fr .non) μ := rfl
@[simp] theorem ev_f2 : (OutS.rt s μ).fin = .ok s μ := rfl
@[simp] theorem ev_f3 : (OutS.exc x δ μ).fin = .exc x μ := rfl
end
noncomputable def r1K (j : Int) (δ : FL.Loc) (μ : Mem) : Out (List D) := Classical.choose (sealed (if -(2 ^ 62) ≤ j ∧ j < 2 ^ 62 then Out.ok (rangeD 0 j.toNat) δ μ else .bad))
theorem r1K_eq {j : Int} {δ : FL.Loc} {μ : Mem} : r1K j δ μ = if -(2 ^ 62) ≤ j ∧ j < 2 ^ 62 then .ok (rangeD 0 j.toNat) δ μ else .bad := Classical.choose_spec (sealed _)
@[simp] theorem r1K_ok {j : Int} {δ : FL.Loc} {μ : Mem} (h1 : -1000000000 ≤ j) (h2 : j ≤ 1000000000) : r1K j δ μ = .ok (rangeD 0 j.toNat) δ μ := by rw [r1K_eq]; exact if_pos ⟨by omega, by omega⟩
section
variable {δ : FL.Loc} {μ : Mem} {m n : ME} {t u : MT} {p q : MS} {o oa ob oc : Opn} {os : List Opn} {ms : List ME} {d : D} {ds dds : List D} {i j k : Nat} {f : TgF} {g : D → D → Option FL.Slot}
@[simp] theorem ev_ats0 : OR.ats δ μ [] = some [] := rfl
@[simp] theorem ev_ats1 {r : OR} {rs : List OR} : OR.ats δ μ (r :: rs) = (match r.at δ μ, OR.ats δ μ rs with | some x, some xs => some (x :: xs) | _, _ => none) := rfl
@[simp] theorem ev_evs0 : evs [] δ μ = .ok [] δ μ := rfl
@[simp] theorem ev_evs1 : evs (o :: os) δ μ = (o.ev δ μ).bind fun r δ1 μ1 => (evs os δ1 μ1).bind fun rs δ2 μ2 => .ok (r :: rs) δ2 μ2 := rfl
@[simp] theorem ev_evA0 : evA [] δ μ = .ok [] δ μ := rfl
@[simp] theorem ev_evA1 : evA (m :: ms) δ μ = (m δ μ).bind fun s δ1 μ1 => (evA ms δ1 μ1).bind fun ds δ2 μ2 => .ok (s.d :: ds) δ2 μ2 := rfl
@[simp] theorem ev_lift1 {s : FL.Slot} : lift (some s) δ μ = .ok s δ μ := rfl
@[simp] theorem ev_2 : m2 g oa ob δ μ = (oa.ev δ μ).bind fun ra δ1 μ1 => (ob.ev δ1 μ1).bind fun rb δ2 μ2 => match ra.at δ2 μ2, rb.at δ2 μ2 with | some da, some db => lift (g da db) δ2 μ2 | _, _ => .bad := rfl
@[simp] theorem ev_Tb : mTb m δ μ = (m δ μ).bind fun s δ1 μ1 => match s with | .fr (.bl b) => .ok b δ1 μ1 | _ => .bad := rfl
@[simp] theorem ev_Not : mNot t δ μ = (t δ μ).bind fun b δ1 μ1 => .ok (!b) δ1 μ1 := rfl
@[simp] theorem ev_And : mAnd t u δ μ = (t δ μ).bind fun b δ1 μ1 => if b = true then u δ1 μ1 else .ok false δ1 μ1 := rfl
@[simp] theorem ev_Or : mOr t u δ μ = (t δ μ).bind fun b δ1 μ1 => if b = true then .ok true δ1 μ1 else u δ1 μ1 := rfl
@[simp] theorem ev_If : mIf t m n δ μ = (t δ μ).bind fun b δ1 μ1 => if b = true then m δ1 μ1 else n δ1 μ1 := rfl
@[simp] theorem ev_AndV : mAndV m n δ μ = (m δ μ).bind fun s δ1 μ1 => match s with | .fr (.bl true) => n δ1 μ1 | .fr (.bl false) => .ok (.fr (.bl false)) δ1 μ1 | _ => .bad := rfl
@[simp] theorem ev_OrV : mOrV m n δ μ = (m δ μ).bind fun s δ1 μ1 => match s with | .fr (.bl false) => n δ1 μ1 | .fr (.bl true) => .ok (.fr (.bl true)) δ1 μ1 | _ => .bad := rfl
@[simp] theorem ev_NotV : mNotV m δ μ = (m δ μ).bind fun s δ1 μ1 => match s with | .fr (.bl b) => .ok (.fr (.bl (!b))) δ1 μ1 | _ => .bad := rfl
@[simp] theorem ev_Tup : mTup ms δ μ = (evA ms δ μ).bind fun ds δ1 μ1 => if ds.length ≤ 16777216 then .ok (.fr (.tup ds)) δ1 μ1 else .bad := rfl
@[simp] theorem ev_Lst : mLst ms δ μ = (evA ms δ μ).bind fun ds δ1 μ1 => if ds.length ≤ 16777216 then .ok (.own (.lst ds)) δ1 μ1 else .bad := rfl
@[simp] theorem ev_Share : mShare m δ μ = (m δ μ).bind fun s δ1 μ1 => match s with | .own o => .ok (.fr (.obj μ1.length)) δ1 (μ1 ++ [o]) | _ => .bad := rfl
@[simp] theorem ev_C {g : List D → Option FL.Slot} : mC g os δ μ = (evs os δ μ).bind fun rs δ1 μ1 => match OR.ats δ1 μ1 rs with | some ds => lift (g ds) δ1 μ1 | none => .bad := rfl
@[simp] theorem ev_Pass : mPass δ μ = .nx δ μ := rfl
@[simp] theorem ev_Seq : mSeq p q δ μ = (p δ μ).seq q := rfl
@[simp] theorem ev_Ex : mEx m δ μ = (m δ μ).thn fun _ δ1 μ1 => .nx δ1 μ1 := rfl
@[simp] theorem ev_Ret : mRet m δ μ = (m δ μ).thn fun s _ μ1 => .rt s μ1 := rfl
@[simp] theorem ev_IfS : mIfS t p q δ μ = (t δ μ).thn fun b δ1 μ1 => if b = true then p δ1 μ1 else q δ1 μ1 := rfl
@[simp] theorem ev_P : mP m δ μ = (m δ μ).bind fun s δ1 μ1 => match s with | .fr (.int i) => .ok (some i) δ1 μ1 | _ => .bad := rfl
@[simp] theorem ev_Mut {T : String} {g : Own → List D → Option (D × Own)} : mMut T g o ms δ μ = (o.ev δ μ).bind fun r δ1 μ1 => match recv δ1 μ1 r with | some (c0, _) => if ownTy T c0 = true then (evA ms δ1 μ1).bind fun ds δ2 μ2 => (match recv δ2 μ2 r with | some (c, w) => (match g c ds with | some (d, c') => .ok (.fr d) (w c').1 (w c').2 | none => .bad) | none => .bad) else .bad | none => .bad := rfl
@[simp] theorem ev_SetI {g : Own → D → D → Option Own} : mSetI g oa ob m δ μ = (m δ μ).thn fun s δ1 μ1 => (oa.ev δ1 μ1).thn fun r δ2 μ2 => (ob.ev δ2 μ2).thn fun ri δ3 μ3 => match recv δ3 μ3 r, ri.at δ3 μ3 with | some (c, w), some di => (match g c di s.d with | some c' => .nx (w c').1 (w c').2 | none => .bad) | _, _ => .bad := rfl
@[simp] theorem ev_Fn {b : MS} : mFn i b ds μ = (b (startD i ds) μ).fin := mFn_eq
@[simp] theorem ev_Call {h : MF} : mCall h ms dds δ μ = (evA ms δ μ).bind fun ds δ1 μ1 => match h (ds ++ dds) μ1 with | .ok s μ2 => .ok s δ1 μ2 | .exc x μ2 => .exc x δ1 μ2 | .bad => .bad := rfl
@[simp] theorem ev_Neg : mNeg m δ μ = (m δ μ).bind fun s δ1 μ1 => match s with | .fr (.int i) => .ok (.fr (.int (-i))) δ1 μ1 | _ => .bad := rfl
@[simp] theorem ev_Raise {c a : String} : mRaise c a m δ μ = (m δ μ).thn fun s δ1 μ1 => .exc ⟨c, a, s.d⟩ δ1 μ1 := rfl
@[simp] theorem ev_Par : mPar i j m n δ μ = (m δ μ).thn fun s δ1 μ1 => (n δ1 μ1).thn fun s' δ2 μ2 => .nx ((δ2.set i (some s)).set j (some s')) μ2 := rfl
@[simp] theorem ev_It : mIt m δ μ = (m δ μ).bind fun s δ1 μ1 => match itA s.d with | some ds => .ok ds δ1 μ1 | none => .bad := rfl
@[simp] theorem ev_R1 : mRange1 o δ μ = (evs [o] δ μ).bind fun rs δ1 μ1 => match OR.ats δ1 μ1 rs with | some [.int j] => r1K j δ1 μ1 | _ => .bad := by
  simp only [r1K_eq]; rfl
@[simp] theorem ev_For {mi : MM (List D)} : mFor mi f p δ μ = (mi δ μ).thn fun ds δ1 μ1 => forD (turnD f p) ds δ1 μ1 := rfl
@[simp] theorem ev_turn : turnD f p d δ μ = (match f d δ with | some δ' => p δ' μ | none => .bad) := rfl
@[simp] theorem ev_yes : mYes δ μ = .ok true δ μ := rfl
@[simp] theorem ev_rc1 {d : D} : recv δ μ (.d d) = (match d with | .obj k => (match μ[k]? with | some c => some (c, fun c' => (δ, μ.set k c')) | none => none) | _ => none) := by cases d <;> rfl
@[simp] theorem ev_rc2 : recv δ μ (.i j) = (match δ[j]? with
    | some (some (.own c)) => some (c, fun c' => (δ.set j (some (.own c')), μ))
    | some (some (.fr (.obj k))) => (match μ[k]? with
      | some c => some (c, fun c' => (δ, μ.set k c'))
      | none => none)
    | _ => none) := by
  cases h : δ[j]? with
  | none => simp [recv, h]
  | some o =>
    cases o with
    | none => simp [recv, h]
    | some s =>
      cases s with
      | own c => simp [recv, h]
      | fr d =>
        cases d <;> first
          | (simp [recv, h]; done)
          | (rename_i k; cases hh : μ[k]? <;> simp [recv, h, hh])
@[simp] theorem ev_ot1 {T : String} {xs : List D} : ownTy T (.lst xs) = (T == "list") := rfl
@[simp] theorem ev_ot2 {T : String} {ks : List DK} {xs : List D} : ownTy T (.dct ks xs) = (T == "dict") := rfl
@[simp] theorem ev_ia1 {xs : List D} : itA (.lst xs) = some xs := rfl
@[simp] theorem ev_ia2 {xs : List D} : itA (.tup xs) = some xs := rfl
@[simp] theorem ev_ia3 {x : Tx} : itA (.str x) = some (chars x) := rfl
@[simp] theorem ev_ia4 {xs : List D} : itA (.ro xs) = some xs := rfl
@[simp] theorem ev_for0 {g : D → MS} : forD g [] δ μ = .nx δ μ := rfl
end
section
variable {i j : Int} {x y : Tx} {b c : Bool} {xs ys : List D}
@[simp] theorem ev_addI : gAdd (.int i) (.int j) = some (.fr (.int (i + j))) := rfl
@[simp] theorem ev_addS : gAdd (.str x) (.str y) = if x.length + y.length ≤ 16777216 then some (.fr (.str (x ++ y))) else none := by
  by_cases h : x.length + y.length ≤ 16777216 <;> simp [gAdd, gInt, gAddS, gAddL, gAddT, h]
@[simp] theorem ev_addL : gAdd (.lst xs) (.lst ys) = if xs.length + ys.length ≤ 16777216 then some (.own (.lst (xs ++ ys))) else none := by
  by_cases h : xs.length + ys.length ≤ 16777216 <;> simp [gAdd, gInt, gAddS, gAddL, gAddT, h]
@[simp] theorem ev_subI : gSub (.int i) (.int j) = some (.fr (.int (i - j))) := rfl
@[simp] theorem ev_leI : gLe (.int i) (.int j) = some (.fr (.bl (decide (i ≤ j)))) := rfl
@[simp] theorem ev_gtI : gGt (.int i) (.int j) = some (.fr (.bl (decide (j < i)))) := rfl
@[simp] theorem ev_geI : gGe (.int i) (.int j) = some (.fr (.bl (decide (j ≤ i)))) := rfl
@[simp] theorem ev_eqI {n : Bool} : gEq n (.int i) (.int j) = some (.fr (.bl (decide (i = j) != n))) := rfl
@[simp] theorem ev_eqS {n : Bool} : gEq n (.str x) (.str y) = some (.fr (.bl (decide (x = y) != n))) := rfl
@[simp] theorem ev_eqB {n : Bool} : gEq n (.bl b) (.bl c) = some (.fr (.bl (decide (b = c) != n))) := rfl
@[simp] theorem ev_eqNN {n : Bool} : gEq n .non .non = some (.fr (.bl (true != n))) := rfl
@[simp] theorem ev_eqNI {n : Bool} : gEq n .non (.int i) = some (.fr (.bl (false != n))) := rfl
@[simp] theorem ev_eqIN {n : Bool} : gEq n (.int i) .non = some (.fr (.bl (false != n))) := rfl
@[simp] theorem ev_eqNS {n : Bool} : gEq n .non (.str x) = some (.fr (.bl (false != n))) := rfl
@[simp] theorem ev_eqSN {n : Bool} : gEq n (.str x) .non = some (.fr (.bl (false != n))) := rfl
@[simp] theorem ev_lenS : gLen [.str x] = if x.length ≤ 16777216 then some (.fr (.int x.length)) else none := rfl
@[simp] theorem ev_lenL : gLen [.lst xs] = some (.fr (.int xs.length)) := rfl
@[simp] theorem ev_lenT : gLen [.tup xs] = some (.fr (.int xs.length)) := rfl
@[simp] theorem ev_lenR : gLen [.ro xs] = some (.fr (.int xs.length)) := rfl
@[simp] theorem ev_ixL : gIxL (.lst xs) (.int i) = (L2.atI xs i).map .fr := rfl
@[simp] theorem ev_ixT : gIxL (.tup xs) (.int i) = (L2.atI xs i).map .fr := rfl
@[simp] theorem ev_ixR : gIxL (.ro xs) (.int i) = (L2.atI xs i).map .fr := rfl
@[simp] theorem ev_ixS : gIxL (.str x) (.int i) = if x.length ≤ 16777216 then (L2.atI x i).map fun c => .fr (.str [c]) else none := rfl
@[simp] theorem ev_inS {n : Bool} {c : Nat} : gIn n (.str [c]) (.str x) = some (.fr (.bl (decide (c ∈ x) != n))) := rfl
@[simp] theorem ev_isN1 {n : Bool} : gIsN n .non .non = some (.fr (.bl (true != n))) := rfl
@[simp] theorem ev_isN2 {n : Bool} : gIsN n (.int i) .non = some (.fr (.bl (false != n))) := rfl
@[simp] theorem ev_isN3 {n : Bool} : gIsN n (.str x) .non = some (.fr (.bl (false != n))) := rfl
@[simp] theorem ev_isN4 {n : Bool} : gIsN n (.tup xs) .non = some (.fr (.bl (false != n))) := rfl
@[simp] theorem ev_isN5 {n : Bool} : gIsN n (.lst xs) .non = some (.fr (.bl (false != n))) := rfl
@[simp] theorem ev_isN6 {n : Bool} {c a : String} {d : D} : gIsN n (.exn c a d) .non = some (.fr (.bl (false != n))) := rfl
@[simp] theorem ev_isN7 {n : Bool} : gIsN n (.bl b) .non = some (.fr (.bl (false != n))) := rfl
@[simp] theorem ev_max2 : gMax2 [.int i, .int j] = some (.fr (.int (if j > i then j else i))) := rfl
@[simp] theorem ev_min2 : gMin2 [.int i, .int j] = some (.fr (.int (if j < i then j else i))) := rfl
end
def Nx (r : OutS) (P : FL.Loc → Mem → Prop) : Prop := ∃ δ μ, r = .nx δ μ ∧ P δ μ
def Ok {α : Type} (r : Out α) (P : α → FL.Loc → Mem → Prop) : Prop := ∃ a δ μ, r = .ok a δ μ ∧ P a δ μ
@[simp] theorem Nx_nx {δ : FL.Loc} {μ : Mem} {P : FL.Loc → Mem → Prop} : Nx (.nx δ μ) P ↔ P δ μ :=
  ⟨fun ⟨_, _, e, p⟩ => by cases e; exact p, fun p => ⟨_, _, rfl, p⟩⟩
@[simp] theorem Ok_ok {α : Type} {a : α} {δ : FL.Loc} {μ : Mem} {P : α → FL.Loc → Mem → Prop} : Ok (.ok a δ μ) P ↔ P a δ μ :=
  ⟨fun ⟨_, _, _, e, p⟩ => by cases e; exact p, fun p => ⟨_, _, _, rfl, p⟩⟩
theorem Nx.imp {r : OutS} {P P' : FL.Loc → Mem → Prop} (h : Nx r P) (i : ∀ δ μ, P δ μ → P' δ μ) : Nx r P' := let ⟨δ, μ, e, p⟩ := h; ⟨δ, μ, e, i δ μ p⟩
section
variable {δ : FL.Loc} {μ : Mem} {m : ME}
@[simp] theorem ev_Lam {h : (Mem → OutF) → Mem → OutF} {j : Nat} {P : Addr} {q : Str} : mLam h j P q m δ μ = (match μ[j]? with
  | some (.tab P' q') => if P' = P ∧ q' = q then (match h (actOf m δ) μ with
    | .ok s μ' => .ok s δ μ'
    | .exc x μ' => .exc x δ μ'
    | .bad => .bad) else .bad
  | _ => .bad) := rfl
@[simp] theorem ev_act : actOf m δ μ = (match m (hide δ) μ with
  | .ok s _ μ' => .ok s μ'
  | .exc x _ μ' => .exc x μ'
  | .bad => .bad) := rfl
end
theorem forNx_at {g : D → MS} (I : Nat → FL.Loc → Mem → Prop) : ∀ (ds : List D) (n : Nat) (δ : FL.Loc) (μ : Mem), I n δ μ → (∀ (i : Nat) (d : D) (δ : FL.Loc) (μ : Mem), ds[i]? = some d → I (n + i) δ μ → Nx (g d δ μ) (I (n + i + 1))) → Nx (forD g ds δ μ) (I (n + ds.length))
  | [], n, δ, μ, h0, _ => ⟨δ, μ, rfl, h0⟩
  | d :: ds, n, δ, μ, h0, hs => by
    obtain ⟨δ1, μ1, e, h1⟩ := hs 0 d δ μ rfl h0
    have := forNx_at I ds (n + 1) δ1 μ1 h1 fun i d δ μ hd hi => by
      have := hs (i + 1) d δ μ hd (by rw [show n + (i + 1) = n + 1 + i by omega]; exact hi)
      rw [show n + (i + 1) + 1 = n + 1 + i + 1 by omega] at this
      exact this
    rw [show n + 1 + ds.length = n + (d :: ds).length by rw [List.length_cons]; omega] at this
    show Nx ((g d δ μ).loop (forD g ds)) _
    rw [e]
    exact this
theorem forNx {g : D → MS} (I : Nat → FL.Loc → Mem → Prop) {ds : List D} {δ : FL.Loc} {μ : Mem} (h0 : I 0 δ μ) (hs : ∀ (i : Nat) (d : D) (δ : FL.Loc) (μ : Mem), ds[i]? = some d → I i δ μ → Nx (g d δ μ) (I (i + 1))) : Nx (forD g ds δ μ) (I ds.length) := by
  have := forNx_at I ds 0 δ μ h0 fun i d δ μ hd hi => by
    rw [Nat.zero_add] at hi ⊢
    exact hs i d δ μ hd hi
  rwa [Nat.zero_add] at this
theorem range_len (n : Nat) : (rangeD 0 n).length = n := by simp [rangeD]
theorem range_at {n i : Nat} {d : D} (h : (rangeD 0 n)[i]? = some d) : d = .int (i : Nat) ∧ i < n := by
  unfold rangeD at h
  rw [List.getElem?_map] at h
  by_cases hi : i < n
  · rw [List.getElem?_range hi] at h
    cases h
    exact ⟨by simp, hi⟩
  · rw [List.getElem?_eq_none (by simp; omega)] at h
    cases h
theorem source_src {ns : List Int} {k : Int} {μ : Mem} (hl : ns.length ≤ 63) (h0 : 0 ≤ k) (hk : k ≤ 2 ^ 30) :
    ∃ μ1, mSource [.ro (ns.map .int), .int k] μ = .ok (.fr (.obj μ.length)) μ1 ∧ Src μ1 μ.length (3 * k) ∧ ∀ i : Nat, i < μ.length → μ1[i]? = μ[i]? := by
  obtain ⟨c, g, g0, e⟩ := source_spec (μ := μ) hl h0 (by omega)
  exact ⟨_, e, ⟨c, 3 * k, g, by simp, by omega, by omega, g0⟩, fun i hi => List.getElem?_append_left hi⟩
def lc1 (f : TgF) (t : MT) (m : ME) (vs : List Nat) (d : D) (δ : FL.Loc) (μ : Mem) : Out (Option D) := match f d δ with
  | none => .bad
  | some δ' => (t δ' μ).cut.bind fun b δ2 μ2 => if b = true then (m δ2 μ2).cut.bind fun s δ3 μ3 => .ok (some s.d) (wipeD δ3 vs) μ3 else .ok none (wipeD δ2 vs) μ2
theorem lcD_one {f : TgF} {t : MT} {m : ME} {vs : List Nat} {d : D} {ds acc : List D} {δ : FL.Loc} {μ : Mem} : lcD f t m vs (d :: ds) acc δ μ = (lc1 f t m vs d δ μ).bind fun o δ1 μ1 => match o with
    | some e => if acc.length < 16777216 then lcD f t m vs ds (acc ++ [e]) δ1 μ1 else .bad
    | none => lcD f t m vs ds acc δ1 μ1 := by
  rw [lcD_cons]
  unfold lc1
  cases f d δ with
  | none => rfl
  | some δ' =>
    cases h : (t δ' μ).cut with
    | bad => simp only [h]; rfl
    | exc x δ2 μ2 => simp only [h]; rfl
    | ok b δ2 μ2 =>
      simp only [h, ev_b1]
      cases b with
      | false => rfl
      | true =>
        simp only [if_true]
        cases h2 : (m δ2 μ2).cut with
        | bad => rfl
        | exc x δ3 μ3 => rfl
        | ok s δ3 μ3 => rfl
theorem lcD_pure {f : TgF} {t : MT} {m : ME} {vs : List Nat} {δ : FL.Loc} {μ : Mem} (F : D → Option D) : ∀ {ds acc : List D}, (∀ d ∈ ds, lc1 f t m vs d δ μ = .ok (F d) δ μ) → acc.length + ds.length < 16777216 →
    lcD f t m vs ds acc δ μ = .ok (.own (.lst (acc ++ ds.filterMap F))) δ μ
  | [], acc, _, _ => by simp
  | d :: ds, acc, h, hl => by
    rw [List.length_cons] at hl
    rw [lcD_one, h d (List.mem_cons_self ..), ev_b1]
    cases e : F d with
    | none =>
      simp only []
      rw [lcD_pure F (fun d hd => h d (List.mem_cons_of_mem _ hd)) (by omega)]
      simp [e]
    | some x =>
      simp only [show acc.length < 16777216 by omega, if_true]
      rw [lcD_pure F (fun d hd => h d (List.mem_cons_of_mem _ hd)) (by rw [List.length_append, List.length_singleton]; omega)]
      simp [e]
theorem lcD_inv {f : TgF} {t : MT} {m : ME} {vs : List Nat} (P : Nat → List D → FL.Loc → Mem → Prop) : ∀ (ds : List D) (n : Nat) (acc : List D) (δ : FL.Loc) (μ : Mem), P n acc δ μ → acc.length + ds.length < 16777216 →
    (∀ (i : Nat) (d : D) (acc : List D) (δ : FL.Loc) (μ : Mem), ds[i]? = some d → P (n + i) acc δ μ → Ok (lc1 f t m vs d δ μ) fun o δ' μ' => P (n + i + 1) (acc ++ o.toList) δ' μ') →
    Ok (lcD f t m vs ds acc δ μ) fun s δ' μ' => ∃ acc', s = .own (.lst acc') ∧ P (n + ds.length) acc' δ' μ'
  | [], n, acc, δ, μ, h0, _, _ => ⟨_, δ, μ, rfl, acc, rfl, h0⟩
  | d :: ds, n, acc, δ, μ, h0, hl, hs => by
    rw [List.length_cons] at hl
    obtain ⟨o, δ1, μ1, e, h1⟩ := hs 0 d acc δ μ rfl h0
    have hs' : ∀ (i : Nat) (d : D) (acc : List D) (δ : FL.Loc) (μ : Mem), ds[i]? = some d → P (n + 1 + i) acc δ μ → Ok (lc1 f t m vs d δ μ) fun o δ' μ' => P (n + 1 + i + 1) (acc ++ o.toList) δ' μ' := fun i d acc δ μ hd hi => by
      have := hs (i + 1) d acc δ μ hd (by rw [show n + (i + 1) = n + 1 + i by omega]; exact hi)
      rw [show n + (i + 1) + 1 = n + 1 + i + 1 by omega] at this
      exact this
    rw [show n + (d :: ds).length = n + 1 + ds.length by rw [List.length_cons]; omega]
    rw [lcD_one, e, ev_b1]
    cases o with
    | none =>
      have h1 : P (n + 1) acc δ1 μ1 := by simpa using h1
      exact lcD_inv P ds (n + 1) acc δ1 μ1 h1 (by omega) hs'
    | some x =>
      simp only [show acc.length < 16777216 by omega, if_true]
      exact lcD_inv P ds (n + 1) (acc ++ [x]) δ1 μ1 h1 (by rw [List.length_append, List.length_singleton]; omega) hs'
section
variable {δ : FL.Loc} {μ : Mem} {m : ME} {f : TgF} {h : TgsF} {d : D} {ds xs : List D} {n : Nat} {g g' : D → D → Option FL.Slot} {oa ob oc : Opn}
@[simp] theorem ev_tupL : gTuple [.lst xs] = some (.fr (.tup xs)) := rfl
@[simp] theorem ev_tupT : gTuple [.tup xs] = some (.fr (.tup xs)) := rfl
@[simp] theorem ev_Chain : mChain g g' oa ob oc δ μ = (oa.ev δ μ).bind fun ra δ1 μ1 => (ob.ev δ1 μ1).bind fun rb δ2 μ2 => match ra.at δ2 μ2, rb.at δ2 μ2 with
  | some da, some db => (match g da db with
    | some (.fr (.bl true)) => (oc.ev δ2 μ2).bind fun rc δ3 μ3 => (match rb.at δ3 μ3, rc.at δ3 μ3 with
      | some db', some dc => lift (g' db' dc) δ3 μ3
      | _, _ => .bad)
    | some (.fr (.bl false)) => .ok (.fr (.bl false)) δ2 μ2
    | _ => .bad)
  | _, _ => .bad := rfl
end
end FL
namespace FL.S
noncomputable abbrev m__law_next : MF := mNext
noncomputable abbrev m__law_pick : MF := mPick
end FL.S
namespace FL
open PySem L2
def Asc (x : Tx) : Prop := ∀ c ∈ x, c < 128
theorem Asc.app {x y : Tx} (a : Asc x) (b : Asc y) : Asc (x ++ y) := fun c hc => (List.mem_append.mp hc).elim (a c) (b c)
end FL
namespace FL
open PySem L2
def sp (c : Nat) : Nat := if c ∈ WS then c else 32
def chunks (x : Tx) : List Tx := (List.range ((x.length + 19) / 20)).map fun i => (x.drop (20 * i)).take 20
theorem chunks_eq {l : Tx} (h1 : 1 ≤ l.length) (h2 : l.length ≤ 20) : ∀ f : List Tx, (∀ p ∈ f, p.length = 20) → chunks (f ++ [l]).flatten = f ++ [l]
  | [], _ => by
    have e : (l.length + 19) / 20 = 1 := by omega
    unfold chunks
    simp [e, List.range_succ, List.take_of_length_le h2]
  | p :: f, h => by
    have hp := h p (List.mem_cons_self ..)
    have ih := chunks_eq h1 h2 f fun q hq => h q (List.mem_cons_of_mem _ hq)
    unfold chunks at ih ⊢
    have hl : ((p :: f ++ [l]).flatten).length = 20 + ((f ++ [l]).flatten).length := by simp [hp]
    rw [hl, show (20 + ((f ++ [l]).flatten).length + 19) / 20 = (((f ++ [l]).flatten).length + 19) / 20 + 1 by omega, List.range_succ_eq_map, List.map_cons, List.map_map]
    have e0 : List.take 20 (List.drop (20 * 0) (p :: f ++ [l]).flatten) = p := by
      simp only [Nat.mul_zero, List.drop_zero, List.cons_append, List.flatten_cons]
      rw [List.take_append_of_le_length (by omega), List.take_of_length_le (by omega)]
    have e1 : List.map ((fun i => List.take 20 (List.drop (20 * i) (p :: f ++ [l]).flatten)) ∘ Nat.succ) (List.range (((f ++ [l]).flatten.length + 19) / 20)) = List.map (fun i => List.take 20 (List.drop (20 * i) (f ++ [l]).flatten)) (List.range (((f ++ [l]).flatten.length + 19) / 20)) := by
      apply List.map_congr_left
      intro i _
      show List.take 20 (List.drop (20 * (i + 1)) (p :: f ++ [l]).flatten) = _
      rw [List.cons_append, List.flatten_cons, show 20 * (i + 1) = p.length + 20 * i by omega, List.drop_append, List.drop_of_length_le (by omega), List.nil_append, Nat.add_sub_cancel_left]
    rw [e0, e1, ih]
    rfl
theorem words_chunks {x : Tx} (hx : ∀ c ∈ x, c ∈ WS) (h0 : x ≠ []) : wordsL x = chunks x := by
  obtain ⟨f, l, e, h1, h2, h3, h4, _⟩ := wordsL_run hx h0
  rw [e, ← h1, chunks_eq h3 h4 f h2]
theorem sp_in {c : Nat} (h : c ∈ WS) : sp c = c := if_pos h
theorem sp_out {c : Nat} (h : c ∉ WS) : sp c = 32 := if_neg h
theorem ws_nosp : ∀ c ∈ WS, Unicode.isSpace c = false := by decide +kernel
structure WI (z : Tx) (g : List Tx) (r : Tx) : Prop where
  ex : ∃ pre, z = pre ++ r ∧ (pre = [] ∨ ∃ q c, pre = q ++ [c] ∧ c ∉ WS) ∧ wordsL pre = g.flatMap chunks
  r : ∀ c ∈ r, c ∈ WS
  g : ∀ w ∈ g, w ≠ [] ∧ ∀ c ∈ w, c ∈ WS
theorem pre_app {pre r : Tx} (h : pre = [] ∨ ∃ q c, pre = q ++ [c] ∧ c ∉ WS) : wordsL (pre ++ r) = wordsL pre ++ wordsL r := by
  rcases h with rfl | ⟨q, c, rfl, hc⟩
  · simp [wordsL_nil]
  · have hg : ∀ d ∈ [c], d ∉ WS := fun d hd => by rw [List.mem_singleton.mp hd]; exact hc
    rw [wordsL_gap hg (by simp), wordsL_gap1 hg (by simp)]
theorem WI.fin {z : Tx} {g : List Tx} {r : Tx} (h : WI z g r) : wordsL z = (TL.wfin (g, r)).flatMap chunks := by
  obtain ⟨pre, rfl, h1, h2⟩ := h.ex
  rw [pre_app h1, h2]
  unfold TL.wfin
  by_cases hr : r = []
  · subst hr; simp [wordsL_nil]
  · simp only [hr, if_false]
    rw [List.flatMap_append, words_chunks h.r hr]
    simp
theorem WI.step {z : Tx} {g : List Tx} {r : Tx} (h : WI z g r) (c : Nat) : WI (z ++ [c]) (TL.wstep (g, r) (sp c)).1 (TL.wstep (g, r) (sp c)).2 := by
  obtain ⟨pre, rfl, h1, h2⟩ := h.ex
  by_cases hc : c ∈ WS
  · rw [sp_in hc]
    have e : TL.wstep (g, r) c = (g, r ++ [c]) := by unfold TL.wstep; rw [ws_nosp c hc]; simp
    rw [e]
    refine ⟨⟨pre, by simp, h1, h2⟩, fun d hd => ?_, h.g⟩
    rcases List.mem_append.mp hd with hd | hd
    · exact h.r d hd
    · rw [List.mem_singleton.mp hd]; exact hc
  · rw [sp_out hc]
    have hs : Unicode.isSpace 32 = true := by decide +kernel
    have hg : ∀ d ∈ [c], d ∉ WS := fun d hd => by rw [List.mem_singleton.mp hd]; exact hc
    by_cases hr : r = []
    · subst hr
      have e : TL.wstep (g, []) 32 = (g, []) := by unfold TL.wstep; rw [hs]; simp
      rw [e]
      refine ⟨⟨pre ++ [c], by simp, .inr ⟨pre, c, rfl, hc⟩, ?_⟩, by simp, h.g⟩
      rw [wordsL_gap1 hg (by simp), h2]
    · have e : TL.wstep (g, r) 32 = (g ++ [r], []) := by unfold TL.wstep; rw [hs]; simp [hr]
      rw [e]
      refine ⟨⟨pre ++ r ++ [c], by simp, .inr ⟨pre ++ r, c, rfl, hc⟩, ?_⟩, by simp, fun w hw => ?_⟩
      · rw [wordsL_gap1 hg (by simp), pre_app h1, h2, List.flatMap_append, words_chunks h.r hr]
        simp
      · rcases List.mem_append.mp hw with hw | hw
        · exact h.g w hw
        · rw [List.mem_singleton.mp hw]; exact ⟨hr, h.r⟩
theorem WI.nil : WI [] [] [] := ⟨⟨[], rfl, .inl rfl, rfl⟩, by simp, by simp⟩
end FL
namespace FL
open PySem L2
theorem Sh.asc {x : Tx} (h : ∀ c ∈ x, c < 128) : Sh 0 (10 * x.length + 2) (.str x) := by
  have hl := StrLaws.reprText_len (toS x) (fun c hc => by
    have := h c hc
    have e : (16 : Nat) ^ 8 = 4294967296 := by decide
    omega)
  rw [toS_len] at hl
  exact ⟨.str (toS x), rfl, by simp [PyData.showable], by simp [PyData.hasDict], strOk_ascii h, by simp [PyData.depth], hl⟩
theorem Sh.words {ws : List Tx} {n : Nat} (h : ∀ w ∈ ws, (∀ c ∈ w, c < 128) ∧ w.length ≤ n) : Sh 1 (2 + ws.length * (10 * n + 4)) (.lst (ws.map .str)) := by
  have := Sh.lst (d := 0) (n := 10 * n + 2) (xs := ws.map D.str) fun x hx => by
    obtain ⟨w, hw, rfl⟩ := List.mem_map.mp hx
    exact (Sh.asc (h w hw).1).mono (Nat.le_refl _) (by have := (h w hw).2; omega)
  rw [List.length_map] at this
  exact this.mono (by omega) (by rw [show 10 * n + 2 + 2 = 10 * n + 4 by omega]; omega)
section
variable {μ : Mem}
theorem kitB_no : kitB "NoneType" "str" = some false ∧ kitB "bool" "str" = some false ∧ kitB "int" "str" = some false ∧ kitB "list" "str" = some false ∧ kitB "tuple" "str" = some false ∧ kitB "dict" "str" = some false := by
  refine ⟨?_, ?_, ?_, ?_, ?_, ?_⟩ <;> kernel_rfl
def noStr : D → Bool
  | .non | .bl _ | .int _ | .lst _ | .tup _ | .dct _ _ => true
  | _ => false
theorem isi_no {d : D} (h : noStr d = true) : gIsi [d, .ty "str"] = some (tb false) := by
  obtain ⟨h1, h2, h3, h4, h5, h6⟩ := kitB_no
  cases d <;> first | (cases h; done) | skip
  all_goals simp [gIsi, tyN, h1, h2, h3, h4, h5, h6]
theorem isi_str {x : Tx} : gIsi [.str x, .ty "str"] = some (tb true) := by simp [gIsi, tyN, kitB_ss]
theorem look_no {d : D} (h : noStr d = true) : look μ d = some d := by cases d <;> first | rfl | cases h
end
end FL
namespace FL
open PySem L2
def Sz (k : Nat) (q : Rat) : Prop := q.num.natAbs < 2 ^ k ∧ q.den < 2 ^ k
theorem divInt_num {n d : Int} (hd : d ≠ 0) : (Rat.divInt n d).num.natAbs ≤ n.natAbs ∧ (Rat.divInt n d).den ≤ d.natAbs := by
  constructor
  · rw [Rat.num_divInt]
    have h1 : (d.sign * n / (d.gcd n : Int)).natAbs ≤ (d.sign * n).natAbs := by
      have := Int.natAbs_ediv_le_natAbs (d.sign * n) (d.gcd n : Int)
      exact this
    have h2 : (d.sign * n).natAbs ≤ n.natAbs := by
      rw [Int.natAbs_mul, Int.natAbs_sign]
      split <;> simp
    exact Nat.le_trans h1 h2
  · rw [Rat.den_divInt, if_neg hd]
    exact Nat.div_le_self _ _
theorem mul_lt_pow {a b j k : Nat} (ha : a < 2 ^ j) (hb : b < 2 ^ k) : a * b < 2 ^ (j + k) := by
  rw [Nat.pow_add]
  exact Nat.mul_lt_mul'' ha hb
theorem Sz.mono {j k : Nat} {q : Rat} (h : Sz j q) (hl : j ≤ k) : Sz k q :=
  ⟨Nat.lt_of_lt_of_le h.1 (Nat.pow_le_pow_right (by decide) hl), Nat.lt_of_lt_of_le h.2 (Nat.pow_le_pow_right (by decide) hl)⟩
theorem mul_eq (p q : Rat) : Rat.divInt (p.num * q.num) (p.den * q.den) = p * q := by
  have h := Rat.divInt_mul_divInt p.num q.num (d₁ := (p.den : Int)) (d₂ := (q.den : Int))
  rw [Rat.num_divInt_den, Rat.num_divInt_den] at h
  exact h.symm
theorem Sz.mul {j k : Nat} {p q : Rat} (hp : Sz j p) (hq : Sz k q) : Sz (j + k) (p * q) := by
  have h := divInt_num (n := p.num * q.num) (d := p.den * q.den) (by have := p.den_pos; have := q.den_pos; exact Int.mul_ne_zero (by omega) (by omega))
  rw [mul_eq] at h
  have h1 : (p.num * q.num).natAbs < 2 ^ (j + k) := by rw [Int.natAbs_mul]; exact mul_lt_pow hp.1 hq.1
  have h3 : ((p.den : Int) * (q.den : Int)).natAbs < 2 ^ (j + k) := by rw [Int.natAbs_mul]; exact mul_lt_pow (by simpa using hp.2) (by simpa using hq.2)
  exact ⟨by omega, by omega⟩
end FL
namespace FL
open PySem L2
def Of (ps : List Nat) (f : Nat) : Prop := ∀ m : Nat, (∀ p ∈ ps, Nat.Coprime p m) → Nat.Coprime f m
theorem Of.mul {ps : List Nat} {f p : Nat} (h : Of ps f) (hp : p ∈ ps) : Of ps (f * p) := fun m hm => Nat.Coprime.mul_left (h m hm) (hm p hp)
theorem ofS_len (s : String) : (Str.ofString s).length = s.toList.length := by
  rw [ofS_lit, toS_len]
  simp [lit]
theorem int_len {i : Int} {k : Nat} (hk : 1 ≤ k) (h : i.natAbs < 10 ^ k) : (PyData.shown (.int i)).length ≤ k + 1 := by
  show (Str.ofString (toString i)).length ≤ _
  rw [ofS_len]
  cases i with
  | ofNat n =>
    have := PyProof.Rows.digits10_le hk (show n < 10 ^ k from h)
    show (Nat.repr n).toList.length ≤ _
    simp [Nat.repr]
    omega
  | negSucc n =>
    have := PyProof.Rows.digits10_le hk (show n + 1 < 10 ^ k from h)
    show ("-" ++ Nat.repr (n + 1)).toList.length ≤ _
    simp [Nat.repr]
    omega
end FL
namespace FL.S
noncomputable def e1_is_made_of (δ : FL.Loc) (μ : Mem) : Out FL.Slot := (m2 (gIn false) (.v 3) (.v 1)) δ μ
noncomputable def b_is_made_of (δ : FL.Loc) (μ : Mem) : OutS := (mRet (mAndV (mC gIsi [(.v 0), (.e (mD (.ty "str")))]) (mAndV (mChain gLe gLe (.e (mD (.int 1))) (.e (mC gLen [(.v 0)])) (.v 2)) (mC gAll [(.e (mLc (mIt (mV 0)) (tgV 3) mYes e1_is_made_of [3]))])))) δ μ
noncomputable def m_is_made_of : MF := mFn 4 (b_is_made_of)
noncomputable def b_is_word (δ : FL.Loc) (μ : Mem) : OutS := (mRet (mCall m_is_made_of [(mV 0), (mD (.str (lit "abcdefghijklmnopqrstuvwxyz0123456789"))), (mD (.int 20))] [])) δ μ
noncomputable def m_is_word : MF := mFn 1 (b_is_word)
end FL.S
namespace FL
open PySem L2
section
variable {μ : Mem}
theorem all_chars {x s : Tx} {a b c : Option FL.Slot} (hl : x.length < 16777216) : lcD (tgV 3) mYes S.e1_is_made_of [3] (chars x) [] [a, some (.fr (.str s)), c, none] μ = .ok (.own (.lst ((x.map fun c => decide (c ∈ s)).map .bl))) [a, some (.fr (.str s)), c, none] μ := by
  have h := lcD_pure (f := tgV 3) (t := mYes) (m := S.e1_is_made_of) (vs := [3]) (δ := [a, some (.fr (.str s)), c, none]) (μ := μ) (fun d => match d with | .str [c] => some (.bl (decide (c ∈ s))) | _ => none) (ds := chars x) (acc := []) (fun d hd => by
    obtain ⟨c, _, rfl⟩ := List.mem_map.mp hd
    simp [lc1, S.e1_is_made_of]) (by simp [chars]; exact hl)
  rw [h]
  simp [chars, List.filterMap_map, Function.comp_def]
def Made (x s : Tx) (n : Int) : Prop := 1 ≤ x.length ∧ (x.length : Int) ≤ n ∧ ∀ c ∈ x, c ∈ s
instance (x s : Tx) (n : Int) : Decidable (Made x s n) := inferInstanceAs (Decidable (_ ∧ _))
theorem made_str {x s : Tx} {n : Int} (hl : x.length < 16777216) : S.m_is_made_of [.str x, .str s, .int n] μ = .ok (.fr (.bl (decide (Made x s n)))) μ := by
  have h := all_chars (μ := μ) (x := x) (s := s) (a := some (.fr (.str x))) (c := some (.fr (.int n))) (b := none) hl
  have hb := blsD_of (x.map fun c => decide (c ∈ s))
  have hl' : x.length ≤ 16777216 := by omega
  have ga : gAll [.lst ((x.map fun c => decide (c ∈ s)).map .bl)] = some (.fr (.bl (x.all fun c => decide (c ∈ s)))) := by
    simp only [gAll, hb, Option.map_some]
    simp [List.all_map, Function.comp_def]
  by_cases h1 : (1 : Int) ≤ x.length
  · by_cases h2 : (x.length : Int) ≤ n
    · have e : decide (Made x s n) = x.all fun c => decide (c ∈ s) := by
        by_cases h3 : ∀ c ∈ x, c ∈ s
        · rw [decide_eq_true (show Made x s n from ⟨by omega, h2, h3⟩)]
          exact (List.all_eq_true.mpr fun c hc => decide_eq_true (h3 c hc)).symm
        · rw [decide_eq_false (fun z : Made x s n => h3 z.2.2)]
          refine (Bool.eq_false_iff.mpr fun z => h3 fun c hc => ?_).symm
          exact of_decide_eq_true (List.all_eq_true.mp z c hc)
      rw [e]
      generalize List.map D.bl (List.map (fun c => decide (c ∈ s)) x) = L at h ga
      simp [S.m_is_made_of, S.b_is_made_of, startD, isi_str, hl', h1, h2, h, ga]
    · rw [decide_eq_false (fun z : Made x s n => h2 z.2.1)]
      simp [S.m_is_made_of, S.b_is_made_of, startD, isi_str, hl', h1, h2]
  · rw [decide_eq_false (fun z : Made x s n => h1 (by have := z.1; omega))]
    simp [S.m_is_made_of, S.b_is_made_of, startD, isi_str, hl', h1]
theorem made_no {d : D} {s : Tx} {n : Int} (h : noStr d = true) : S.m_is_made_of [d, .str s, .int n] μ = .ok (.fr (.bl false)) μ := by
  simp [S.m_is_made_of, S.b_is_made_of, startD, isi_no h, look_no h]
abbrev Wd (x : Tx) : Prop := Made x WS 20
theorem word_str {x : Tx} (hl : x.length < 16777216) : S.m_is_word [.str x] μ = .ok (.fr (.bl (decide (Wd x)))) μ := by
  have h := made_str (μ := μ) (x := x) (s := WS) (n := 20) hl
  simp [S.m_is_word, S.b_is_word, startD, ws_eq, h]
theorem word_no {d : D} (h : noStr d = true) : S.m_is_word [d] μ = .ok (.fr (.bl false)) μ := by
  have h := made_no (μ := μ) (s := WS) (n := 20) h
  simp [S.m_is_word, S.b_is_word, startD, ws_eq, h]
end
end FL
namespace FL
open PySem PySem.Spec PyProof.Rows L2
open PySem.Froz (SD sObj TxOk addTx tailTx is_str add_ok add_x)
theorem tail_in (ep : Nat) (es : Array (Int × Value)) (t : SetTable) (b : Bool) : (inD (tailTx ep es t b)).Perm (es.toList.map fun e => strOf e.2) := by
  unfold tailTx
  split
  · exact (relayAll_perm _ _ _).map _
  · exact List.Perm.refl _
theorem tail_ris {ep : Nat} {es : Array (Int × Value)} {t : SetTable} {b : Bool} (r : Ris t.place.toList) : Ris (tailTx ep es t b).2.2.place.toList := by
  unfold tailTx
  split
  · exact relayAll_ris _ _ _
  · exact r
theorem tail_led (ep : Nat) (es : Array (Int × Value)) (t : SetTable) (b : Bool) : (tailTx ep es t b).2.2.led = t.led := by
  unfold tailTx
  split
  · exact relayAll_led _ _ _
  · rfl
theorem inD_add (D : SD) (k : Str) (u : Tok) (h : Int) : (inD (addTx h (.str k u) D)).Perm (k :: inD D) := by
  have hp := (layNew_perm D.2.2 D.1 h (.str k u)).map fun e => strOf e.2
  rw [Array.toList_push, List.map_append] at hp
  exact (tail_in ..).trans (hp.trans (List.perm_append_singleton _ _))
theorem ris_add (D : SD) (h : Int) (v : Value) (r : Ris D.2.2.place.toList) : Ris (addTx h v D).2.2.place.toList := by
  have one := layNew_ris D.2.2 D.1 h v r
  refine tail_ris ?_
  split <;> exact one
theorem led_add (D : SD) (h : Int) (v : Value) : (addTx h v D).2.2.led = D.2.2.led := by
  refine (tail_led ..).trans (Eq.trans ?_ (layNew_led D.2.2 D.1 h v))
  split <;> rfl
def insS (l : List Str) (k : Str) : List Str := if k ∈ l then l else k :: l
theorem insS_len (l : List Str) (k : Str) : (insS l k).length ≤ l.length + 1 := by
  unfold insS
  split
  · exact Nat.le_succ _
  · exact Nat.le_refl _
section
variable {P : Program} {w : World} {A : Around} {E : Value → Shared → Prop} {s : Shared} {a : Addr} {l : List Str} {k : Str} {u : Tok}
theorem add_had {D : SD} {T : String} {Q : Bool → Shared → Prop} (g : s.heap.get? a = some (sObj T D)) (F : TxOk P w D l) (hk : k ∈ l) (hb : l.length < scanBound) (h : Q false s) :
    wpAny (model P w) A (setAddHashed a (.str k u) (hashStr w k)) Q E s := by
  obtain ⟨es, ep, t⟩ := D
  have fit : t.fits es.size = true := F.fit
  have els : ElemsOf (strKind P w) es.toList := F.el
  have data : (sObj T (es, ep, t)).data = .set es ep t := rfl
  have big : es.size < scanBound := by have z : es.size = l.length := F.sz; omega
  unfold setAddHashed setAddHashedIn
  refine wpAny_holding (wpAny_bind (wpAny_setState_of g data fit ?_))
  dsimp only
  rw [byScan_of (x := .str k u) rfl big els]
  simp only [↓reduceIte]
  unfold setAddByScan
  refine wpAny_bind (wpAny_bind (wpAny_rule (wpAny_bind (wpAny_setScan_of (knd := strKind P w) (k := k) (is_str k u) g data fit els ?_))))
  obtain ⟨e, he, q⟩ := (F.mem k).mp hk
  cases fi : List.findIdx? (fun e => (strKind P w).is k e.2) es.toList with
  | none => exact absurd q (by rw [List.findIdx?_eq_none_iff.mp fi e he]; exact Bool.false_ne_true)
  | some j => exact wpAny_pure (wpAny_pure h)
theorem add_any {Q : Bool → Shared → Prop} (R : TxSet P w s.heap a l) (room : l.length + 1 < scanBound)
    (h : ∀ b h', Heap.SameBut a s.heap h' → TxSet P w h' a (insS l k) → Q b { s with heap := h' }) : wpAny (model P w) A (setAddHashed a (.str k u) (hashStr w k)) Q E s := by
  obtain ⟨⟨D, g, F, pm, r, ld⟩, nd, few⟩ := R
  by_cases hk : k ∈ l
  · have e : insS l k = l := if_pos hk
    rw [e] at h
    exact add_had g F hk few (h false s.heap (Heap.SameBut.refl a s.heap) ⟨⟨D, g, F, pm, r, ld⟩, nd, few⟩)
  · have e : insS l k = k :: l := if_neg hk
    rw [e] at h
    refine add_x g F hk room (h true _ (Heap.SameBut.update s.heap a _) ⟨⟨addTx (hashStr w k) (.str k u) D, PySem.Froz.get_upd _ g rfl, add_ok u F, (inD_add D k u _).trans (pm.cons k), ris_add D _ _ r, ?_⟩, List.nodup_cons.mpr ⟨hk, nd⟩, room⟩)
    rw [led_add]
    exact ld
end
section
variable {prog : Program} {w : World} {A : Around} {R : Result → Shared → Prop} {I : Addr} {fp wr : List Addr} {G : Array GenState → Array GenState → Prop} {n : Nat} {P : Nat → Value → Prop} {St : Nat → Shared → Prop}
theorem fold_len : ∀ (ys l : List Str), (ys.foldl insS l).length ≤ l.length + ys.length
  | [], l => Nat.le_refl _
  | y :: ys, l => by
    have a := fold_len ys (insS l y)
    have b := insS_len l y
    rw [List.foldl_cons, List.length_cons]
    omega
theorem upd_loop (W : WalksS prog w A.in1 I fp wr G n P St) {S : Addr} (out : S ∉ fp) {xs : List Str} (hx : xs.length = n) (hv : ∀ i v, P i v → ∃ x t, xs[i]? = some x ∧ v = .str x t) (hb : n + 1 < scanBound) :
    ∀ (m i : Nat) (s : Shared), n - i = m → i ≤ n → St i s → TxSet prog w s.heap S ((xs.take i).foldl insS []) →
      (∀ s', Moved (S :: wr) G s s' → TxSet prog w s'.heap S (xs.foldl insS []) → R (.ok (.ret .none)) s') →
      codeAny (model prog w) A (.builtin "set.update.loop" ⟨[.ref S, .ref I], []⟩) R s := by
  have out' : S ∉ wr := fun z => out (W.sub _ z)
  have more : ∀ b ∈ wr, b ∈ S :: wr := fun b z => List.mem_cons_of_mem _ z
  intro m
  induction m with
  | zero =>
    intro i s hm hi st T fin
    have full : xs.take i = xs := List.take_of_length_le (by omega)
    rw [full] at T
    have last : i = n := by omega
    subst last
    refine codeAny_builtin F.entry_set_update_loop (A := A) ?_
    rw [Around.under_plainId F.plain_set_update_loop _]
    show wpAny _ A.in1 (pyNext (.ref I) >>= _) _ _ s
    exact wpAny_bind (W.done s _ _ st fun s' mv => wpAny_pure (fin s' (mv.mono more) (T.at fun o z => mv.heap S o out' z)))
  | succ m ih =>
    intro i s hm hi st T fin
    have lt : i < n := by omega
    refine codeAny_builtin F.entry_set_update_loop (A := A) ?_
    rw [Around.under_plainId F.plain_set_update_loop _]
    show wpAny _ A.in1 (pyNext (.ref I) >>= _) _ _ s
    refine wpAny_bind (W.item i s _ _ lt st fun v s' hP st' mv => ?_)
    obtain ⟨x, t, hxi, rfl⟩ := hv i v hP
    have T' := T.at fun o z => mv.heap S o out' z
    show wpAny _ A.in1 (holding [Value.str x t] (setAdd S (.str x t)) >>= _) _ _ s'
    refine wpAny_bind (wpAny_holding ?_)
    unfold setAdd
    refine wpAny_holding (wpAny_bind ((strKind prog w).pyHash (k := x) (is_str x t) ?_))
    have room : ((xs.take i).foldl insS []).length + 1 < scanBound := by
      have z := fold_len (xs.take i) []
      have z2 := List.length_take_le i xs
      simp only [List.length_nil] at z
      omega
    refine add_any (s := { s' with toks := s'.toks + 1 }) T' room fun b h' same T2 => ?_
    have e2 : (xs.take (i + 1)).foldl insS [] = insS ((xs.take i).foldl insS []) x := by
      rw [List.take_add_one, hxi, List.foldl_append]
      rfl
    rw [← e2] at T2
    refine wpAny_pure ⟨plainId_quiet F.plain_set_update_loop _, ih (i + 1) _ (by omega) lt (W.frame _ s' _ _ st' (Nat.le_succ _) fun c hc o z => ?_) T2 fun s2 mv2 T3 => ?_⟩
    · exact (same.2 c fun e => out (e ▸ hc)).trans z
    · exact fin s2 (Moved.trans W.gtrans ((mv.mono more).then_heap (Nat.le_succ _) fun c o hc z => (same.2 c fun e => hc (by rw [e]; exact List.mem_cons_self ..)).trans z) mv2) T3
end
def newD (w : World) : SD := (#[], 0, .fresh 0 0 (!w.params.followText "set-order"))
theorem newD_ok {P : Program} {w : World} {h : Heap} {a : Addr} (e : h.get? a = some (sObj "set" (newD w))) : TxSet P w h a [] := by
  refine ⟨⟨newD w, e, .nil rfl, List.Perm.refl _, List.Pairwise.nil, ?_⟩, List.nodup_nil, by decide⟩
  show _ ∨ (!w.params.followText "set-order") = true
  cases w.params.followText "set-order"
  · exact .inr rfl
  · exact .inl rfl
theorem strs_nth : ∀ {us : List Value} {xs : List Str}, StrsAre us xs → ∀ (i : Nat) (v : Value), us[i]? = some v → ∃ x t, xs[i]? = some x ∧ v = .str x t
  | _, _, .nil, i, v, h => by simp at h
  | _, _, .cons x t r, 0, v, h => by
    simp only [List.getElem?_cons_zero, Option.some.injEq] at h
    exact ⟨x, t, rfl, h.symm⟩
  | _, _, .cons x t r, i + 1, v, h => by
    simp only [List.getElem?_cons_succ] at h ⊢
    exact strs_nth r i v h
section
variable {P : Program} {w : World} {A : Around} {E : Value → Shared → Prop} {s : Shared}
set_option maxHeartbeats 4000000 in
theorem set_texts {l : Addr} {its : Array Value} {xs : List Str} {Q : Value → Shared → Prop} (hh : A.handled = none) (hl : s.heap.IsList l its) (hx : StrsAre its.toList xs) (hb : xs.length + 1 < scanBound)
    (q : ∀ (h' : Heap) (tk : Nat), TxSet P w h' s.heap.objs.size (xs.foldl insS []) → (∀ b o, s.heap.get? b = some o → h'.get? b = some o) → Q (.ref s.heap.objs.size) { s with heap := h', toks := tk }) :
    wpAny (model P w) A (call (.type "set") [.ref l]) Q E s := by
  have cnt : its.size = xs.length := by
    have z := StrsAre.length hx
    rwa [Array.length_toList] at z
  obtain ⟨c, tl, mro⟩ := F.called_set.mro
  have made := F.called_set.made
  have sub := F.called_set.sub
  refine wpAny_call (codeAny_of_tree (show wpAny _ _ (callAny (.type "set") _) _ _ _ from ?_))
  refine wpAny_pure ⟨Code.quiet_builtin _ (by decide +kernel), codeAny_builtin F.entry_type_call (R := _) ?_⟩
  rw [Around.under_plain (weight_type_call_type "set" [Value.ref l] []) rfl]
  have g1 := F.called_set.notType
  have g2 := F.called_set.canCreate
  have g3 := F.typeCall_set_1 (Value.ref l)
  repeat (any_goals first | assumption | wp_step)
  refine codeAny_mono (code_set_led1 (.ref l) (E := E) (Q₁ := fun v s1 => v = .ref s.heap.objs.size ∧ s1 = { s with heap := s.heap.push (sObj "set" (newD w)) }) ⟨rfl, rfl⟩) fun r s1 hr => ?_
  cases r with
  | error e => exact hr
  | ok fl =>
    cases fl with
    | ret v =>
      obtain ⟨rfl, rfl⟩ := hr
      have at_ : (s.heap.push (sObj "set" (newD w))).get? s.heap.objs.size = some (sObj "set" (newD w)) := Heap.get?_push_size _ rfl
      have ty : Shared.TypeIs { s with heap := s.heap.push (sObj "set" (newD w)) } (.ref s.heap.objs.size) "set" := ⟨_, at_, rfl⟩
      have i1 := F.called_set.init.lookup
      have i2 := F.called_set.init.bind (.ref s.heap.objs.size)
      repeat (any_goals first | assumption | wp_step)
      refine codeAny_mono (codeAny_call_builtin (R := wants (fun v s2 => v = .none ∧ ∃ h' tk, s2 = { s with heap := h', toks := tk } ∧ TxSet P w h' s.heap.objs.size (xs.foldl insS []) ∧
          (∀ b o, s.heap.get? b = some o → h'.get? b = some o)) E) F.called_set.init.plain F.entry_set_init (check_set_init_1 ty ?_)) fun r2 s2 hr2 => ?_
      · obtain ⟨ol, e1, e2, nl, e3⟩ := hl
        obtain ⟨oc, od, ob, os⟩ := ol
        simp only at e2 e3
        subst e2; subst e3
        have lat : (s.heap.push (sObj "set" (newD w))).get? l = some { cls := .type "list", dict := od, data := .seq its nl, slots := os } := Heap.get?_push_of_some _ e1
        have f1 := F.sub_list_set
        have f2 := F.sub_list_frozenset
        have f3 : (Value.type "list" == Value.type "dict") = false := by decide
        have isl : (s.heap.push (sObj "set" (newD w))).IsList l its := ⟨_, lat, rfl, nl, rfl⟩
        unfold Builtin.«set.__init__» noKeywords Builtin.Frozenset.updateFrom
        generalize hp : pyIter = piter
        wp_walk
        subst hp
        refine wpAny_pyIter_list isl (wpAny_bind (wpAny_runValue ?_))
        have below : l < s.heap.objs.size := Heap.lt_size e1
        have z1 : (s.heap.push (sObj "set" (newD w))).objs.size = s.heap.objs.size + 1 := Heap.size_push ..
        have nI : l ≠ (s.heap.push (sObj "set" (newD w))).objs.size := by rw [z1]; exact Nat.ne_of_lt (Nat.lt_succ_of_lt below)
        have nS : s.heap.objs.size ∉ [(s.heap.push (sObj "set" (newD w))).objs.size, l] := by
          rw [z1]
          intro z
          rcases List.mem_cons.mp z with z | z
          · exact absurd z (Nat.ne_of_lt (Nat.lt_succ_self _))
          · exact absurd (List.mem_singleton.mp z).symm (Nat.ne_of_lt below)
        refine upd_loop ((Walks.list (A := A.in1.in1.in1) (by simp [hh]) _ l nI its).toS) nS (xs := xs) cnt.symm (fun i v e => strs_nth hx i v (by rw [Array.getElem?_toList]; exact e)) (by rw [cnt]; exact hb) (its.size - 0) 0 _ rfl (Nat.zero_le _)
          ?place ?first fun s3 mv T => ?_
        case place => exact ⟨⟨_, Heap.get?_push_size _ rfl, rfl, rfl⟩, isl.push _⟩
        case first => exact newD_ok (Heap.get?_push_of_some _ at_)
        obtain ⟨h3, g3, d3, t3, o3⟩ := s3
        have eg : g3 = s.gens := mv.gens
        have ed : d3 = s.drawn := mv.drawn
        have eo : o3 = s.os := mv.os
        subst eg; subst ed; subst eo
        show wpAny _ _ _ _ _ _
        refine wpAny_pure ?_
        show wpAny _ _ (ret Value.none) _ _ _
        refine wpAny_pure ⟨rfl, h3, t3, rfl, T, fun b o e => mv.heap b o ?_ (Heap.get?_push_of_some _ (Heap.get?_push_of_some _ e))⟩
        have lo := Heap.lt_size e
        intro z
        rcases List.mem_cons.mp z with z | z
        · exact absurd z (Nat.ne_of_lt lo)
        · have z := List.mem_singleton.mp z
          rw [z1] at z
          exact absurd z (Nat.ne_of_lt (Nat.lt_succ_of_lt lo))
      · cases r2 with
        | error e => exact hr2
        | ok fl2 =>
          cases fl2 with
          | ret v2 =>
            obtain ⟨rfl, h3, t3, rfl, T, kp⟩ := hr2
            repeat (any_goals first | assumption | wp_step)
            exact q h3 t3 T kp
          | _ => exact hr2.elim
    | _ => exact hr.elim
end
end FL
namespace FL
open PySem PySem.Spec PyProof.Rows L2 SrtO
open PySem.Froz (SD sObj TxOk addTx tailTx is_str add_ok add_x)
def ltS (v u : Value) : Bool := decide ((strOf v).cps.toList < (strOf u).cps.toList)
theorem swo_str : Swo ltS := by
  refine ⟨fun x y h => ?_, fun x y z h1 h2 => ?_⟩
  · have a := of_decide_eq_true (p := (strOf x).cps.toList < (strOf y).cps.toList) h
    exact decide_eq_false (p := (strOf y).cps.toList < (strOf x).cps.toList) (List.lt_asymm a)
  · have a := of_decide_eq_false (p := (strOf y).cps.toList < (strOf x).cps.toList) h1
    have b := of_decide_eq_false (p := (strOf z).cps.toList < (strOf y).cps.toList) h2
    exact decide_eq_false (p := (strOf z).cps.toList < (strOf x).cps.toList) (List.not_lt.mpr (List.le_trans (List.not_lt.mp a) (List.not_lt.mp b)))
section
variable {P : Program} {w : World} {A : Around} {E : Value → Shared → Prop} {s : Shared} {a : Addr}
theorem str_cmp {vs : List Value} {xs : List Str} (hx : StrsAre vs xs) : Cmp P w A s oneType' (fun p => p.1 ∈ vs) (lt2 ltS) := by
  intro p q hp hq
  obtain ⟨x, t, e⟩ := hx.all _ hp
  obtain ⟨y, u, e'⟩ := hx.all _ hq
  show wpAny (model P w) A (keyLt' oneType' p.1 q.1) (fun r s' => s' = s ∧ r = ltS p.1 q.1) (fun _ _ => False) s
  rw [e, e', keyLt'_oneType]
  exact oneLt_str ⟨rfl, rfl⟩
theorem strs_sortable {vs : List Value} {xs : List Str} (hx : StrsAre vs xs) (two : 2 ≤ vs.length) : SortableO P w A s a vs ltS := by
  intro h' _
  refine ⟨oneType', fun Q E q => ?_, str_cmp hx⟩
  match vs, hx, two with
  | v :: u :: rest, hx, _ =>
    rw [keyKind_strs hx]
    exact wpAny_pure q
  | [], _, h => exact absurd h (by decide)
  | [v], _, h => exact absurd h (by simp)
theorem sorted_texts {l : List Str} {Q : Value → Shared → Prop} (R : TxSet P w s.heap a l) (hh : A.handled = none)
    (q : ∀ s' p (out : Array Value) (c : Nat) (ys : List Str), (∀ b o, s.heap.get? b = some o → s'.heap.get? b = some o) → s'.gens = s.gens → s'.os = s.os → s.heap.objs.size ≤ p →
      s'.heap.get? p = some (seqObj "list" out c) → StrsAre out.toList ys → ys.Perm l → ys.Pairwise (fun x y => ¬ y.cps.toList < x.cps.toList) → Q (.ref p) s') :
    wpAny (model P w) A (call (.builtin "sorted") [.ref a]) Q E s := by
  obtain ⟨⟨D, g, F, pm, r, ld⟩, nd, few⟩ := R
  obtain ⟨es, ep, t⟩ := D
  have sz : es.size = l.length := F.sz
  refine Calls.call_function_entry kind_sorted plain_sorted entry_sorted (args_sorted1 _) ?_
  unfold Builtin.«sorted»
  refine wpAny_bind (m := checkCount "sorted" 1 1 _) (wpAny_pure ?_)
  refine wpAny_bind (collect_set (A := A.in1) (es := es) (ep := ep) (t := t) hh ⟨_, g, rfl, rfl⟩ F.fit (by omega) r ld fun s1 vs k1 z1 g1 o1 pv => ?_)
  have all : ∀ v ∈ vs, ∃ x t, v = .str x t := fun v hv => by
    obtain ⟨e, he, rfl⟩ := List.mem_map.mp (pv.mem_iff.mp hv)
    obtain ⟨⟨k, hk, _⟩, _⟩ := F.el e he
    obtain ⟨t, e2⟩ := Value.isStrOf_shape hk
    exact ⟨k, t, e2⟩
  have hx := strsAre_map vs all
  have len : vs.length = l.length := by rw [pv.length_eq, List.length_map, Array.length_toList, sz]
  have line : vs.length ≤ sizeLine := by rw [len]; exact fits_of_scanBound few
  have pn : (vs.map strOf).Perm l := by
    have z := pv.map strOf
    rw [List.map_map] at z
    exact z.trans pm
  refine wpAny_bind (wpAny_newList ?_ line)
  have hoL : (s1.heap.push (seqObj "list" vs.toArray 0)).get? s1.heap.objs.size = some (seqObj "list" vs.toArray 0) := Heap.get?_push_size _ rfl
  refine wpAny_bind (wpAny_holding (wpAny_call_entry slot_list_sort ⟨_, hoL, rfl⟩ entry_list_sort (list_sort_ord swo_str hoL line (fun two => strs_sortable hx two) fun out hs hb => ⟨_, rfl, ?_⟩) (args_list_sort _)))
  obtain ⟨c, hc⟩ := sortedHeap_at (vs := vs) (out := out.toArray) hoL
  refine wpAny_pure ⟨_, rfl, q _ s1.heap.objs.size out.toArray c (out.map strOf) (fun b u e => ?_) g1 o1 z1 hc (strsAre_map out fun v hv => all v (hb.perm.mem_iff.mp hv)) ((hb.perm.map strOf).trans pn) ?_⟩
  · have z := k1 b u e
    have lo := Heap.lt_size z
    show (sortedHeap (s1.heap.push (seqObj "list" vs.toArray 0)) s1.heap.objs.size vs out.toArray).get? b = some u
    rw [sortedHeap_old (Nat.ne_of_lt lo) (by rw [size_push']; exact Nat.lt_succ_of_lt lo)]
    exact Heap.get?_push_of_some _ z
  · exact List.pairwise_map.mpr (hs.imp fun {x y} h => of_decide_eq_false (p := (strOf y).cps.toList < (strOf x).cps.toList) h)
end
def SetSO (P : Program) (w : World) (a : Addr) (l : List Str) : HO := .ext fun h => TxSet P w h a l
theorem setSO_new {w : World} {P : Program} {H : Hp} {h : Heap} {a : Addr} {l : List Str} (R : TxSet P w h a l) : ObjOk P w H h a (SetSO P w a l) := by
  have ⟨⟨D, g, _⟩, _, _⟩ := R
  exact ⟨R, ⟨_, g⟩, fun h1 h2 p k => TxSet.at p k⟩
def rSetS (K : PySem.W.Frag) (P : Program) (w : World) : List V → Hp → VK → Prop := fun xs H Q => ∃ (l : Addr) (ys : List Str), xs = [V.ref l] ∧ SqL K H l (ys.map V.str) ∧ ys.length + 1 < scanBound ∧
  ∀ a, H a = none → Q (.ref a) (upd H a (SetSO P w a (ys.foldl insS [])))
def rSortS (P : Program) (w : World) : List V → Hp → VK → Prop := fun xs H Q => ∃ (a : Addr) (l : List Str), xs = [V.ref a] ∧ H a = some (SetSO P w a l) ∧
  ∀ (ys : List Str) (p : Addr), ys.Perm l → ys.Nodup → ys.Pairwise (fun x y => ¬ y.cps.toList < x.cps.toList) → H p = none → Q (.ref p) (upd H p (.lst (ys.map V.str)))
theorem vals_strs : ∀ {us : List Value} {xs : List Str}, StrsAre us xs → Vals (xs.map V.str) us
  | _, _, .nil => .nil
  | _, _, .cons x t r => .cons ⟨t, rfl⟩ (vals_strs r)
section
variable {X : Cx}
theorem cr_setS (hc : X.calm = true) : CallR X (.type "set") (rSetS X.K X.prog X.w) := by
  intro pins s σ H xs us Q I r h
  obtain ⟨l, ys, rfl, hl, few, q⟩ := h
  rw [Vals.ref1 r]
  obtain ⟨its, rv, pl, hz⟩ := I.list hl
  refine set_texts (P := X.prog) (w := X.w) (xs := ys) (I.ok.hd hc) pl.isList (by simpa using strsAre_of rv) few fun h' tk T kp => ?_
  exact ⟨.ref s.heap.objs.size, upd H s.heap.objs.size (SetSO X.prog X.w s.heap.objs.size (ys.foldl insS [])), I.laid (t' := tk) kp (Nat.le_refl _) (setSO_new T), rfl, q _ (I.hok.fresh (Nat.le_refl _))⟩
theorem cr_sortS (hc : X.calm = true) : CallR X (.builtin "sorted") (rSortS X.prog X.w) := by
  intro pins s σ H xs us Q I r h
  obtain ⟨a, l, rfl, ha, q⟩ := h
  have R : TxSet X.prog X.w s.heap a l := (I.hok a _ ha).1
  rw [Vals.ref1 r]
  refine sorted_texts R (I.ok.hd hc) fun s' p out c ys kp g o lo at_ hx pm pw => ?_
  have line : (ys.map V.str).length ≤ sizeLine := by
    rw [List.length_map, pm.length_eq]
    exact fits_of_scanBound R.few
  have free : H p = none := I.hok.fresh lo
  have J : Inv X pins σ (upd H p (.lst (ys.map V.str))) { s with heap := s'.heap, gens := s'.gens, drawn := s'.drawn, toks := s'.toks } :=
    I.call (ch := []) (Un.laid kp lo free) (I.hok.laid kp lo ⟨line, out.toList, c, vals_strs hx, at_⟩) (by rw [g]; exact I.bare) (fun _ z => nomatch z)
  have same : s' = { s with heap := s'.heap, gens := s'.gens, drawn := s'.drawn, toks := s'.toks } := by
    cases s'
    cases s
    cases o
    rfl
  rw [same]
  exact ⟨.ref p, _, J, rfl, q ys p pm (pm.nodup_iff.mpr R.nd) pw free⟩
end
def txOf : D → Tx
  | .str x => x
  | _ => []
def isTx : D → Bool
  | .str _ => true
  | _ => false
def insT (l : List Tx) (k : Tx) : List Tx := if k ∈ l then l else k :: l
def sortT (xs : List Tx) : List Tx := (xs.foldl insT []).mergeSort fun a b => decide (¬ b < a)
def gSS : List D → Option Slot
  | [.lst xs] => if xs.all isTx = true ∧ xs.length < 4000 then some (.own (.lst ((sortT (xs.map txOf)).map .str))) else none
  | _ => none
theorem ins_toS (l : List Tx) (k : Tx) : insS (l.map toS) (toS k) = (insT l k).map toS := by
  unfold insS insT
  have inj : toS k ∈ l.map toS ↔ k ∈ l := by
    constructor
    · intro h
      obtain ⟨y, hy, e⟩ := List.mem_map.mp h
      have e : y = k := by simpa [toS] using congrArg (fun s : Str => s.cps.toList) e
      exact e ▸ hy
    · exact fun h => List.mem_map.mpr ⟨k, h, rfl⟩
  by_cases h : k ∈ l
  · rw [if_pos h, if_pos (inj.mpr h)]
  · rw [if_neg h, if_neg (fun z => h (inj.mp z))]
    rfl
theorem fold_toS : ∀ (xs l : List Tx), (xs.map toS).foldl insS (l.map toS) = (xs.foldl insT l).map toS
  | [], l => rfl
  | x :: xs, l => by
    rw [List.map_cons, List.foldl_cons, ins_toS, fold_toS xs]
    rfl
theorem tx_map : ∀ {xs : List D}, xs.all isTx = true → xs = (xs.map txOf).map .str
  | [], _ => rfl
  | x :: xs, h => by
    rw [List.all_cons, Bool.and_eq_true] at h
    cases x <;> first | (exact absurd h.1 Bool.false_ne_true) | skip
    rw [List.map_cons, List.map_cons, ← tx_map h.2]
    rfl
theorem rep_strs {K : PySem.W.Frag} {mg : Str → Option Value} {F : Hp} {ρ : List Addr} : ∀ {xs : List Tx} {vs : List V}, RepL K mg F ρ vs (xs.map .str) → vs = (xs.map toS).map V.str
  | [], _, .nil => rfl
  | x :: xs, _, .cons h t => by
    cases h
    rw [rep_strs t]
    rfl
theorem sortT_perm (xs : List Tx) : (sortT xs).Perm (xs.foldl insT []) := List.mergeSort_perm _ _
theorem sortT_le (xs : List Tx) : (sortT xs).Pairwise fun a b => ¬ b < a := by
  have := List.pairwise_mergeSort (le := fun a b : Tx => decide (¬ b < a)) (fun a b c h1 h2 => by
    have h1 := of_decide_eq_true h1
    have h2 := of_decide_eq_true h2
    exact decide_eq_true (List.not_lt.mpr (List.le_trans (List.not_lt.mp h1) (List.not_lt.mp h2)))) (fun a b => by
    by_cases h : b < a
    · simp [h, List.not_lt.mpr (List.le_of_lt h)]
    · simp [h]) (xs.foldl insT [])
  exact this.imp fun {a b} h => of_decide_eq_true h
theorem sortT_uniq {xs ys : List Tx} (hp : ys.Perm (xs.foldl insT [])) (h : ys.Pairwise fun a b => ¬ b < a) : ys = sortT xs :=
  (hp.trans (sortT_perm xs).symm).eq_of_pairwise (le := fun a b => ¬ b < a) (fun a b _ _ h1 h2 => List.le_antisymm (List.not_lt.mp h1) (List.not_lt.mp h2)) h (sortT_le xs)
section
variable {X : Cx} {W : WX} {k : Nat} {N : List Str} {sc : Scope} {e : Expr} {os : List Opn} {pos p pos' p' : Pos}
def rSS (X : Cx) : List V → Hp → VK → Prop := fun xs H Q => rSetS X.K X.prog X.w xs H fun v H1 => rSortS X.prog X.w [v] H1 Q
theorem j_ss : RLJ X (rSS X) gSS := by
  intro Z F ρ μ δ σ H xs ds s Q S bs e q
  unfold gSS at e
  split at e
  · rename_i ys
    by_cases hc : ys.all isTx = true ∧ ys.length < 4000
    · rw [if_pos hc] at e
      cases e
      obtain ⟨v, rfl, bv⟩ := bs.one
      obtain ⟨a, vs, rfl, hH, rl⟩ := bv.lst S
      have hy := tx_map hc.1
      rw [hy] at rl
      have hv := rep_strs rl
      subst hv
      refine ⟨a, (ys.map txOf).map toS, rfl, .of hH, by rw [List.length_map, List.length_map]; unfold scanBound; omega, fun b hb => ?_⟩
      refine ⟨b, _, rfl, upd_same, fun zs p pm nd pw free => ?_⟩
      rw [show ([] : List Str) = ([] : List Tx).map toS from rfl, fold_toS] at pm
      obtain ⟨zt, p1, p2⟩ := perm_back pm
      subst p2
      have pz : zt.Pairwise fun a b => ¬ b < a := by
        have z := List.pairwise_map.mp pw
        exact z.imp fun {a b} h => by simpa [toS] using h
      have ez : zt = sortT (ys.map txOf) := sortT_uniq p1 pz
      subst ez
      have S1 := S.laid (o := SetSO X.prog X.w b (((ys.map txOf).map toS).foldl insS [])) hb
      obtain ⟨S2, vr⟩ := vr_newL S1 free (RepL.ofStrs (K := X.K) (mg := X.mg) (F := F) (ρ := ρ) (sortT (ys.map txOf)))
      exact q _ _ F .refl S2 vr
    · rw [if_neg hc] at e; cases e
  · cases e
theorem Cs.ss (C : Cs X W k N sc) (h1 : glC sc "sorted" = true) (m1 : X.mg "sorted" = none) (h2 : glC sc "set" = true) (m2 : X.mg "set" = none) (ha : JOs X W [e] os)
    (he : starEach [e] X.env = (false, eval e X.env) :: starEach [] X.env := by rfl)
    (he2 : starEach [.Call (.Name "set" p') [e] [] pos'] X.env = (false, eval (.Call (.Name "set" p') [e] [] pos') X.env) :: starEach [] X.env := by rfl) :
    JE X W (.Call (.Name "sorted" p) [.Call (.Name "set" p') [e] [] pos'] [] pos) (mC gSS os) :=
  (pe_callB (cr_sortS C.calm) (C.gl h1).1 m1 rfl (pa_cons (pe_callTy (cr_setS C.calm) (C.gl h2).1 m2 rfl ha (by decide) (by decide) he rfl) pa_nil he2) (by decide) (by decide) he2 rfl).imp (mC_read j_ss)
end
end FL
namespace FL
open PySem PySem.Spec PyProof.Rows L2 SrtO
section
variable {X : Cx} {W : WX} {k : Nat} {N : List Str} {sc : Scope} {e : Expr} {os : List Opn} {o : Opn} {pos p pos' p' : Pos}
def mLR (m : ME) : ME := fun δ μ => (m δ μ).bind fun s δ1 μ1 => match s with
  | .fr (.int n) => if 0 ≤ n ∧ n ≤ 16777216 then .ok (.own (.lst (rangeD 0 n.toNat))) δ1 μ1 else .bad
  | _ => .bad
theorem je_lr {m : ME} (hc : X.calm = true) (hg : Gl X "list") (hm : X.mg "list" = none) (hg2 : Gl X "range") (hm2 : X.mg "range" = none) (he : JE X W e m)
    (n1 : starEach [e] X.env = (false, eval e X.env) :: starEach [] X.env := by rfl)
    (n2 : starEach [.Call (.Name "range" p') [e] [] pos'] X.env = (false, eval (.Call (.Name "range" p') [e] [] pos') X.env) :: starEach [] X.env := by rfl) :
    JE X W (.Call (.Name "list" p) [.Call (.Name "range" p') [e] [] pos'] [] pos) (mLR m) := by
  refine (pe_listRg hc hg hm (prg_1 hg2 hm2 he n1) n2).imp fun σ H Q ⟨Z, F, ρ, μ, δ, S, q⟩ => ⟨Z, F, ρ, μ, δ, S, (FinE.bind q).imp fun s δ1 μ1 H1 F1 ρ1 l lr S1 ⟨_, _, _, z⟩ v rv => ?_⟩
  match s, z, rv with
  | .fr (.int n), z, rv =>
    have z : FinE X W Z F1 ρ1 σ _ (if 0 ≤ n ∧ n ≤ 16777216 then Out.ok (Slot.own (Own.lst (rangeD 0 n.toNat))) δ1 μ1 else .bad) := z
    by_cases c : 0 ≤ n ∧ n ≤ 16777216
    · rw [if_pos c] at z
      have hv : Rep X.K X.mg F1 ρ1 v (.int n) := rv.r
      cases hv
      refine ⟨n, rfl, .of_le (by decide) (by omega) (by decide) c.1, fun a free => ?_⟩
      have e1 : rgV 0 n = ((List.range n.toNat).map fun i => (0 : Int) + (i : Nat)).map V.int := by
        unfold rgV
        rw [Int.sub_zero, List.map_map]
        rfl
      have e2 : rangeD 0 n.toNat = ((List.range n.toNat).map fun i => (0 : Int) + (i : Nat)).map D.int := by
        unfold rangeD
        rw [List.map_map]
        rfl
      rw [e1]
      rw [e2] at z
      obtain ⟨S2, vr⟩ := vr_newL S1 free (RepL.ofInts (K := X.K) (mg := X.mg) (F := F1) (ρ := ρ1) _)
      exact z _ F1 ρ1 .refl .refl S2 _ vr
    · rw [if_neg c] at z; exact z.elim
  | .own _, z, _ => exact z.elim
  | .fr .non, z, _ | .fr (.bl _), z, _ | .fr (.str _), z, _ | .fr (.lst _), z, _ | .fr (.tup _), z, _ | .fr (.ro _), z, _ | .fr (.dct _ _), z, _ | .fr (.obj _), z, _ | .fr (.glo _), z, _ | .fr (.ty _), z, _ | .fr (.exn _ _ _), z, _ | .fr (.ins _ _ _), z, _ | .fr .unk, z, _ => exact z.elim
theorem Cs.lr {m : ME} (C : Cs X W k N sc) (h1 : glC sc "list" = true) (m1 : X.mg "list" = none) (h2 : glC sc "range" = true) (m2 : X.mg "range" = none) (he : JE X W e m)
    (n1 : starEach [e] X.env = (false, eval e X.env) :: starEach [] X.env := by rfl)
    (n2 : starEach [.Call (.Name "range" p') [e] [] pos'] X.env = (false, eval (.Call (.Name "range" p') [e] [] pos') X.env) :: starEach [] X.env := by rfl) :
    JE X W (.Call (.Name "list" p) [.Call (.Name "range" p') [e] [] pos'] [] pos) (mLR m) := je_lr C.calm (C.gl h1).1 m1 (C.gl h2).1 m2 he n1 n2
end
end FL
namespace FL
open PySem L2
def Ends (y : Tx) : Prop := y = [] ∨ ∃ q c, y = q ++ [c] ∧ lo1 c ∉ WS
end FL
namespace FL
open PySem PySem.Spec PyProof.Rows L2 LamX
theorem fnG_cs {P : Program} {w : World} {K : PySem.W.Frag} {mg : Str → Option Value} {base : Heap} {k n : Nat} {f cda cc Dc : Addr} {x qual : Str} {st : Stmt} {fd : FuncData} {N ps : List Str} {m : MS} {dV : Value} {sc : Scope} (F : FdC K x qual st f fd dV cda cc Dc) (S : ClsScope N ps sc) (hsc : defScope st = sc) (hn : ps.length = n)
    (hbody : ∀ (X : Cx) (W : WX), X.prog = P → X.w = w → X.K = K → X.mg = mg → X.base = base → Cd X W k N sc → (∀ p0, SupP X.prog X.K X.mg f cda cc Dc p0 sc N → SupT X f cda cc Dc p0) → JWb X W (defBody st) (defBody st) m) : FnG P w K mg base (L2.CX P w) (k + 1) f fd ps (spM K mg (mFn N.length m) n) := by
  subst hsc
  exact fnG_c F S hn fun X W h1 h2 h3 h4 h5 C Z => hbody X W h1 h2 h3 h4 h5 C fun p0 h => h.t C Z
structure FdK (K : PySem.W.Frag) (x qual : Str) (st : Stmt) (f : Addr) (kV : Value) (cda cc : Addr) (fd : FuncData) : Prop where
  ex : ∃ (oc : Value) (od : Option Addr) (doc pm : Value) (an : Option Addr) (ct : Value) (osl : Array (Option Value)),
    fd = PySem.W.ksFn x qual (defArgs st) (defBody st) (defScope st) .none kV doc pm an (.ref cda) ct cc ∧ K.lookup f = some { cls := oc, dict := od, data := .func fd, slots := osl }
  cd : PySem.W.codeIn K (.ref cda) qual = true
section
variable {fs : List (PySem.W.Frag → Bool)} {ds : List Dsc} {ts : Mks} {K : PySem.W.Frag}
theorem HkSays.fk (c : HkSays fs ds ts K) (i : Nat) {d : Dsc} (h : ds[i]? = some d) (hc : d.clo = ([("__class__" : Str)] : List Str)) (hn : d.nd = true := by rfl) : ∃ fd, FdK K d.x d.qual d.st (fAdF K d.p) (kvAd K d.p) (codeAd K d.p) (ccAd K d.p) fd := by
  obtain ⟨oc, od, osl, kV, doc, pm, an, cdv, ct, clo, e1, e2, e3⟩ := c.fn i h hn
  rw [hc] at e1
  match clo, e1 with
  | [(y, cc)], e1 =>
    have e1 : y = ("__class__" : Str) := (List.cons.inj (show [y] = ([("__class__" : Str)] : List Str) from e1)).1
    subst e1
    cases cdv with
    | ref cda =>
      have k1 : kvAd K d.p = kV := by unfold kvAd; rw [e2]
      have k2 : ccAd K d.p = cc := by unfold ccAd; rw [e2]
      have k3 : codeAd K d.p = cda := by unfold codeAd; rw [e2]
      rw [k1, k2, k3]
      exact ⟨_, ⟨oc, od, doc, pm, an, ct, osl, rfl, e2⟩, e3⟩
    | _ => cases e3
theorem HkSays.fl (c : HkSays fs ds ts K) (i : Nat) {d : Dsc} (h : ds[i]? = some d) (hc : d.clo = []) (hn : d.nd = true := by rfl) : ∃ fd, FdL K d.x d.qual d.st (fAdF K d.p) fd .none (codeAd K d.p) := by
  obtain ⟨oc, od, osl, kV, doc, pm, an, cdv, ct, clo, e1, e2, e3⟩ := c.fn i h hn
  rw [hc] at e1
  have e1 : clo = [] := List.map_eq_nil_iff.mp e1
  subst e1
  cases cdv with
  | ref cda =>
    have k3 : codeAd K d.p = cda := by unfold codeAd; rw [e2]
    rw [k3]
    exact ⟨_, oc, od, kV, doc, pm, an, ct, osl, rfl, e2, e3⟩
  | _ => cases e3
end
structure CellOk (K : PySem.W.Frag) (cda cc D : Addr) (file : Str) : Prop where
  cell : ∃ cl cld csl, K.lookup cc = some { cls := cl, dict := cld, data := .cell (some (.ref D)), slots := csl }
  code : ∃ ccl cdd vs ccs fl tf, K.lookup cda = some { cls := ccl, dict := cdd, data := .fields vs, slots := ccs } ∧ vs[2]? = some (.str fl tf) ∧ (file == fl) = true
  clsD : ∃ cdD, PySem.W.clsIn K D = some cdD
  any : PySem.W.nsIn K cStatics "thirdparty.any" = some none
theorem tCell_ok {K : PySem.W.Frag} {c m file : Str} (h : tCell c m file K = true) : CellOk K (codeAd K (c, some m)) (ccAd K (c, some m)) (He.ga K c) file := by
  obtain ⟨h1, h⟩ := Bool.and_eq_true_iff.mp h
  obtain ⟨h2, h⟩ := Bool.and_eq_true_iff.mp h
  obtain ⟨h3, h4⟩ := Bool.and_eq_true_iff.mp h
  refine ⟨?_, ?_, Option.isSome_iff_exists.mp h3, of_decide_eq_true h4⟩
  · split at h1
    · rename_i cl cld v csl e
      have h1 := of_decide_eq_true h1
      subst h1
      exact ⟨_, _, _, e⟩
    · cases h1
  · split at h2
    · rename_i ccl cdd vs ccs e
      split at h2
      · rename_i f tf e2
        exact ⟨_, _, _, _, _, _, e, e2, h2⟩
      · cases h2
    · cases h2
theorem FdK.fc {K : PySem.W.Frag} {x qual : Str} {st : Stmt} {f : Addr} {kV : Value} {cda cc D : Addr} {fd : FuncData} {file : Str} (F : FdK K x qual st f kV cda cc fd) (C : CellOk K cda cc D file) : FdC K x qual st f fd .none cda cc D :=
  let ⟨oc, od, doc, pm, an, ct, osl, h1, h2⟩ := F.ex
  ⟨⟨oc, od, kV, doc, pm, an, ct, osl, h1, h2⟩, F.cd, C.cell⟩
theorem supP_of {P : Program} {mg : Str → Option Value} {K : PySem.W.Frag} {x qual p0 : Str} {st : Stmt} {f : Addr} {kV : Value} {cda cc D : Addr} {fd : FuncData} {N : List Str} {sc : Scope} (F : FdK K x qual st f kV cda cc fd) (C : CellOk K cda cc D P.main.file) (sup : mg "super" = none) (hsc : defScope st = sc)
    (self : ∃ ar, ((defArgs st).posonlyargs ++ (defArgs st).args).head? = some ar ∧ ar.arg = p0) (top : (P.main.scope.names.lookup ("super" : Str)).isSome = false) (ls : sc.names.lookup ("super" : Str) = some .globalImplicit)
    (lc : sc.names.lookup ("__class__" : Str) = some .free) (l0 : sc.names.lookup p0 = some .local) (n0 : N[0]? = some p0) : SupP P K mg f cda cc D p0 sc N := by
  subst hsc
  obtain ⟨oc, od, doc, pm, an, ct, osl, h1, h2⟩ := F.ex
  obtain ⟨ar, s1, s2⟩ := self
  exact ⟨⟨_, fd, ar, h2, rfl, by rw [h1]; exact s1, s2⟩, C.code, C.cell, C.clsD, C.any, top, sup, ls, lc, l0, n0⟩
theorem tFn_ok {K : PySem.W.Frag} {h : Heap} {mg : Str → Option Value} {x : Str} (X : K.In h) (G : h.Ns mainGlobals mg) (t : tFn x K = true) : mg x = some (.ref (fAdF K (x, none))) ∧ PySem.W.keepIn K (.ref (fAdF K (x, none))) = true := by
  obtain ⟨t1, t⟩ := Bool.and_eq_true_iff.mp t
  obtain ⟨t2, t3⟩ := Bool.and_eq_true_iff.mp t
  rw [of_decide_eq_true t3]
  exact ⟨He.glo_ok X G t1, He.keep_ok t2⟩
theorem FdK.bind1 {K : PySem.W.Frag} {x qual : Str} {st : Stmt} {f : Addr} {kV : Value} {cda cc : Addr} {fd : FuncData} {ps ks : List Str} {n : Nat} {sel : List Sel} {dw : List Value} (F : FdK K x qual st f kV cda cc fd)
    (h : ∀ (doc pm : Value) (an : Option Addr) (cdv ct : Value) (cc : Addr), BindW1 K (PySem.W.ksFn x qual (defArgs st) (defBody st) (defScope st) .none kV doc pm an cdv ct cc) ps n ks sel dw) : BindW1 K fd ps n ks sel dw := by
  obtain ⟨oc, od, doc, pm, an, ct, osl, h1, h2⟩ := F.ex
  rw [h1]
  exact h _ _ _ _ _ _
theorem xcH {P : Program} {w : World} {K : PySem.W.Frag} {h : Heap} {mg : Str → Option Value} {base : Heap} {c at_ : String} {st : Stmt} {p0 p1 : Str} {q : Nat → Pos} {sc : Scope} {qual : Str} {kV : Value} {fd : FuncData} (S : SupS P st p0 p1 (Str.ofString at_) q sc) (hm : mg (Str.ofString c) = some (.ref (He.ga K (Str.ofString c)))) (hsup : mg "super" = none)
    (T : tExc (Str.ofString c) (Str.ofString at_) K = true) (F : FdK K "__init__" qual st (fAdF K (Str.ofString c, some "__init__")) kV (codeAd K (Str.ofString c, some "__init__")) (ccAd K (Str.ofString c, some "__init__")) fd) (C : CellOk K (codeAd K (Str.ofString c, some "__init__")) (ccAd K (Str.ofString c, some "__init__")) (He.ga K (Str.ofString c)) P.main.file)
    (hb : ∀ (kV doc pm : Value) (an : Option Addr) (cdv ct : Value) (cc : Addr) (us : List Value), us.length = [p0, p1].length → bindArgs (PySem.W.ksFn "__init__" qual (defArgs st) (defBody st) (defScope st) .none kV doc pm an cdv ct cc) ⟨us, []⟩ = pure ([p0, p1].zip us)) : Xc P w K mg base c at_ := by
  obtain ⟨t0, T⟩ := Bool.and_eq_true_iff.mp T
  obtain ⟨t1, T⟩ := Bool.and_eq_true_iff.mp T
  obtain ⟨t2, T⟩ := Bool.and_eq_true_iff.mp T
  obtain ⟨t3, T⟩ := Bool.and_eq_true_iff.mp T
  obtain ⟨t4, T⟩ := Bool.and_eq_true_iff.mp T
  obtain ⟨t5, T⟩ := Bool.and_eq_true_iff.mp T
  obtain ⟨t6, T⟩ := Bool.and_eq_true_iff.mp T
  obtain ⟨t7, T⟩ := Bool.and_eq_true_iff.mp T
  obtain ⟨t8, T⟩ := Bool.and_eq_true_iff.mp T
  obtain ⟨t9, t10⟩ := Bool.and_eq_true_iff.mp T
  obtain ⟨ccl, cdd, vs, ccs, fl, tf, lcd, hvs, hfile⟩ := C.code
  obtain ⟨cl, cld, csl, lcc⟩ := C.cell
  obtain ⟨oc, od, doc, pm, an, ct, osl, rfl, lI⟩ := F.ex
  split at t0
  · rename_i T dd cd sl ho
    split at t0
    · rename_i C' bm k0 k1 k2 k3 n k5 hmr hs
      simp only [Bool.and_eq_true, beq_iff_eq, Bool.not_eq_true', decide_eq_true_eq] at t0
      obtain ⟨hT, hC', hn, hdel, hd, hbm⟩ := t0
      subst hT hn
      obtain ⟨nm, bs, mro, ns, qn, hdct, sn, sub, ab, col, del⟩ := cd
      dsimp only at hmr hdel hd
      subst hmr hdel hd
      have hsl : sl = #[k0, k1, k2, k3, some (.builtin "ValueError.__new__"), k5] := by
        obtain ⟨l⟩ := sl
        simp only at hs
        rw [hs]
      subst hsl
      rw [hC'] at ho
      exact xc_of S hm hsup ho hbm (of_decide_eq_true t1) (of_decide_eq_true t2) (of_decide_eq_true t3) t4 (of_decide_eq_true t5) (of_decide_eq_true t6) lI F.cd lcd hvs hfile lcc C.any (of_decide_eq_true t7) (of_decide_eq_true t8) (of_decide_eq_true t9) (of_decide_eq_true t10) (hb _ _ _ _ _ _ _)
    · cases t0
  · cases t0
theorem attsOk_of {K : PySem.W.Frag} {h : Heap} {mg : Str → Option Value} (X : K.In h) (G : h.Ns mainGlobals mg) : ∀ (t : AttTb), tAtts t K = true → AttsOk K mg (attT t) := by
  intro t
  induction t with
  | nil => intro _ c f C n; exact absurd rfl n
  | cons e t ih =>
    intro ht c f C n hC
    obtain ⟨h1, h2⟩ := Bool.and_eq_true_iff.mp (show (tAtt1 e K && t.all fun e => tAtt1 e K) = true from by simpa [tAtts] using ht)
    obtain ⟨c', f', o⟩ := e
    by_cases hc : c = c' ∧ f = f'
    · obtain ⟨rfl, rfl⟩ := hc
      have e1 : attT ((c, f, o) :: t) c f = attV o := by simp [attT]
      rw [e1]
      obtain ⟨g1, g2⟩ := Bool.and_eq_true_iff.mp h1
      have g1 := He.glo_ok X G g1
      rw [hC] at g1
      cases g1
      cases o with
      | none =>
        obtain ⟨a, b⟩ := tFld_ok g2
        exact ⟨a, b⟩
      | some s =>
        obtain ⟨a, u, b⟩ := tCon_ok g2
        refine ⟨a, _, u, b, fun F ρ => ?_⟩
        rw [ofS_lit]
        exact .str
    · have e1 : attT ((c', f', o) :: t) c f = attT t c f := by simp [attT, hc]
      rw [e1] at n ⊢
      exact ih h2 c f C n hC
def PrpB (K : PySem.W.Frag) (mg : Str → Option Value) (t : PrpTb) : Prop := ∀ c f b, prpT t c f = some b → ∀ C, mg (Str.ofString c) = some (.ref C) → Cls K C ∧ ∃ p, PropOf K C (Str.ofString f) p (fAdF K (Str.ofString b, some (Str.ofString f)))
theorem prpB_of {K : PySem.W.Frag} {h : Heap} {mg : Str → Option Value} (X : K.In h) (G : h.Ns mainGlobals mg) : ∀ (t : PrpTb), tPrps t K = true → PrpB K mg t := by
  intro t
  induction t with
  | nil => intro _ c f b n; cases n
  | cons e t ih =>
    intro ht c f b n C hC
    obtain ⟨h1, h2⟩ := Bool.and_eq_true_iff.mp (show (tPrp1 e K && t.all fun e => tPrp1 e K) = true from by simpa [tPrps] using ht)
    obtain ⟨c', f', b'⟩ := e
    by_cases hc : c = c' ∧ f = f'
    · obtain ⟨rfl, rfl⟩ := hc
      have e1 : prpT ((c, f, b') :: t) c f = some b' := by simp [prpT]
      rw [e1] at n
      cases n
      obtain ⟨g1, g2⟩ := Bool.and_eq_true_iff.mp h1
      obtain ⟨g2, g3⟩ := Bool.and_eq_true_iff.mp g2
      have g1 := He.glo_ok X G g1
      rw [hC] at g1
      cases g1
      obtain ⟨a, p⟩ := tPrp_ok g2
      have g3 := of_decide_eq_true g3
      dsimp only at g3
      rw [g3] at p
      exact ⟨a, _, p⟩
    · have e1 : prpT ((c', f', b') :: t) c f = prpT t c f := by simp [prpT, hc]
      rw [e1] at n
      exact ih h2 c f b n C hC
def prpM (t : PrpTb) (gm : String → String → Option MF) : String → String → Option MF := fun c f => (prpT t c f).bind fun b => gm b f
theorem propR_of {P : Program} {w : World} {K : PySem.W.Frag} {mg : Str → Option Value} {base : Heap} {j : Nat} {t : PrpTb} {gm : String → String → Option MF} (B : PrpB K mg t)
    (hg : ∀ b f m, gm b f = some m → ∃ fd nm, FnG P w K mg base (L2.CX P w) j (fAdF K (Str.ofString b, some (Str.ofString f))) fd [nm] (spM K mg m 1) ∧ Binds K fd [nm] []) : PropR P w K mg base j (prpM t gm) := by
  intro c f m h C hC
  obtain ⟨b, e1, e2⟩ := Option.bind_eq_some_iff.mp h
  obtain ⟨cl, p, hp⟩ := B c f b e1 C hC
  obtain ⟨fd, nm, F, bb⟩ := hg b f m e2
  exact ⟨cl, p, _, fd, nm, hp, F, bb⟩
theorem isaC_of {K : PySem.W.Frag} {h : Heap} {mg : Str → Option Value} (X : K.In h) (G : h.Ns mainGlobals mg) : ∀ (t : IsaTb), tIsas t K = true → IsaC K mg (isaT t) := by
  intro t
  induction t with
  | nil => intro _ c d b C D n; cases n
  | cons e t ih =>
    intro ht c d b C D n hC hD
    unfold tIsas at ht
    rw [List.all_cons] at ht
    obtain ⟨h1, h2⟩ := Bool.and_eq_true_iff.mp ht
    obtain ⟨c', d', b'⟩ := e
    by_cases hc : c = c' ∧ d = d'
    · obtain ⟨rfl, rfl⟩ := hc
      have e1 : isaT ((c, d, b') :: t) c d = some b' := by simp [isaT]
      rw [e1] at n
      cases n
      obtain ⟨g1, g2⟩ := Bool.and_eq_true_iff.mp h1
      obtain ⟨g2, g3⟩ := Bool.and_eq_true_iff.mp g2
      have g1 := He.glo_ok X G g1
      have g2 := He.glo_ok X G g2
      rw [hC] at g1
      rw [hD] at g2
      cases g1
      cases g2
      exact tIsa_ok g3
    · have e1 : isaT ((c', d', b') :: t) c d = isaT t c d := by simp [isaT, hc]
      rw [e1] at n
      exact ih h2 c d b C D n hC hD
theorem isbC_of {K : PySem.W.Frag} {h : Heap} {mg : Str → Option Value} (X : K.In h) (G : h.Ns mainGlobals mg) : ∀ (t : IsaTb), tIsbs t K = true → IsbC K mg (isaT t) := by
  intro t
  induction t with
  | nil => intro _ c d b D n; cases n
  | cons e t ih =>
    intro ht c d b D n hD
    unfold tIsbs at ht
    rw [List.all_cons] at ht
    obtain ⟨h1, h2⟩ := Bool.and_eq_true_iff.mp ht
    obtain ⟨c', d', b'⟩ := e
    by_cases hc : c = c' ∧ d = d'
    · obtain ⟨rfl, rfl⟩ := hc
      have e1 : isaT ((c, d, b') :: t) c d = some b' := by simp [isaT]
      rw [e1] at n
      cases n
      obtain ⟨g2, g3⟩ := Bool.and_eq_true_iff.mp h1
      have g2 := He.glo_ok X G g2
      rw [hD] at g2
      cases g2
      exact tIsb_ok g3
    · have e1 : isaT ((c', d', b') :: t) c d = isaT t c d := by simp [isaT, hc]
      rw [e1] at n
      exact ih h2 c d b D n hD
theorem subs_of {K : PySem.W.Frag} {h : Heap} {mg : Str → Option Value} (X : K.In h) (G : h.Ns mainGlobals mg) {ec : String} : ∀ (t : List (String × Bool)), tSubs ec t K = true → Subs K mg (He.ga K (Str.ofString ec)) (subT t) := by
  intro t
  induction t with
  | nil => intro _ c C b n; cases n
  | cons e t ih =>
    intro ht c C b n hC
    unfold tSubs at ht
    rw [List.all_cons] at ht
    obtain ⟨h1, h2⟩ := Bool.and_eq_true_iff.mp ht
    obtain ⟨c', b'⟩ := e
    by_cases hc : c = c'
    · subst hc
      have e1 : subT ((c, b') :: t) c = some b' := by simp [subT]
      rw [e1] at n
      cases n
      obtain ⟨g2, g3⟩ := Bool.and_eq_true_iff.mp h1
      have g2 := He.glo_ok X G g2
      rw [hC] at g2
      cases g2
      exact He.exm_ok g3
    · have e1 : subT ((c', b') :: t) c = subT t c := by simp [subT, hc]
      rw [e1] at n
      exact ih h2 c C b n hC
def SupB (K : PySem.W.Frag) (mg : Str → Option Value) (c f : String) (D g : Addr) : Prop := ∀ C, mg (Str.ofString c) = some (.ref C) → ∃ og cdC, PySem.W.clsIn K C = some cdC ∧ PySem.W.alongIn K (Str.ofString f) ((cdC.mro.dropWhile (· != .ref D)).drop 1) = some (some (.ref g)) ∧
    K.lookup g = some og ∧ og.cls = .type "function" ∧ PySem.W.fnIn K g = true ∧ PySem.W.mroIn K C (.ref D) = some true
theorem supB_of {K : PySem.W.Frag} {mg : Str → Option Value} {c f : String} {D B : Str} (hm : mg (Str.ofString c) = some (.ref (He.ga K (Str.ofString c)))) (t : tSup (Str.ofString c) D B (Str.ofString f) K = true) : SupB K mg c f (He.ga K D) (fAdF K (B, some (Str.ofString f))) := by
  intro C hC
  rw [hm] at hC
  cases hC
  obtain ⟨cdC, og, h1, h2, h3, h4, h5, h6⟩ := tSup_ok t
  exact ⟨og, cdC, h1, h2, h3, h4, h5, h6⟩
theorem supR_of {P : Program} {w : World} {K : PySem.W.Frag} {mg : Str → Option Value} {base : Heap} {j N : Nat} {c f : String} {D g : Addr} {fd : FuncData} {ps : List Str} {mi : MF} (B : SupB K mg c f D g) (F : FnG P w K mg base (L2.CX P w) j g fd ps (spM K mg mi N)) (hb : Binds K fd ps []) : SupR P w K mg base j c f D mi N := by
  intro C hC
  obtain ⟨og, cdC, h1, h2, h3, h4, h5, h6⟩ := B C hC
  exact ⟨g, og, fd, ps, [], [], cdC, h1, h2, h3, h4, h5, h6, F, hb⟩
section
variable {X : Cx} {W : WX} {k j n N : Nat} {e : Expr} {es : List Expr} {kws : List Keyword} {pos p : Pos} {ks nm : List Str} {sc : Scope} {dds : List D} {m mi : MF} {x : Str} {c : String} {sel : List Sel} {ms mks : List ME}
theorem clF (Cc : Cs X W k nm sc) (V : ClW X.prog X.w X.K X.mg X.base j c n ks sel mi N dds) (hjk : j + 1 ≤ k) (hg : glC sc (Str.ofString c) = true) (ha : JA X W (e :: es) ms) (hkw : JK X W kws mks) (h1 : ms.length = n) (h2 : mks.length = ks.length)
    (hall : (backToKw pos (keywordEach kws X.env)).all (·.1.isSome) = true := by rfl) (hks : (backToKw pos (keywordEach kws X.env)).filterMap (·.1) = ks := by rfl)
    (he : starEach (e :: es) X.env = (false, eval e X.env) :: starEach es X.env := by rfl) (hpl : ((backTo pos (starEach (e :: es) X.env)).any (·.1) || (backToKw pos (keywordEach kws X.env)).any (·.1.isNone)) = false := by rfl) :
    JE X W (.Call (.Name (Str.ofString c) p) (e :: es) kws pos) (mCallK (mkF c mi) sel ms mks dds) :=
  let ⟨_, hm, F⟩ := V.callF
  je_callW Cc F hm hjk hg ha hkw h1 h2 hall hks he hpl
theorem clF0 (Cc : Cs X W k nm sc) (V : ClW X.prog X.w X.K X.mg X.base j c 0 ks sel mi N dds) (hjk : j + 1 ≤ k) (hg : glC sc (Str.ofString c) = true) (hkw : JK X W kws mks) (h2 : mks.length = ks.length)
    (hall : (backToKw pos (keywordEach kws X.env)).all (·.1.isSome) = true := by rfl) (hks : (backToKw pos (keywordEach kws X.env)).filterMap (·.1) = ks := by rfl)
    (hpl : ((backTo pos (starEach [] X.env)).any (·.1) || (backToKw pos (keywordEach kws X.env)).any (·.1.isNone)) = false := by rfl) :
    JE X W (.Call (.Name (Str.ofString c) p) [] kws pos) (mCallK (mkF c mi) sel [] mks dds) :=
  let ⟨_, hm, F⟩ := V.callF
  je_callW0 Cc F hm hjk hg hkw h2 hall hks hpl
theorem pick_len {α : Type} (vs ds zs : List α) : ∀ sel : List Sel, (sel.all fun a => match a with
    | .pos i => decide (i < vs.length)
    | .key i => decide (i < zs.length)
    | .dfl i => decide (i < ds.length)) = true → (pickS sel vs ds zs).length = sel.length
  | [], _ => rfl
  | a :: sel, h => by
    rw [List.all_cons] at h
    obtain ⟨h1, h2⟩ := Bool.and_eq_true_iff.mp h
    have ih := pick_len vs ds zs sel h2
    unfold pickS at ih ⊢
    have : ∃ v, a.get vs ds zs = some v := by
      cases a with
      | pos i => exact ⟨_, List.getElem?_eq_getElem (of_decide_eq_true h1)⟩
      | key i => exact ⟨_, List.getElem?_eq_getElem (of_decide_eq_true h1)⟩
      | dfl i => exact ⟨_, List.getElem?_eq_getElem (of_decide_eq_true h1)⟩
    obtain ⟨v, e⟩ := this
    rw [List.filterMap_cons_some e, List.length_cons, List.length_cons, ih]
def selOk (n nd nk : Nat) (sel : List Sel) : Bool := sel.all fun a => match a with
    | .pos i => decide (i < n)
    | .key i => decide (i < nk)
    | .dfl i => decide (i < nd)
theorem sel_len {n nd nk : Nat} {sel : List Sel} (h : selOk n nd nk sel = true) {α : Type} (vs ds zs : List α) (h1 : vs.length = n) (h2 : ds.length = nd) (h3 : zs.length = nk) : (pickS sel vs ds zs).length = sel.length := by
  subst h1 h2 h3
  exact pick_len vs ds zs sel h
theorem clW_of {P : Program} {w : World} {K : PySem.W.Frag} {mg : Str → Option Value} {base : Heap} {C f : Addr} {fd : FuncData} {ps : List Str} {ds : List Value} {dvs : List V} (hm : mg (Str.ofString c) = some (.ref C)) (M : Mk K C f) (F : FnG P w K mg base (L2.CX P w) j f fd ps (spM K mg mi (N + 1))) (hb : BindW1 K fd ps n ks sel ds)
    (hd : Vals dvs ds) (hr : ∀ F ρ, RepL K mg F ρ dvs dds) (hs : selOk n dds.length ks.length sel = true) (hN : sel.length = N) : ClW P w K mg base j c n ks sel mi N dds :=
  ⟨fun vs ds zs h1 h2 h3 => by rw [← hN]; exact sel_len hs vs ds zs h1 h2 h3, C, f, fd, ps, ds, dvs, hm, M, F, hb, hd, hr⟩
end
end FL
namespace FL
open PySem PySem.Spec PyProof.Rows L2
def maxI : List Int → Int
  | [] => 0
  | n :: ns => ns.foldl max n
theorem foldl_max : ∀ (ns : List Int) (n : Int), (ns.foldl max n = n ∨ ns.foldl max n ∈ ns) ∧ n ≤ ns.foldl max n ∧ ∀ y ∈ ns, y ≤ ns.foldl max n
  | [], n => ⟨.inl rfl, Int.le_refl _, fun y h => by simp at h⟩
  | a :: ns, n => by
    obtain ⟨h1, h2, h3⟩ := foldl_max ns (max n a)
    rw [List.foldl_cons]
    refine ⟨?_, by omega, fun y hy => ?_⟩
    · rcases h1 with h1 | h1
      · rw [h1]
        rcases Int.le_total n a with h | h
        · right; rw [Int.max_eq_right h]; exact List.mem_cons_self ..
        · left; exact Int.max_eq_left h
      · exact .inr (List.mem_cons_of_mem _ h1)
    · rcases List.mem_cons.mp hy with rfl | hy
      · omega
      · exact h3 y hy
theorem maxI_is {ns : List Int} {m : Int} (hm : m ∈ ns) (h : ∀ y ∈ ns, y ≤ m) : m = maxI ns := by
  cases ns with
  | nil => simp at hm
  | cons n ns =>
    obtain ⟨h1, h2, h3⟩ := foldl_max ns n
    have a : maxI (n :: ns) ≤ m := by
      rcases h1 with h1 | h1
      · show ns.foldl max n ≤ m
        rw [h1]; exact h n (List.mem_cons_self ..)
      · exact h _ (List.mem_cons_of_mem _ h1)
    have b : m ≤ maxI (n :: ns) := by
      rcases List.mem_cons.mp hm with rfl | hm
      · exact h2
      · exact h3 m hm
    omega
def gMaxL : List D → Option Slot := fun ds => match ds with
  | [d] => match d with
    | .lst xs => (match intsD xs with
      | some (n :: ns) => some (.fr (.int (maxI (n :: ns))))
      | _ => none)
    | _ => none
  | _ => none
section
variable {X : Cx}
theorem j_maxL : RLJ X (rMax X.K) gMaxL :=
  rl1_flat (g := fun d => match d with
    | .lst xs => (match intsD xs with
      | some (n :: ns) => some (.fr (.int (maxI (n :: ns))))
      | _ => none)
    | _ => none) fun Z F ρ μ δ σ H x dx s Q S b e => by
    cases dx <;> first | (cases e; done) | skip
    rename_i xs
    dsimp only at e
    split at e
    · rename_i n ns e1
      cases e
      obtain ⟨p, vs, rfl, h, r⟩ := b.lst S
      rw [intsD_map e1] at r
      have ev := r.ints
      subst ev
      exact ⟨_, fun q => ⟨p, n :: ns, rfl, .of h, by simp, fun m hm hy => by rw [maxI_is hm hy]; exact q⟩, _, rfl, .int⟩
    · cases e
end
end FL
namespace FL
open PySem PySem.Spec PyProof.Rows L2
def BindsT (s : Shared) (fd : FuncData) (args : Args) (pre : List (Str × Value)) (pv : Str) (rest : List Value) : Prop :=
  ∀ (M : Model) (A : Around) (E : Value → Shared → Prop) (Q : List (Str × Value) → Shared → Prop), wpAny M A (newTuple rest >>= fun t => pure (pre ++ [(pv, t)])) Q E s → wpAny M A (bindArgs fd args) Q E s
theorem BindsT.of_eq {s : Shared} {fd : FuncData} {args : Args} {pre : List (Str × Value)} {pv : Str} {rest : List Value} (h : bindArgs fd args = (newTuple rest >>= fun t => pure (pre ++ [(pv, t)]))) : BindsT s fd args pre pv rest :=
  fun _ _ _ _ q => h ▸ q
end FL
namespace FL
open PySem PySem.Spec PyProof.Rows L2
def EqG1 (P : Program) (w : World) (K : PySem.W.Frag) (mg : Str → Option Value) (base : Heap) (j : Nat) (c : String) (m : MF) : Prop := ∀ C, mg (Str.ofString c) = some (.ref C) → InsK K C ∧ ∃ (g : Addr) (fd : FuncData) (ps : List Str),
  PySem.W.findIn K (.ref C) "__eq__" = some (some (.ref g)) ∧ PySem.W.isFn K (.ref g) = true ∧ PySem.W.findIn K (.ref C) "__ne__" = some (some (.builtin "object.__ne__")) ∧ FnG P w K mg base (L2.CX P w) j g fd ps (spM K mg m 2) ∧ Binds K fd ps []
def EqR (P : Program) (w : World) (K : PySem.W.Frag) (mg : Str → Option Value) (base : Heap) (j : Nat) (eqm : String → Option MF) : Prop := ∀ c m, eqm c = some m → EqG1 P w K mg base j c m
structure NfOk (K : PySem.W.Frag) (mg : Str → Option Value) (cs ts : List String) : Prop where
  cc : ∀ c ∈ cs, ∀ c' ∈ cs, ∀ C C', mg (Str.ofString c) = some (.ref C) → mg (Str.ofString c') = some (.ref C') → PySem.W.notFirst K C (.ref C') = true
  ct : ∀ c ∈ cs, ∀ t ∈ ts, ∀ C, mg (Str.ofString c) = some (.ref C) → PySem.W.notFirst K C (.type t) = true
theorem nfOk_of {K : PySem.W.Frag} {h : Heap} {mg : Str → Option Value} {cs ts : List String} (X : K.In h) (G : h.Ns mainGlobals mg) (t : tNf cs ts K = true) : NfOk K mg cs ts := by
  have gl : ∀ c ∈ cs, mg (Str.ofString c) = some (.ref (He.ga K (Str.ofString c))) ∧ (∀ c' ∈ cs, PySem.W.notFirst K (He.ga K (Str.ofString c)) (.ref (He.ga K (Str.ofString c'))) = true) ∧ ∀ u ∈ ts, PySem.W.notFirst K (He.ga K (Str.ofString c)) (.type u) = true := fun c hc => by
    obtain ⟨a, b⟩ := Bool.and_eq_true_iff.mp (List.all_eq_true.mp t c hc)
    obtain ⟨b1, b2⟩ := Bool.and_eq_true_iff.mp b
    exact ⟨He.glo_ok X G a, List.all_eq_true.mp b1, List.all_eq_true.mp b2⟩
  refine ⟨fun c hc c' hc' C C' e e' => ?_, fun c hc u hu C e => ?_⟩
  · rw [(gl c hc).1] at e
    rw [(gl c' hc').1] at e'
    cases e
    cases e'
    exact (gl c hc).2.1 c' hc'
  · rw [(gl c hc).1] at e
    cases e
    exact (gl c hc).2.2 u hu
def sideOk (cs ts : List String) (μ : Mem) (d : D) : Bool := match insOf μ d with
  | some (c, _, _) => decide (c ∈ cs)
  | none => (match tyN d with
    | some t => decide (t ∈ ts)
    | none => false)
def mEqO (eqm : String → Option MF) (cs ts : List String) (neg : Bool) (ma mb : ME) : ME := fun δ μ => (ma δ μ).bind fun sa δ1 μ1 => (mb δ1 μ1).bind fun sb δ2 μ2 => match insOf μ2 sa.d with
  | some (c, _, _) => if c ∈ cs ∧ sideOk cs ts μ2 sb.d = true then (match eqm c with
    | some m => (match m [sa.d, sb.d] μ2 with
      | .ok (.fr (.bl b)) μ3 => .ok (.fr (.bl (b != neg))) δ2 μ3
      | _ => .bad)
    | none => .bad) else .bad
  | none => .bad
def rEqO (X : Cx) (neg : Bool) (j : Nat) : R2 := fun x y H Q => ∃ a C dx fs tb g fd ps m, x = .ref a ∧ H a = some (.ins C dx fs) ∧ TyX X.K H y tb ∧ PySem.W.notFirst X.K C tb = true ∧ InsK X.K C ∧ PySem.W.findIn X.K (.ref C) "__eq__" = some (some (.ref g)) ∧ PySem.W.isFn X.K (.ref g) = true ∧
  PySem.W.findIn X.K (.ref C) "__ne__" = some (some (.builtin "object.__ne__")) ∧ FnG X.prog X.w X.K X.mg X.base (L2.CX X.prog X.w) j g fd ps (spM X.K X.mg m 2) ∧ Binds X.K fd ps [] ∧ spM X.K X.mg m 2 [x, y] H (fun v H' => ∃ b, v = .bl b ∧ Q (.bl (b != neg)) H') noX
section
variable {X : Cx} {W : WX} {k j : Nat} {N : List Str} {sc : Scope} {a b : Expr} {pos : Pos} {ma mb : ME} {eqm : String → Option MF} {cs ts : List String}
theorem op_eqO (hr : RmG (j + 2) X.A) : OpR X (compareOp .Eq) (rEqO X false j) := by
  intro pins s σ H x y v u Q I rx ry h
  obtain ⟨p, C, dx, fs, tb, g, fd, ps, m, rfl, hH, ty, nf, ik, h1, h2, h3, G, hb, q⟩ := h
  cases (show v = Value.ref p from rx)
  obtain ⟨P, kx, hP, _⟩ := kit_of I ry ty
  obtain ⟨mA, O, _⟩ := ins_get I.hok hH
  obtain ⟨od, J, _⟩ := O.look
  obtain ⟨m1, hF⟩ := I.fr
  show wpAny (model X.prog X.w) X.A (richCompare .Eq (.ref p) u) (EP X pins σ Q) X.xe s
  refine PySem.W.cmp_K (op := .Eq) (tb := tb) hr.r.units0 hF I.ok.mod.kin J (kx.ty _ _ I.kIn hP) nf h1 h2 ?_
  refine wpAny_mono (run_callG (Y := L2.CX X.prog X.w) (E := fun _ => noX) (ds := []) (dvs := []) (us := [.ref p, u]) (vs := [.ref p, y]) G (hr.mono (by omega)) hb .nil (σ := σ) (fun _ _ _ _ _ _ ⟨_, _, _, _, _, _, _, _, _, _, _, _, z⟩ => z.elim) I (.cons rfl (.cons ry .nil)) q) (fun z s' hz => ?_) fun _ _ x => x
  obtain ⟨z', H', I', rz, b, ez, qz⟩ := hz
  subst ez
  cases (show z = Value.bool b from rz)
  exact ⟨.bl b, H', I', rfl, by simpa using qz⟩
theorem eqO_read {neg : Bool} {isa : String → String → Option Bool} (R : EqR X.prog X.w X.K X.mg X.base j eqm) (NF : NfOk X.K X.mg cs ts) (hcs : ∀ c ∈ cs, ∃ m, eqm c = some m) : ∀ σ H Q, rdE X W (mEqO eqm cs ts neg ma mb) σ H Q →
    tOp (rEqO X neg j) (fun σ H Q => ∃ Z F ρ μ δ, Sim X.K X.mg Z F ρ μ δ σ H ∧ FinE X W Z F ρ σ (fun s δ' μ' F' ρ' H' => ∀ v, Rep X.K X.mg F' ρ' v s.d → Q v H') (ma δ μ))
      (fun σ H Q => ∃ Z F ρ μ δ, Sim X.K X.mg Z F ρ μ δ σ H ∧ FinE X W Z F ρ σ (fun s δ' μ' F' ρ' H' => ∀ v, Rep X.K X.mg F' ρ' v s.d → Q v H') (mb δ μ)) σ H Q := by
  intro σ H Q ⟨Z, F, ρ, μ, δ, S, q⟩
  refine ⟨Z, F, ρ, μ, δ, S, (FinE.bind q).imp fun sa δ1 μ1 H1 F1 ρ1 l1 lr1 S1 ⟨_, _, _, q1⟩ x hx => ?_⟩
  refine ⟨Z, F1, ρ1, μ1, δ1, S1, (FinE.bind q1).imp fun sb δ2 μ2 H2 F2 ρ2 l2 lr2 S2 ⟨_, _, _, z⟩ y hy => ?_⟩
  have hx2 := hx.up l2.to lr2.to
  cases e1 : insOf μ2 sa.d with
  | none => simp only [e1] at z; exact z.elim
  | some t =>
    obtain ⟨c, ks, ds⟩ := t
    simp only [e1] at z
    by_cases hc : c ∈ cs ∧ sideOk cs ts μ2 sb.d = true
    · rw [if_pos hc] at z
      obtain ⟨hc1, hc2⟩ := hc
      cases e2 : eqm c with
      | none => simp only [e2] at z; exact z.elim
      | some m =>
        simp only [e2] at z
        obtain ⟨p, C, dx, vs, rfl, hm, hH, n, rl⟩ := ins_at S2 hx2 e1
        obtain ⟨ik, g, fd, ps, h1, h2, h3, G, hb⟩ := R c m e2 C hm
        have ty : ∃ tb, TyX X.K H2 y tb ∧ PySem.W.notFirst X.K C tb = true := by
          unfold sideOk at hc2
          cases e3 : insOf μ2 sb.d with
          | some t =>
            obtain ⟨c', ks', ds'⟩ := t
            rw [e3] at hc2
            have hc2 := of_decide_eq_true hc2
            obtain ⟨p', C', dx', vs', rfl, hm', hH', n', rl'⟩ := ins_at S2 hy e3
            obtain ⟨m', e4⟩ := hcs c' hc2
            obtain ⟨ik', _⟩ := R c' m' e4 C' hm'
            exact ⟨.ref C', .base (.ins hH' ik'.cl ik'.ca ik'.sp ik'.tk ik'.ob), NF.cc c hc1 c' hc2 C C' hm hm'⟩
          | none =>
            rw [e3] at hc2
            cases e4 : tyN sb.d with
            | none => simp only [e4] at hc2; cases hc2
            | some t =>
              simp only [e4] at hc2
              exact ⟨.type t, tyX_of S2 (.fr hy) e4, NF.ct c hc1 t (of_decide_eq_true hc2) C hm⟩
        obtain ⟨tb, ty, nf⟩ := ty
        refine ⟨p, C, dx, _, tb, g, fd, ps, m, rfl, hH, ty, nf, ik, h1, h2, h3, G, hb, rfl, zone Z H2 δ2 σ, F2, ρ2, μ2, [sa.d, sb.d], S2.enter, .cons hx2 (.cons hy .nil), ?_⟩
        generalize m [sa.d, sb.d] μ2 = o at z
        cases o with
        | bad => exact z.elim
        | exc x μ3 => exact z.elim
        | ok s μ3 =>
          cases s with
          | own o => exact z.elim
          | fr d =>
            cases d with
            | bl b =>
              intro v H' F' ρ' l lr S' rv
              cases rv
              exact ⟨b, rfl, z H' F' ρ' (S2.leLeave l) (S2.leRLeave lr) (S2.leave S' l lr) _ (VR.fr' .bl)⟩
            | _ => exact z.elim
    · rw [if_neg hc] at z; exact z.elim
theorem Cs.eqO (C : Cs X W k N sc) (R : EqR X.prog X.w X.K X.mg X.base j eqm) (NF : NfOk X.K X.mg cs ts) (hcs : ∀ c ∈ cs, ∃ m, eqm c = some m) (hjk : j + 2 ≤ k) (ha : JE X W a ma) (hb : JE X W b mb) : JE X W (.Compare a [.Eq] [b] pos) (mEqO eqm cs ts false ma mb) :=
  (pe_cmpR (op_eqO (C.rm.mono hjk)) ha.locked hb.locked (nomark b)).imp (eqO_read (isa := fun _ _ => none) R NF hcs)
end
end FL
namespace FL.LQ
open PySem PySem.SeqAt
open AutoSeq1 (wpAny_loadPart')
open MeetsSeq MeetsSeq2 MeetsSeq3 SeqRoads2
section
variable {prog : Program} {w : World} {A : Around} {R : Result → Shared → Prop}
theorem ne_loopG (l b : Addr) (N : Nat) (I : Nat → Shared → Prop) (hl : GQ.ListI prog w A (fun e s' => R (.error e) s') l b N I)
    (fin : ∀ s, I N s → R (.ok (.ret (.bool false))) s) (k : Nat) :
    ∀ i : Nat, N - i = k → i ≤ N → ∀ s, I i s →
      wpAny (model prog w) A.in1 (Builtin.«list.__eq__.loop» ⟨[.ref l, .ref b, rawInt i, rawInt 3], []⟩) (GQ.FinOf prog w A R) (fun e s' => R (.error e) s') s := by
  induction k with
  | zero =>
    intro i hk hi s h
    obtain ⟨items, items2, n, n2, hl1, hb1, hs1, hs2, _⟩ := hl _ _ h
    have hi' : i = N := by omega
    have hR : R (.ok (.ret (.bool false))) s := fin s (hi' ▸ h)
    obtain ⟨hp, g, d, tk, os⟩ := s
    wp_walk using wpAny_loadPart' hl1, wpAny_loadPart' hb1
    have hi1 : items[((i : Nat) : Int).toNat]? = none := by simp; omega
    have hi2 : items2[((i : Nat) : Int).toNat]? = none := by simp; omega
    rw [hi1, hi2]
    wp_walk using wpAny_loadPart' hl1, wpAny_loadPart' hb1
    show R (.ok (.ret (.bool (items.size != items2.size)))) _
    rw [hs1, hs2]
    simpa using hR
  | succ k ih =>
    intro i hk hi s h
    obtain ⟨items, items2, n, n2, hl1, hb1, hs1, hs2, turn⟩ := hl _ _ h
    have hlt : i < items.size := by omega
    have hlt2 : i < items2.size := by omega
    have ht := turn hlt hlt2
    obtain ⟨hp, g, d, tk, os⟩ := s
    wp_walk using wpAny_loadPart' hl1, wpAny_loadPart' hb1
    have hi1 : items[((i : Nat) : Int).toNat]? = some items[i] := by simp [hlt]
    have hi2 : items2[((i : Nat) : Int).toNat]? = some items2[i] := by simp [hlt2]
    have hc : ((i : Int) + 1) = ((i + 1 : Nat) : Int) := by omega
    rw [hi1, hi2]
    refine wpAny_bind (wpAny_mono ht (fun r s2 h2 => ?_) fun _ _ x => x)
    obtain ⟨hr, h2⟩ := h2
    subst hr
    have hrec := ih (i + 1) (by omega) (by omega) s2 h2
    obtain ⟨hp2, g2, d2, tk2, os2⟩ := s2
    wp_walk
    rw [hc]
    exact ⟨plainId_quiet plain_eq_loop _, codeAny_builtin entry_eq_loop (by
      rw [Around.under_plainId plain_eq_loop _]
      exact hrec)⟩
theorem list_neG (l b : Addr) (N : Nat) (I : Nat → Shared → Prop) (hl : GQ.ListI prog w A (fun e s' => R (.error e) s') l b N I)
    (fin : ∀ s, I N s → R (.ok (.ret (.bool false))) s) {s : Shared} (h : I 0 s) :
    wpAny (model prog w) A.in1 (Builtin.«list.__ne__» ⟨[.ref l, .ref b], []⟩) (GQ.FinOf prog w A R) (fun e s' => R (.error e) s') s := by
  obtain ⟨items, items2, n, n2, hl1, hb1, hs1, hs2, _⟩ := hl _ _ h
  have hrec := ne_loopG (A := A) (R := R) l b N I hl fin _ 0 rfl (Nat.zero_le _) s h
  obtain ⟨hp, g, d, tk, os⟩ := s
  have f3 := AutoSeq1.sub_list_list
  have hne : ¬ (items.size != items2.size) = true := by simp [hs1, hs2]
  wp_walk using wpAny_loadPart' hl1, wpAny_loadPart' hb1
  exact ⟨plainId_quiet plain_eq_loop _, codeAny_builtin entry_eq_loop (by
    rw [Around.under_plainId plain_eq_loop _]
    exact hrec)⟩
theorem list_len (neg : Bool) {l b : Addr} {items items2 : Array Value} {n n2 : Nat} {s : Shared} (h1 : s.heap.get? l = some { cls := .type "list", data := .seq items n }) (h2 : s.heap.get? b = some { cls := .type "list", data := .seq items2 n2 }) (hne : items.size ≠ items2.size)
    (h : R (.ok (.ret (.bool neg))) s) : wpAny (model prog w) A.in1 ((if neg then Builtin.«list.__ne__» else Builtin.«list.__eq__») ⟨[.ref l, .ref b], []⟩) (GQ.FinOf prog w A R) (fun e s' => R (.error e) s') s := by
  obtain ⟨hp, g, d, tk, os⟩ := s
  have f3 := AutoSeq1.sub_list_list
  have hne : (items.size != items2.size) = true := by simpa using hne
  cases neg with
  | false =>
    simp only [Bool.false_eq_true, if_false]
    wp_walk using wpAny_loadPart' h1, wpAny_loadPart' h2
    exact h
  | true =>
    simp only [if_true]
    wp_walk using wpAny_loadPart' h1, wpAny_loadPart' h2
    exact h
end
section
variable {prog : Program} {w : World} {A : Around} {E : Value → Shared → Prop} {s : Shared}
theorem nc_listG {l b : Addr} {N : Nat} {Q : Value → Shared → Prop} (hu : A.units < cLine) (I : Nat → Shared → Prop) (hl : GQ.ListI prog w A E l b N I)
    (fin : ∀ s, I N s → Q (.bool false) s) (h : I 0 s) : wpAny (model prog w) A (richCompare .NotEq (.ref l) (.ref b)) Q E s := by
  obtain ⟨items, items2, n, n2, hl1, hb1, _, _, _⟩ := hl _ _ h
  refine wpAny_richCompare_same_room (op := .NotEq) ⟨_, hl1, rfl⟩ ⟨_, hb1, rfl⟩ F.slot_list_ne (GQ.call_here F.slot_list_ne ⟨_, hl1, rfl⟩ F.entry_list_ne (F.args_list_ne_2 _ _) ?_) hu
  exact list_neG (R := wants (fun v s' => v ≠ .notImplemented ∧ Q v s') E) l b N I hl (fun s' q => ⟨(fun x => nomatch x), fin s' q⟩) h
theorem nc_len {l b : Addr} {items items2 : Array Value} {n n2 : Nat} {Q : Value → Shared → Prop} (hu : A.units < cLine) (h1 : s.heap.get? l = some { cls := .type "list", data := .seq items n }) (h2 : s.heap.get? b = some { cls := .type "list", data := .seq items2 n2 }) (hne : items.size ≠ items2.size)
    (h : Q (.bool true) s) : wpAny (model prog w) A (richCompare .NotEq (.ref l) (.ref b)) Q E s := by
  refine wpAny_richCompare_same_room (op := .NotEq) ⟨_, h1, rfl⟩ ⟨_, h2, rfl⟩ F.slot_list_ne (GQ.call_here F.slot_list_ne ⟨_, h1, rfl⟩ F.entry_list_ne (F.args_list_ne_2 _ _) ?_) hu
  exact list_len (R := wants (fun v s' => v ≠ .notImplemented ∧ Q v s') E) true h1 h2 hne ⟨(fun x => nomatch x), h⟩
end
end FL.LQ
namespace FL
open PySem PySem.Spec PyProof.Rows L2
def gLenEq (neg : Bool) : D → D → Option Slot
  | .lst xs, .lst ys => if xs.length ≠ ys.length then some (tb neg) else (match xs with
    | [] => some (tb (!neg))
    | _ => none)
  | _, _ => none
def gEqN (neg : Bool) : D → D → Option Slot := fun x y => (gEq neg x y).or (gLenEq neg x y)
def rLenE (neg : Bool) : R2 := fun x y H Q => ∃ p q xs ys, x = .ref p ∧ y = .ref q ∧ H p = some (.lst xs) ∧ H q = some (.lst ys) ∧ ((xs.length ≠ ys.length ∧ Q (.bl neg) H) ∨ (xs = [] ∧ ys = [] ∧ Q (.bl (!neg)) H))
section
variable {X : Cx}
theorem j_len2 (neg : Bool) : R2J X (rLenE neg) (gLenEq neg) := by
  intro Z F ρ μ δ σ H x y dx dy s Q S bx bY e q
  unfold gLenEq at e
  split at e
  · rename_i xs ys
    obtain ⟨p, vs, rfl, hp, rp⟩ := bx.lst S
    obtain ⟨p2, vs2, rfl, hp2, rp2⟩ := bY.lst S
    refine ⟨p, p2, vs, vs2, rfl, rfl, hp, hp2, ?_⟩
    by_cases h : xs.length ≠ ys.length
    · rw [if_pos h] at e
      cases e
      exact .inl ⟨by rw [rp.len, rp2.len]; exact h, q _ H F .refl S ⟨.bl, fun o p z => by cases z⟩⟩
    · rw [if_neg h] at e
      have h : xs.length = ys.length := Classical.not_not.mp h
      split at e
      · rename_i xs'
        cases e
        have h1 : vs = [] := List.eq_nil_of_length_eq_zero rp.len
        have h2 : vs2 = [] := List.eq_nil_of_length_eq_zero (by rw [rp2.len, ← h]; rfl)
        exact .inr ⟨h1, h2, q _ H F .refl S ⟨.bl, fun o p z => by cases z⟩⟩
      · cases e
  · cases e
theorem nilI {s : Shared} {H : Hp} {pins : List (Addr × Obj)} {σ : L2.St} {p q : Addr} {A : Around} {E : Value → Shared → Prop} (I : Inv X pins σ H s) (h1 : H p = some (.lst [])) (h2 : H q = some (.lst [])) : GQ.ListI X.prog X.w A E p q 0 (fun _ s' => s' = s) := by
  intro i s' hs
  subst hs
  obtain ⟨z, its, k, r, e⟩ := I.hok p _ h1
  obtain ⟨z2, its2, k2, r2, e2⟩ := I.hok q _ h2
  cases r
  cases r2
  exact ⟨_, _, k, k2, e, e2, rfl, rfl, fun h => absurd h (Nat.not_lt_zero _)⟩
theorem op_lenNe (hu : X.A.units + 64 < cLine) : OpR X (compareOp .NotEq) (rLenE true) := by
  intro pins s σ H x y v u Q I rx ry h
  obtain ⟨p, q, xs, ys, rfl, rfl, h1, h2, h⟩ := h
  cases (show v = Value.ref p from rx)
  cases (show u = Value.ref q from ry)
  have hu0 : X.A.units < cLine := by omega
  show wpAny (model X.prog X.w) X.A (richCompare .NotEq (.ref p) (.ref q)) (EP X pins σ Q) X.xe s
  rcases h with ⟨hn, k⟩ | ⟨rfl, rfl, k⟩
  · obtain ⟨z, its, kk, r, e⟩ := I.hok p _ h1
    obtain ⟨z2, its2, kk2, r2, e2⟩ := I.hok q _ h2
    exact LQ.nc_len hu0 e e2 (by rw [List.size_toArray, List.size_toArray, ← r.length, ← r2.length]; exact hn) ⟨.bl true, H, I, rfl, k⟩
  · exact LQ.nc_listG (N := 0) hu0 (fun _ s' => s' = s) (nilI I h1 h2) (fun s' e => by subst e; exact ⟨.bl false, H, I, rfl, k⟩) rfl
theorem j_or2 {r r' : R2} {g g' : D → D → Option Slot} (h : R2J X r g) (h' : R2J X r' g') : R2J X (fun x y H Q => r x y H Q ∨ r' x y H Q) (fun x y => (g x y).or (g' x y)) := by
  intro Z F ρ μ δ σ H x y dx dy s Q S bx bY e q
  dsimp only at e
  cases e1 : g dx dy with
  | some s' =>
    rw [e1] at e
    cases e
    exact .inl (h Z F ρ μ δ σ H x y dx dy _ Q S bx bY e1 q)
  | none =>
    rw [e1] at e
    exact .inr (h' Z F ρ μ δ σ H x y dx dy s Q S bx bY e q)
end
section
variable {X : Cx} {W : WX} {k j : Nat} {N : List Str} {sc : Scope} {a b : Expr} {pos : Pos} {oa ob : Opn} {ma mb : ME}
theorem Cs.neNT (C : Cs X W k N sc) (ha : JO X W a oa) (hb : JO X W b ob) : JT X W (.Compare a [.NotEq] [b] pos) (mTb (m2 (gEqN true) oa ob)) := jt_cmp ((o_ne C.hu).or (op_lenNe C.hu)) (j_or2 j_ne (j_len2 true)) ha hb (nomark _)
end
end FL
namespace FL
open PySem PySem.Spec PyProof.Rows L2
theorem tInsK_ok {c : Str} {K : PySem.W.Frag} (t : tInsK c K = true) : InsK K (He.ga K c) := by
  obtain ⟨a1, t⟩ := Bool.and_eq_true_iff.mp t
  obtain ⟨a2, t⟩ := Bool.and_eq_true_iff.mp t
  obtain ⟨a3, t⟩ := Bool.and_eq_true_iff.mp t
  obtain ⟨a4, a5⟩ := Bool.and_eq_true_iff.mp t
  exact ⟨He.cls_ok a1, of_decide_eq_true a2, of_decide_eq_true a3, of_decide_eq_true a4, of_decide_eq_true a5⟩
def EqB (K : PySem.W.Frag) (mg : Str → Option Value) (cs : List String) (g : Addr) : Prop := ∀ c ∈ cs, ∀ C, mg (Str.ofString c) = some (.ref C) → InsK K C ∧ PySem.W.findIn K (.ref C) "__eq__" = some (some (.ref g)) ∧ PySem.W.isFn K (.ref g) = true ∧ PySem.W.findIn K (.ref C) "__ne__" = some (some (.builtin "object.__ne__"))
theorem eqB_of {K : PySem.W.Frag} {h : Heap} {mg : Str → Option Value} {cs : List String} {b : Str} (X : K.In h) (G : h.Ns mainGlobals mg) (t : tEqB cs b K = true) : EqB K mg cs (fAdF K (b, some "__eq__")) := by
  intro c hc C hC
  obtain ⟨t1, t⟩ := Bool.and_eq_true_iff.mp (List.all_eq_true.mp t c hc)
  obtain ⟨t2, t⟩ := Bool.and_eq_true_iff.mp t
  obtain ⟨t3, t⟩ := Bool.and_eq_true_iff.mp t
  obtain ⟨t4, t5⟩ := Bool.and_eq_true_iff.mp t
  rw [He.glo_ok X G t1] at hC
  cases hC
  exact ⟨tInsK_ok t2, of_decide_eq_true t3, t4, of_decide_eq_true t5⟩
theorem eqR_of {P : Program} {w : World} {K : PySem.W.Frag} {mg : Str → Option Value} {base : Heap} {j : Nat} {cs : List String} {g : Addr} {fd : FuncData} {ps : List Str} {m : MF} (B : EqB K mg cs g) (F : FnG P w K mg base (L2.CX P w) j g fd ps (spM K mg m 2)) (hb : Binds K fd ps []) :
    EqR P w K mg base j (fun c => if c ∈ cs then some m else none) := by
  intro c m' h C hC
  dsimp only at h
  by_cases hc : c ∈ cs
  · rw [if_pos hc] at h
    cases h
    obtain ⟨a, b1, b2, b3⟩ := B c hc C hC
    exact ⟨a, g, fd, ps, b1, b2, b3, F, hb⟩
  · rw [if_neg hc] at h
    cases h
end FL
namespace FL
open PySem PySem.Spec PyProof.Rows L2
def gTupE (neg : Bool) : D → D → Option Slot
  | .tup xs, .tup [] => some (tb (decide (xs = []) != neg))
  | _, _ => none
def gEqM (neg : Bool) : D → D → Option Slot := fun x y => (gTupE neg x y).or (gEq neg x y)
def rTupE (X : Cx) (neg : Bool) : R2 := fun x y H Q => ∃ p q xs, x = .ref p ∧ y = .ref q ∧ SqT X.K H p xs ∧ SqT X.K H q [] ∧ Q (.bl (decide (xs = []) != neg)) H
section
variable {X : Cx}
theorem j_tupE (neg : Bool) : R2J X (rTupE X neg) (gTupE neg) := by
  intro Z F ρ μ δ σ H x y dx dy s Q S bx bY e q
  unfold gTupE at e
  split at e
  · rename_i xs
    obtain ⟨p, vs, rfl, hp, rp⟩ := bx.tup S
    obtain ⟨p2, vs2, rfl, hp2, rp2⟩ := bY.tup S
    cases rp2
    cases e
    refine ⟨p, p2, vs, rfl, rfl, hp, hp2, ?_⟩
    have h : decide (vs = []) = decide (xs = []) := by
      rw [decide_eq_decide]
      cases rp with
      | nil => simp
      | cons => simp
    rw [h]
    exact q _ H F .refl S ⟨.bl, fun o p z => by cases z⟩
  · cases e
theorem len0 {xs : List V} {its : List Value} (r : Vals xs its) : (its.toArray.size == (#[] : Array Value).size) = decide (xs = []) := by
  cases r with
  | nil => rfl
  | cons => simp
theorem op_tupNe (hu : X.A.units + 64 < cLine) : OpR X (compareOp .NotEq) (rTupE X true) := by
  intro pins s σ H x y v u Q I rx ry h
  obtain ⟨p, q, xs, rfl, rfl, h1, h2, h⟩ := h
  cases (show v = Value.ref p from rx)
  cases (show u = Value.ref q from ry)
  obtain ⟨its, r, t, _⟩ := I.tuple h1
  obtain ⟨its2, r2, t2, _⟩ := I.tuple h2
  cases r2
  show wpAny (model X.prog X.w) X.A (richCompare .NotEq (.ref p) (.ref q)) (EP X pins σ Q) X.xe s
  refine PySem.SeqAt.RcNeAt.tuples (e := fun _ => true) (items2 := #[]) t t2 (by omega) (fun j h1 h2 => absurd h2 (Nat.not_lt_zero _)) X.prog X.w X.xe _ ?_
  refine ⟨.bl (decide (xs = []) != true), H, I, ?_, h⟩
  have e := len0 r
  rw [show (!((List.range (min its.toArray.size (#[] : Array Value).size)).all (fun _ => true) && its.toArray.size == (#[] : Array Value).size)) = !decide (xs = []) by rw [e]; simp]
  cases decide (xs = []) <;> rfl
end
section
variable {X : Cx} {W : WX} {k j : Nat} {N : List Str} {sc : Scope} {a b : Expr} {pos : Pos} {oa ob : Opn}
theorem j_orM {r r' : R2} {g g' : D → D → Option Slot} (h : R2J X r g) (h' : R2J X r' g') : R2J X (fun x y H Q => r x y H Q ∨ r' x y H Q) (fun x y => (g x y).or (g' x y)) := h.or h'
theorem Cs.neMT (C : Cs X W k N sc) (ha : JO X W a oa) (hb : JO X W b ob) : JT X W (.Compare a [.NotEq] [b] pos) (mTb (m2 (gEqM true) oa ob)) := jt_cmp ((op_tupNe C.hu).or (o_ne C.hu)) (j_orM (j_tupE true) j_ne) ha hb (nomark _)
end
@[simp] theorem eqM_nil (neg : Bool) (xs : List D) : gEqM neg (.tup xs) (.tup []) = some (tb (decide (xs = []) != neg)) := rfl
end FL
namespace FL
open PySem PySem.Spec PyProof.Rows L2
section
variable {prog : Program} {w : World} {A : Around} {E : Value → Shared → Prop} {s : Shared}
theorem adjust_rev (n : Nat) : Builtin.Slice.sliceAdjust none none (-1) (n : Int) = ((n : Int) - 1, -1) := rfl
theorem places_rev (n : Nat) : Builtin.Slice.slicePlaces ((n : Int) - 1) (-1) (-1) = n := by
  unfold Builtin.Slice.slicePlaces
  have h1 : ¬ ((-1 : Int) > 0) := by omega
  rw [if_neg h1]
  by_cases h : (n : Int) - 1 > -1
  · rw [if_pos h]
    have : ((n : Int) - 1 - -1 - 1) / -(-1 : Int) + 1 = n := by
      rw [show -(-1 : Int) = 1 from rfl, Int.ediv_one]; omega
    rw [this]; simp
  · rw [if_neg h]
    omega
theorem sliceApplied_rev {sl : Addr} {vs : Value} {n : Nat} {Q : Int × Int × Nat → Shared → Prop} (hs : s.heap.IsSliceOf sl .none .none vs) (ps : IsPart vs (some (-1)))
    (h : Q ((n : Int) - 1, -1, n) s) : wpAny (model prog w) A (Builtin.Slice.sliceApplied (.ref sl) (pure (n : Int))) Q E s := by
  obtain ⟨os, hos, hcs, hds⟩ := id hs
  unfold Builtin.Slice.sliceApplied Builtin.Slice.sliceFields
  refine wpAny_bind (wpAny_bind (wpAny_field hos hds (x := .none) rfl (wpAny_bind (wpAny_field hos hds (x := .none) rfl (wpAny_bind (wpAny_field hos hds (x := vs) rfl (wpAny_pure ?_)))))))
  refine wpAny_bind (HT.slicePart_ ps ?_)
  show wpAny _ _ (if ((-1 : Int) == 0) = true then _ else _) _ _ s
  rw [if_neg (by decide)]
  refine wpAny_bind (slicePart_none (wpAny_bind (slicePart_none (wpAny_bind (wpAny_pure ?_)))))
  show wpAny _ _ (match Builtin.Slice.sliceAdjust none none (-1) (n : Int) with | (lo, hi) => pure (lo, (-1 : Int), Builtin.Slice.slicePlaces lo hi (-1))) _ _ s
  rw [adjust_rev n]
  show wpAny _ _ (pure ((n : Int) - 1, (-1 : Int), Builtin.Slice.slicePlaces ((n : Int) - 1) (-1) (-1))) _ _ s
  rw [places_rev]
  exact wpAny_pure h
theorem fm_congr {α β : Type} {f g : α → Option β} : ∀ {l : List α}, (∀ x ∈ l, f x = g x) → l.filterMap f = l.filterMap g
  | [], _ => rfl
  | x :: l, h => by
    have e := h x (List.mem_cons_self ..)
    rw [List.filterMap_cons, List.filterMap_cons, e, fm_congr fun y hy => h y (List.mem_cons_of_mem _ hy)]
theorem pick_rev (xs : Array Value) : ((List.range xs.size).filterMap fun (m : Nat) => xs[(((xs.size : Nat) : Int) - 1 + (m : Int) * (-1)).toNat]?).toArray = xs.toList.reverse.toArray := by
  have e : ((List.range xs.size).filterMap fun (m : Nat) => xs[(((xs.size : Nat) : Int) - 1 + (m : Int) * (-1)).toNat]?) = xs.toList.reverse := by
    have e1 : ((List.range xs.size).filterMap fun (m : Nat) => xs[(((xs.size : Nat) : Int) - 1 + (m : Int) * (-1)).toNat]?) = (List.range xs.size).filterMap fun m => xs.toList.reverse[m]? := by
      refine fm_congr fun m hm => ?_
      have hm : m < xs.size := by simpa using hm
      have : (((xs.size : Nat) : Int) - 1 + (m : Int) * (-1)).toNat = xs.size - 1 - m := by omega
      rw [this, List.getElem?_reverse (by simpa using hm)]
      simp
    rw [e1]
    have key : ∀ l : List Value, (List.range l.length).filterMap (fun m => l[m]?) = l := by
      intro l
      apply List.ext_getElem?
      intro i
      induction l generalizing i with
      | nil => simp
      | cons a l ih =>
        rw [List.length_cons, List.range_succ_eq_map, List.filterMap_cons]
        simp only [List.getElem?_cons_zero, List.filterMap_map]
        cases i with
        | zero => simp
        | succ i =>
          simp only [List.getElem?_cons_succ]
          have := ih i
          rw [← this]
          congr 1
    have := key xs.toList.reverse
    rw [List.length_reverse, Array.length_toList] at this
    exact this
  rw [e]
theorem getItem_tuple_rev {t sl : Addr} {items : Array Value} {vs : Value} {Q : Value → Shared → Prop} (ht : IsTup s.heap t items) (hs : s.heap.IsSliceOf sl .none .none vs) (ps : IsPart vs (some (-1)))
    (h : Q (.ref s.heap.objs.size) { s with heap := s.heap.push { cls := .type "tuple", data := .seq items.toList.reverse.toArray } })
    (hsz : items.size ≤ sizeLine) : wpAny (model prog w) A (getItem (.ref t) (.ref sl)) Q E s := by
  have htake : sizeOk (.seq items.toList.reverse.toArray) := by
    show items.toList.reverse.toArray.size ≤ sizeLine
    rw [List.size_toArray, List.length_reverse, Array.length_toList]
    exact hsz
  obtain ⟨os, hos, hcs, hds⟩ := id hs
  have hTs : s.TypeIs (.ref sl) "slice" := ⟨os, hos, hcs⟩
  unfold getItem
  try with_reducible refine wpAny_holding ?_
  first | refine wpAny_bind (wpAny_pure ?_) | skip
  refine wpAny_bind (wpAny_sequenceKey ht.typeIs (by decide) ?_)
  refine wpAny_bind (wpAny_callSpecial?_slot (name := Str.ofString "__getitem__") ht.typeIs PyProof.Rows.slot_tuple_getitem
    (wpAny_call_entry PyProof.Rows.slot_tuple_getitem ht.typeIs entry_tuple_getitem ?_ (args_tuple_getitem _ _)))
  show wpAny _ _ (Builtin.Tuple.tupleItemsOf (.ref t) >>= _) _ _ s
  refine wpAny_bind (tupleItemsOf_ ht ?_)
  refine wpAny_bind (wpAny_typeOf hTs ?_)
  try rw [if_pos (by decide)]
  refine wpAny_bind (sliceApplied_rev hs ps ?_)
  have hno : ¬ (((((items.size : Nat) : Int) - 1) == 0 && (-1 : Int) == 1 && items.size == items.size) = true) := by
    intro q
    rw [Bool.and_eq_true, Bool.and_eq_true] at q
    exact absurd q.1.2 (by decide)
  show wpAny _ _ (if ((((items.size : Nat) : Int) - 1) == 0 && (-1 : Int) == 1 && items.size == items.size) = true then _ else _) _ _ s
  rw [if_neg hno, pick_rev]
  first
    | exact wpAny_bind (m := Builtin.Tuple.tupleExact _) (wpAny_newObj_type (wpAny_pure ⟨_, rfl, wpAny_pure h⟩) htake)
    | exact wpAny_bind (m := Builtin.Tuple.tupleExact _) (wpAny_newObj_type (wpAny_bind (wpAny_pure (wpAny_pure ⟨_, rfl, wpAny_pure h⟩))) htake)
    | exact wpAny_bind (wpAny_bind (m := Builtin.Tuple.tupleExact _) (wpAny_newObj_type (wpAny_pure (wpAny_pure ⟨_, rfl, wpAny_pure h⟩)) htake))
    | exact wpAny_bind (wpAny_bind (m := Builtin.Tuple.tupleExact _) (wpAny_newObj_type (wpAny_pure ⟨_, rfl, wpAny_pure h⟩) htake))
end
theorem vals_reverse : ∀ {xs : List V} {its : List Value}, Vals xs its → Vals xs.reverse its.reverse
  | [], [], _ => .nil
  | x :: xs, i :: its, h => by
    cases h with
    | cons a b =>
      rw [List.reverse_cons, List.reverse_cons]
      exact (vals_reverse b).append (.cons a .nil)
  | [], _ :: _, h => by cases h
  | _ :: _, [], h => by cases h
section
variable {X : Cx} {W : WX} {e st : Expr} {te : TE} {ts : TO} {p2 pos : Pos}
def tRv (K : PySem.W.Frag) (te : TE) (ts : TO) : TE := fun σ H Q => te σ H fun x H1 => ts σ H1 fun l H2 => l = some (-1) ∧ ∃ a xs, x = .ref a ∧ SqT K H2 a xs ∧ ∀ p, H2 p = none → Q (.ref p) (upd H2 p (.tup xs.reverse))
theorem pe_rev (he : PE X e te) (hs : PO X (some st) ts) : PE X (.Subscript e (.Slice none none (some st) p2) pos) (tRv X.K te ts) := by
  refine ⟨fun pins s σ H Q I h => ?_⟩
  refine Subscript_ (thn (he.run pins s σ H _ I h) fun v s1 ⟨x, H1, I1, r1, q1⟩ => ?_)
  refine wpAny_Slice ?_
  rw [evalPart_none]
  refine wpAny_pure ?_
  refine wpAny_pure (thn (hs.run pins s1 σ H1 _ I1 q1) fun vs s3 ⟨l, H3, I3, pu, q3⟩ => ?_)
  obtain ⟨rfl, a, xs, rfl, hx, q⟩ := q3
  cases (show v = Value.ref a from r1)
  have I4 : Inv X pins σ H3 { s3 with heap := s3.heap.push { cls := .type "slice", data := .fields #[.none, .none, vs] } } := I3.kept (t' := s3.toks) fun b ob q => Heap.get?_push_of_some _ q
  obtain ⟨its, r, ht, hz⟩ := I4.tuple hx
  have hlen : its.toArray.size = xs.length := by rw [List.size_toArray]; exact r.length.symm
  have hg : wpAny (model X.prog X.w) X.A (getItem (.ref a) (.ref s3.heap.objs.size)) (EP X pins σ Q) X.xe { s3 with heap := s3.heap.push { cls := .type "slice", data := .fields #[.none, .none, vs] } } := by
    refine getItem_tuple_rev ht (Heap.IsSliceOf.new ..) pu ?_ (by rw [hlen]; exact hz)
    refine ⟨.ref _, _, I4.laid (t' := s3.toks) (o := .tup xs.reverse) (fun b ob q => Heap.get?_push_of_some _ q) (Nat.le_refl _) ?_, rfl, q _ (I4.hok.fresh (Nat.le_refl _))⟩
    exact ⟨by rw [List.length_reverse]; exact hz, _, vals_reverse r, IsTup.new _ _⟩
  show wpAny (model X.prog X.w) X.A (subscriptTail e (.Slice none none (some st) p2) (.ref a) (.ref s3.heap.objs.size)) (EP X pins σ Q) X.xe { s3 with heap := s3.heap.push { cls := .type "slice", data := .fields #[.none, .none, vs] } }
  exact tail_any (ops := [.ref a, .ref s3.heap.objs.size]) ht.typeIs PyProof.Rows.slot_tuple_getitem.lookup hg (by with_unfolding_all rfl)
def gRv : D → Option Slot
  | .tup xs => some (.fr (.tup xs.reverse))
  | _ => none
def mRv (o : Opn) (m : MM (Option Int)) : ME := fun δ μ => (o.ev δ μ).bind fun r δ1 μ1 => (m δ1 μ1).bind fun l δ2 μ2 => if l = some (-1) then (match r.at δ2 μ2 with
  | some d => lift (gRv d) δ2 μ2
  | none => .bad) else .bad
theorem repL_rev {K : PySem.W.Frag} {mg : Str → Option Value} {F : Hp} {ρ : List Addr} : ∀ {vs : List V} {ds : List D}, RepL K mg F ρ vs ds → RepL K mg F ρ vs.reverse ds.reverse
  | [], [], _ => .nil
  | v :: vs, d :: ds, h => by
    cases h with
    | cons a b =>
      rw [List.reverse_cons, List.reverse_cons]
      exact (repL_rev b).app (.cons a .nil)
  | [], _ :: _, h => by cases h
  | _ :: _, [], h => by cases h
theorem je_rev {oo : Opn} {ml : MM (Option Int)} (ho : JO X W e oo) (hl : JP X W (some st) ml) : JE X W (.Subscript e (.Slice none none (some st) p2) pos) (mRv oo ml) := by
  refine (pe_rev ho hl).imp fun σ H Q ⟨Z, F, ρ, μ, δ, S, q⟩ => ⟨Z, F, ρ, μ, δ, S, (FinE.bind q).imp fun ra δ1 μ1 H1 F1 ρ1 l1 lr1 S1 ⟨_, _, _, p⟩ x hx => ?_⟩
  refine ⟨Z, F1, ρ1, μ1, δ1, S1, p.bind.imp fun l δ2 μ2 H2 F2 ρ2 l2 lr2 S2 ⟨_, _, _, p2⟩ => ?_⟩
  have hx2 := hx.up l2 lr2
  by_cases hl1 : l = some (-1)
  · rw [if_pos hl1] at p2
    subst hl1
    refine ⟨rfl, ?_⟩
    cases ea : ra.at δ2 μ2 with
    | none => rw [ea] at p2; exact p2.elim
    | some d =>
      rw [ea] at p2
      dsimp only at p2
      unfold lift at p2
      cases d <;> first | exact p2.elim | skip
      rename_i ds
      obtain ⟨a, vs, rfl, h, r⟩ := (hx2.bor S2 ea).tup S2
      refine ⟨a, vs, rfl, h, fun b hb => ?_⟩
      obtain ⟨F', l', S', vr⟩ := vr_newT S2 hb (repL_rev r)
      exact p2 _ F' ρ2 l' .refl S' _ vr
  · rw [if_neg hl1] at p2
    exact p2.elim
end
end FL
namespace FL
open PySem PySem.Spec PyProof.Rows L2
def rExtT (K : PySem.W.Frag) : V → List V → Hp → VK → Prop := fun x vs H Q => ∃ l b xs zs, x = .ref l ∧ vs = [.ref b] ∧ H l = some (.lst xs) ∧ SqT K H b zs ∧ xs.length + zs.length ≤ sizeLine ∧ Q .non (upd H l (.lst (xs ++ zs)))
section
variable {X : Cx} {W : WX}
theorem mt_extT : MtR X "list.extend" (rExtT X.K) := by
  intro pins s σ H x vs v us Q I rx rv h
  obtain ⟨l, b, xs, zs, rfl, rfl, hH, hB, hz, q⟩ := h
  cases (show v = Value.ref l from rx)
  obtain ⟨u, rfl, ru⟩ := rv.one
  cases (show u = Value.ref b from ru)
  obtain ⟨z, its, n, r, hl, e⟩ := I.lstM hH
  obtain ⟨its2, r2, ⟨ob, eb, cb, n2, db⟩, z2⟩ := I.tuple hB
  have hl2 := r2.length
  have hs : its.toArray.size + its2.toArray.size ≤ sizeLine := by simp only [List.size_toArray]; omega
  refine wpAny_call_entry PySem.F.slot_list_extend (T := "list") ⟨_, e, rfl⟩ PySem.F.entry_list_extend ?_ (PySem.F.args_list_extend_2 _ _)
  show wpAny _ X.A.in1 (Builtin.List.listExtendWith (.ref l) (.ref b) .none) _ _ s
  unfold Builtin.List.listExtendWith Builtin.List.listItems
  refine wpAny_bind (wpAny_typeOf (T := "tuple") ⟨ob, eb, cb⟩ ?_)
  have ht : (Builtin.List.listSameRef (.ref l) (.ref b) || Value.type "tuple" == Value.type "list" || Value.type "tuple" == Value.type "tuple") = true := by simp
  rw [if_pos ht]
  refine wpAny_bind (wpAny_bind (wpAny_seqItems eb db (wpAny_pure ?_)))
  refine wpAny_bind (wpAny_bind (wpAny_seqItems e rfl (wpAny_pure ?_)))
  have hn : ¬ (!its.toArray.isEmpty && Builtin.List.listTooLong (its.toArray.size + its2.toArray.size)) = true := by
    rw [notLongL hs, Bool.and_false]
    exact Bool.false_ne_true
  rw [if_neg hn]
  show wpAny _ X.A.in1 (updateSeq l (· ++ its2.toArray) >>= fun _ => ret .none) _ _ s
  have q1 : its.toArray.size ≤ sizeLine := by omega
  have q2 : (its.toArray ++ its2.toArray).size ≤ sizeLine + 1 := by rw [Array.size_append]; omega
  refine wpAny_bind (wpAny_updateSeq (hz := q1) (_hz' := q2) e rfl ?_)
  refine wpAny_pure ⟨_, rfl, .non, _, I.lset (t' := s.toks) (its' := its ++ its2) hH e (by simp) (r.append r2) ?_, rfl, q⟩
  rw [List.length_append]
  omega
def gExtT : Own → List D → Option (D × Own)
  | .lst xs, [.tup ys] => if xs.length + ys.length ≤ 16777216 then some (.non, .lst (xs ++ ys)) else none
  | _, _ => none
theorem j_extT : MutJ X (rExtT X.K) gExtT := by
  intro Z F ρ μ δ σ H p c xs ds d c' Q S ow rx e q
  unfold gExtT at e
  split at e
  · rename_i a b
    by_cases hz : a.length + b.length ≤ 16777216
    · rw [if_pos hz] at e
      cases e
      obtain ⟨v, rfl, hv⟩ := rx.single
      obtain ⟨vs, hH, r⟩ := ow
      obtain ⟨t, zs, rfl, ht, rt⟩ := (Bor.fr hv).tup S
      exact ⟨p, t, vs, zs, rfl, rfl, hH, ht, by rw [r.len, rt.len, line_eq]; exact hz, q _ _ .non ⟨_, upd_same, r.app rt⟩⟩
    · rw [if_neg hz] at e; cases e
  · cases e
end
inductive OutY where
  | nx (acc : List D) (δ : FL.Loc) (μ : Mem)
  | bad
section
variable (X : Cx)
def FinY (Z F : Hp) (ρ : List Addr) (D : GEnds) : OutY → Prop
  | .nx acc δ μ => ∀ ys' σ' H' F' ρ', Le Z F F' → LeR Z ρ ρ' → Sim X.K X.mg Z F' ρ' μ δ σ' H' → RepL X.K X.mg F' ρ' ys' acc → D.nx ys' σ' H'
  | .bad => False
end
theorem _root_.L2.GS.imp {X : Cx} {s : Stmt} {t t' : TGn} (h : GS X s t) (hi : ∀ D ys σ H, t' D ys σ H → t D ys σ H) : GS X s t' := ⟨fun A S ip R n ys s₀ c fs K J gd lv s σ H D a b k I q => h.run A S ip R n ys s₀ c fs K J gd lv s σ H D a b k I (hi D ys σ H q)⟩
theorem _root_.L2.GSs.imp {X : Cx} {s : List Stmt} {t t' : TGn} (h : GSs X s t) (hi : ∀ D ys σ H, t' D ys σ H → t D ys σ H) : GSs X s t' := ⟨fun A S ip R n ys s₀ c fs K J gd lv s σ H D a b k I q => h.run A S ip R n ys s₀ c fs K J gd lv s σ H D a b k I (hi D ys σ H q)⟩
section
variable {X : Cx} {W : WX} {Z F F1 : Hp} {ρ ρ1 : List Addr} {D : GEnds}
theorem FinY.mono {r : OutY} (h : FinY X Z F ρ D r) (l : Le Z F F1) (lr : LeR Z ρ ρ1) : FinY X Z F1 ρ1 D r := by
  cases r with
  | nx acc δ μ => exact fun ys' σ' H' F' ρ' l' lr' S r => h ys' σ' H' F' ρ' (l.trans l') (lr.trans lr') S r
  | bad => exact h
end
end FL
namespace FL
open PySem PySem.Spec PyProof.Rows L2
def MthB (K : PySem.W.Frag) (mg : Str → Option Value) (cs : List String) (b f : Str) : Prop := ∀ c ∈ cs, ∀ C, mg (Str.ofString c) = some (.ref C) → Cls K C ∧ Meth K C f (fAdF K (b, some f))
theorem mthB_of {K : PySem.W.Frag} {h : Heap} {mg : Str → Option Value} {cs : List String} {b f : Str} (X : K.In h) (G : h.Ns mainGlobals mg) (t : tMths cs b f K = true) : MthB K mg cs b f := by
  intro c hc C hC
  obtain ⟨t1, t⟩ := Bool.and_eq_true_iff.mp t
  obtain ⟨t2, t⟩ := Bool.and_eq_true_iff.mp t
  obtain ⟨t3, t⟩ := Bool.and_eq_true_iff.mp (List.all_eq_true.mp t c hc)
  obtain ⟨t4, t5⟩ := Bool.and_eq_true_iff.mp t
  rw [He.glo_ok X G t3] at hC
  cases hC
  exact ⟨He.cls_ok t4, of_decide_eq_true t5, t1, t2⟩
section
variable {X : Cx} {W : WX} {k j : Nat} {N : List Str} {sc : Scope} {e o a b : Expr} {es : List Expr} {pos p apos pos' : Pos} {x : Str} {i : Nat}
theorem Cg.ov (C : Cg X W k N sc) (h : varC N sc i x = true) : JO X W (.Name x p) (.v i) := jo_v (C.var h)
theorem Cg.hu (C : Cg X W k N sc) : X.A.units + 64 < cLine := by
  have := C.rm.un
  omega
theorem Cg.neNT {oa ob : Opn} (C : Cg X W k N sc) (ha : JO X W a oa) (hb : JO X W b ob) : JT X W (.Compare a [.NotEq] [b] pos) (mTb (m2 (gEqN true) oa ob)) := jt_cmp ((o_ne C.hu).or (op_lenNe C.hu)) (j_or2 j_ne (j_len2 true)) ha hb (nomark _)
theorem extT_ {oo : Opn} {ms : List ME} (ho : JO X W o oo) (ha : JA X W [e] ms) (hbase : attributeBase o "extend" X.env (eval o X.env) = eval o X.env := by rfl)
    (hline : (apos.endLine == pos.line) = true := by rfl) (hs : starEach [e] X.env = (false, eval e X.env) :: starEach [] X.env := by rfl)
    (hfew : ((backTo pos (starEach [e] X.env)).all (fun x => !x.1) && (backToKw pos (keywordEach [] X.env)).all (fun x => x.1.isSome)
      && decide ([e].length + ([] : List Keyword).length + (if ([] : List Keyword).isEmpty then 0 else 1) < 30)) = true := by rfl) : JE X W (.Call (.Attribute o "extend" apos) [e] [] pos) (mMut "list" gExtT oo ms) :=
  je_mut PySem.F.plainAttrs_list PySem.F.slot_list_extend PySem.F.type_list_extend mt_extT j_extT ho ha hbase hfew hline hs
end
end FL
namespace FL
open PySem PySem.Spec PyProof.Rows L2
section
variable {P : Program} {w : World} {K : PySem.W.Frag} {mg : Str → Option Value} {base : Heap} {j : Nat} {c f : String} {n : Nat} {m : MF} {fd : FuncData} {ps : List Str}
theorem MethR.up {i : Nat} {mt : String → String → Nat → Option MF} (h : MethR P w K mg base i mt) (hij : i ≤ j) : MethR P w K mg base j mt := by
  intro c f n m e C hC
  obtain ⟨cl, g, fd, ps, ds, dvs, dds, m', N, h1, h2, h3⟩ := h c f n m e C hC
  exact ⟨cl, g, fd, ps, ds, dvs, dds, m', N, h1, h2.mono hij, h3⟩
end
section
variable {X : Cx} {W : WX} {k j n N : Nat} {nm : List Str} {sc : Scope} {e o : Expr} {es : List Expr} {kws : List Keyword} {pos p apos pos' tpos : Pos} {m mi : MF} {ms mks : List ME} {c : String} {ks : List Str} {sel : List Sel} {dds : List D} {at_ : String → String → Att} {f : String}
theorem Fd.bind1 {K : PySem.W.Frag} {x qual : Str} {st : Stmt} {f : Addr} {fd : FuncData} (F : Fd K x qual st f fd .none) {ps ks : List Str} {n : Nat} {sel : List Sel} {dw : List Value}
    (h : ∀ (kV doc pm : Value) (an : Option Addr) (cdv ct : Value), BindW1 K (PySem.W.fnOf x qual (defArgs st) (defBody st) (defScope st) .none kV doc pm an cdv ct) ps n ks sel dw) : BindW1 K fd ps n ks sel dw := by
  obtain ⟨oc, od, kV, doc, pm, an, cdv, ct, osl, rfl, lk, hcd⟩ := F.ex
  exact h _ _ _ _ _ _
end
end FL
namespace FL
open PySem L2
def gRepZ : D → D → Option FL.Slot
  | .str x, .int k => if 0 ≤ k ∧ k ≤ 1 then some (.fr (.str (if k = 0 then [] else x))) else none
  | _, _ => none
theorem mul_toZ {x : Tx} {k : Int} (h0 : 0 ≤ k) (h1 : k ≤ 1) : Txt.mul (toS x) k = toS (if k = 0 then [] else x) := by
  have : k = 0 ∨ k = 1 := by omega
  rcases this with rfl | rfl <;> rfl
theorem mul_okZ {x : Tx} {k : Int} (h0 : 0 ≤ k) (h1 : k ≤ 1) : MulOk (toS x) k := by
  have : k = 0 ∨ k = 1 := by omega
  rcases this with rfl | rfl
  · exact ⟨by decide, fun h => absurd (by decide) h, fun h => absurd (by decide) h⟩
  · exact ⟨by decide, fun _ h => absurd h (by simp), fun _ h => absurd h (by simp)⟩
theorem j_mulZ {X : Cx} : R2J X rMulS gRepZ := by
  refine r2_flat fun F ρ H x y dx dy s Q bx bY e => ?_
  unfold gRepZ at e
  cases dx <;> cases dy <;> first | (cases e; done) | skip
  rename_i x k
  have e : (if 0 ≤ k ∧ k ≤ 1 then some (FL.Slot.fr (.str (if k = 0 then [] else x))) else none) = some s := e
  by_cases h : 0 ≤ k ∧ k ≤ 1
  · rw [if_pos h] at e
    cases e
    cases bx.str
    cases bY.int
    exact ⟨_, fun q => ⟨_, k, rfl, rfl, mul_okZ h.1 h.2, by rw [mul_toZ h.1 h.2]; exact q⟩, _, rfl, fun _ _ => .str⟩
  · rw [if_neg h] at e
    cases e
def gMulC : D → D → Option FL.Slot := fun x y => (gMulB x y).or (gRepZ x y)
theorem mulC_ {X : Cx} {W : WX} {a b : Expr} {oa ob : Opn} {pos : Pos} (ha : JO X W a oa) (hb : JO X W b ob) : JE X W (.BinOp a .Mult b pos) (m2 gMulC oa ob) := je_bin ((o_mulA.or op_mulS).or op_mulS) (R2J.or (R2J.or j_mulA j_mulS) j_mulZ) ha hb
theorem mulC_one {c : Nat} {k : Int} (h1 : 0 ≤ k) (h2 : k ≤ 1000) : gMulC (.str [c]) (.int k) = some (.fr (.str (List.replicate k.toNat c))) := by
  by_cases h : 2 ≤ k
  · simp [gMulC, gMulB, gMulA, gMul, gRep, gInt, gRepS, h, h2]
  · have : k = 0 ∨ k = 1 := by omega
    rcases this with rfl | rfl <;> simp [gMulC, gMulB, gMulA, gMul, gRep, gInt, gRepS, gRepZ]
end FL
namespace FL
open PySem
theorem NF.cons {k h g l c p kp} {fs : List Frame} : NF (.ret k h g l c p kp :: fs) ↔ NF fs := by
  simp [NF, splitAtGen]
theorem NF.app : ∀ {fs gs : List Frame}, NF fs → NF gs → NF (fs ++ gs)
  | [], _, _, h => h
  | .ret _ _ _ _ _ _ _ :: fs, gs, a, b => NF.cons.mpr (NF.app (NF.cons.mp a) b)
  | .gen _ _ _ _ _ :: fs, gs, a, _ => by simp [NF, splitAtGen] at a
def NE : End → Prop
  | .susp _ _ _ _ _ _ fs => NF fs
  | _ => True
theorem NE.gs {e : End} (h : NE e) : NG e.genState := by
  cases e with
  | ret _ => trivial
  | susp _ _ _ _ _ _ fs => exact h
theorem Keep.refl {a b : Array GenState} : Keep a a b b := fun _ _ _ h1 h2 _ => ⟨h1, h2⟩
theorem Rel.push {a b : Array GenState} {c : Code} (h : Rel a b) : Rel (a.push (.fresh c)) (b.push (.fresh c)) := by
  refine ⟨by simp [h.1], fun i x y h1 h2 => ?_⟩
  rw [Array.getElem?_push] at h1 h2
  rw [h.1] at h1
  by_cases e : i = b.size
  · rw [if_pos e] at h1 h2
    injection h1 with h1
    injection h2 with h2
    exact .inl ⟨h1.symm.trans h2, by rw [← h1]; trivial⟩
  · rw [if_neg e] at h1 h2
    exact h.2 i x y h1 h2
theorem Keep.push {a b : Array GenState} {c : Code} (h : Rel a b) : Keep a (a.push (.fresh c)) b (b.push (.fresh c)) := fun i x y h1 h2 _ => by
  have ha := (Array.getElem?_eq_some_iff.mp h1).1
  have hb := (Array.getElem?_eq_some_iff.mp h2).1
  rw [Array.getElem?_push, Array.getElem?_push, if_neg (by omega), if_neg (by omega)]
  exact ⟨h1, h2⟩
theorem Keep.over {a b a1 b1 : Array GenState} {g : Nat} {u v : GenState} (np : ∀ x y, a[g]? = some x → b[g]? = some y → ¬ Poi x y) (k : Keep (a.setIfInBounds g u) a1 (b.setIfInBounds g u) b1) : Keep a (a1.setIfInBounds g v) b (b1.setIfInBounds g v) := fun i x y h1 h2 p => by
  have e : g ≠ i := fun e => np x y (e ▸ h1) (e ▸ h2) p
  obtain ⟨q1, q2⟩ := k i x y (by rw [Array.getElem?_setIfInBounds, if_neg e]; exact h1) (by rw [Array.getElem?_setIfInBounds, if_neg e]; exact h2) p
  rw [Array.getElem?_setIfInBounds, Array.getElem?_setIfInBounds, if_neg e, if_neg e]
  exact ⟨q1, q2⟩
theorem np_fresh {a b : Array GenState} {g : Nat} {c : Code} (o : a[g]? = some (.fresh c)) : ∀ u v, a[g]? = some u → b[g]? = some v → ¬ Poi u v := fun u v h1 h2 ⟨_, _, _, _, _, _, hx, _⟩ => by
  rw [o] at h1
  cases h1
  cases hx
theorem no_stuck {M : Model} {Γ : Ctx} {p : Pos} {fs : List Frame} {s s' : Shared} {e : End} {x : String} (h : Runs M Γ p (.unsupported x) fs s e s') : False := by
  generalize ht : (Sem.unsupported x : Sem PySem.Fin) = t at h
  induction h <;> first | (cases ht; done) | (rename_i ih _; exact ih ht) | (rename_i ih; exact ih ht) | (rename_i ih _ _; exact ih ht) | simp_all
theorem Rel.at {a b : Array GenState} (h : Rel a b) {g : Nat} {x : GenState} (hx : a[g]? = some x) : ∃ y, b[g]? = some y ∧ ((x = y ∧ NG x) ∨ Poi x y) := by
  have ha := (Array.getElem?_eq_some_iff.mp hx).1
  have hb : g < b.size := h.1 ▸ ha
  exact ⟨b[g], Array.getElem?_eq_getElem hb, h.2 g x _ hx (Array.getElem?_eq_getElem hb)⟩
theorem seen_poi {x y : GenState} (h : Poi x y) : x.seen = y.seen := by
  obtain ⟨k, l, c, p, fs, cl, rfl, rfl⟩ := h
  rfl
abbrev wG (s : Shared) (b : Array GenState) : Shared := { s with gens := b }
theorem runs_rel {M : Model} {Γ : Ctx} {p : Pos} {t : Sem PySem.Fin} {fs : List Frame} {s s' : Shared} {e : End} (h : Runs M Γ p t fs s e s') :
    NF fs → ∀ b, Rel s.gens b → ∃ b', Rel s'.gens b' ∧ Runs M Γ p t fs (wG s b) e (wG s' b') ∧ NE e ∧ Keep s.gens s'.gens b b' := by
  induction h with
  | done => intro _ b r; exact ⟨b, r, .done, trivial, Keep.refl⟩
  | raise => intro _ b r; exact ⟨b, r, .raise, trivial, Keep.refl⟩
  | again q _ ih => intro f b r; obtain ⟨b', r', d, ne, k⟩ := ih f b r; exact ⟨b', r', .again q d, ne, k⟩
  | rule _ ih => intro f b r; obtain ⟨b', r', d, ne, k⟩ := ih f b r; exact ⟨b', r', .rule d, ne, k⟩
  | «at» _ ih => intro f b r; obtain ⟨b', r', d, ne, k⟩ := ih f b r; exact ⟨b', r', .at d, ne, k⟩
  | load o _ ih => intro f b r; obtain ⟨b', r', d, ne, k⟩ := ih f b r; exact ⟨b', r', .load o d, ne, k⟩
  | update o _ ih => intro f b r; obtain ⟨b', r', d, ne, k⟩ := ih f b r; exact ⟨b', r', .update o d, ne, k⟩
  | loadIfAlive _ ih => intro f b r; obtain ⟨b', r', d, ne, k⟩ := ih f b r; exact ⟨b', r', .loadIfAlive d, ne, k⟩
  | point _ ih => intro f b r; obtain ⟨b', r', d, ne, k⟩ := ih f b r; exact ⟨b', r', .point d, ne, k⟩
  | alloc _ ih => intro f b r; obtain ⟨b', r', d, ne, k⟩ := ih f b r; exact ⟨b', r', .alloc d, ne, k⟩
  | fresh _ ih => intro f b r; obtain ⟨b', r', d, ne, k⟩ := ih f b r; exact ⟨b', r', .fresh d, ne, k⟩
  | ask _ ih => intro f b r; obtain ⟨b', r', d, ne, k⟩ := ih f b r; exact ⟨b', r', .ask d, ne, k⟩
  | choose q _ ih => intro f b r; obtain ⟨b', r', d, ne, k⟩ := ih f b r; exact ⟨b', r', .choose q d, ne, k⟩
  | os _ ih => intro f b r; obtain ⟨b', r', d, ne, k⟩ := ih f b r; exact ⟨b', r', .os d, ne, k⟩
  | handled _ ih => intro f b r; obtain ⟨b', r', d, ne, k⟩ := ih f b r; exact ⟨b', r', .handled d, ne, k⟩
  | genState o _ ih =>
    intro f b r
    obtain ⟨b', r', d, ne, k⟩ := ih f b r
    obtain ⟨y, hy, hp⟩ := r.at o
    have e : _ = GenState.seen y := hp.elim (fun h => congrArg _ h.1) seen_poi
    rw [e] at d
    exact ⟨b', r', .genState hy d, ne, k⟩
  | stack _ ih => intro f b r; obtain ⟨b', r', d, ne, k⟩ := ih f b r; exact ⟨b', r', .stack d, ne, k⟩
  | thread _ ih => intro f b r; obtain ⟨b', r', d, ne, k⟩ := ih f b r; exact ⟨b', r', .thread d, ne, k⟩
  | newGen _ ih =>
    intro f b r
    obtain ⟨b', r', d, ne, k⟩ := ih f _ r.push
    rw [r.1] at d
    exact ⟨b', r', .newGen d, ne, (Keep.push r).trans k⟩
  | call _ _ ih1 ih2 =>
    intro f b r
    obtain ⟨b1, r1, d1, n1, k1⟩ := ih1 rfl b r
    obtain ⟨b2, r2, d2, n2, k2⟩ := ih2 rfl b1 r1
    exact ⟨b2, r2, .call d1 d2, n2, k1.trans k2⟩
  | callSusp _ ih =>
    intro f b r
    obtain ⟨b1, r1, d1, n1, k1⟩ := ih rfl b r
    exact ⟨b1, r1, .callSusp d1, NF.app n1 rfl, k1⟩
  | yield => intro f b r; exact ⟨b, r, .yield, rfl, Keep.refl⟩
  | @resumeFresh Γ p g l k s c e₁ s₁ e s' o _ q _ ih1 ih2 =>
    intro f b r
    obtain ⟨y, hy, hp⟩ := r.at o
    rcases hp with ⟨rfl, hn⟩ | ⟨_, _, _, _, _, _, hx, _⟩
    · have np : ∀ u v, s.gens[g]? = some u → b[g]? = some v → ¬ Poi u v := fun u v h1 h2 ⟨_, _, _, _, _, _, hx, _⟩ => by rw [o] at h1; cases h1; cases hx
      obtain ⟨b1, r1, d1, n1, k1⟩ := ih1 rfl _ (r.set (g := g) (x := .running) trivial)
      obtain ⟨b2, r2, d2, n2, k2⟩ := ih2 rfl _ (r1.set (g := g) n1.gs)
      exact ⟨b2, r2, .resumeFresh hy d1 q d2, n2, (Keep.over np k1).trans k2⟩
    · cases hx
  | @resumeSuspended Γ p g rr l k s k₀ l₀ c₀ p₀ fs cl e₁ s₁ e s' o h1 q _ ih1 ih2 =>
    intro f b r
    have ns : k₀ ≠ stuck := fun h => by rw [h] at h1; exact no_stuck h1
    obtain ⟨y, hy, hp⟩ := r.at o
    rcases hp with ⟨rfl, hn⟩ | ⟨_, _, _, _, _, _, hx, _⟩
    · have np : ∀ u v, s.gens[g]? = some u → b[g]? = some v → ¬ Poi u v := fun u v h1 h2 ⟨_, _, _, _, _, _, hx, _⟩ => by rw [o] at h1; cases h1; injection hx with hx; exact ns hx
      obtain ⟨b1, r1, d1, n1, k1⟩ := ih1 hn _ (r.set (g := g) (x := .running) trivial)
      obtain ⟨b2, r2, d2, n2, k2⟩ := ih2 rfl _ (r1.set (g := g) n1.gs)
      exact ⟨b2, r2, .resumeSuspended hy d1 q d2, n2, (Keep.over np k1).trans k2⟩
    · injection hx with hx
      exact absurd hx ns
  | resumeJustStarted o v _ ih =>
    intro f b r
    obtain ⟨b', r', d, ne, k⟩ := ih f b r
    obtain ⟨y, hy, hp⟩ := r.at o
    rcases hp with ⟨rfl, hn⟩ | ⟨_, _, _, _, _, _, hx, _⟩
    · exact ⟨b', r', .resumeJustStarted hy v d, ne, k⟩
    · cases hx
  | resumeThrowFresh o _ ih =>
    intro f b r
    obtain ⟨y, hy, hp⟩ := r.at o
    rcases hp with ⟨rfl, hn⟩ | ⟨_, _, _, _, _, _, hx, _⟩
    · obtain ⟨b1, r1, d1, n1, k1⟩ := ih f _ (r.set (x := .finished) trivial)
      exact ⟨b1, r1, .resumeThrowFresh hy d1, n1, (Keep.set (np_fresh o)).trans k1⟩
    · cases hx
  | resumeRunning o _ ih =>
    intro f b r
    obtain ⟨b', r', d, ne, k⟩ := ih f b r
    obtain ⟨y, hy, hp⟩ := r.at o
    rcases hp with ⟨rfl, hn⟩ | ⟨_, _, _, _, _, _, hx, _⟩
    · exact ⟨b', r', .resumeRunning hy d, ne, k⟩
    · cases hx
  | resumeFinished o _ ih =>
    intro f b r
    obtain ⟨b', r', d, ne, k⟩ := ih f b r
    obtain ⟨y, hy, hp⟩ := r.at o
    rcases hp with ⟨rfl, hn⟩ | ⟨_, _, _, _, _, _, hx, _⟩
    · exact ⟨b', r', .resumeFinished hy d, ne, k⟩
    · cases hx
  | segRet _ _ ih1 ih2 =>
    intro f b r
    obtain ⟨b1, r1, d1, n1, k1⟩ := ih1 rfl b r
    obtain ⟨b2, r2, d2, n2, k2⟩ := ih2 (NF.cons.mp f) b1 r1
    exact ⟨b2, r2, .segRet d1 d2, n2, k1.trans k2⟩
  | segGen _ _ ih1 ih2 => intro f; simp [NF, splitAtGen] at f
  | segSuspOut hf _ ih =>
    intro f b r
    obtain ⟨b1, r1, d1, n1, k1⟩ := ih rfl b r
    exact ⟨b1, r1, .segSuspOut hf d1, NF.app n1 f, k1⟩
  | segSuspGen hf _ _ _ ih1 ih2 => intro f; rw [NF, hf] at f; cases f
end FL
namespace FL
open PySem
open Sem (wp)
theorem returns_rel {M : Model} {Γ : Ctx} {p : Pos} {s s' : Shared} {r : Result} (h : Returns M Γ p s r s') {b : Array GenState} (hr : Rel s.gens b) :
    ∃ b', Rel s'.gens b' ∧ Returns M Γ p (wG s b) r (wG s' b') ∧ Keep s.gens s'.gens b b' := by
  obtain ⟨b', r', d, _, k⟩ := runs_rel h rfl b hr
  exact ⟨b', r', d, k⟩
theorem wakes_rel {M : Model} {Γ : Ctx} {p : Pos} {g : Nat} {r : Resume} {s s' : Shared} {res : GenResult} (h : Wakes M Γ p g r s res s') {b : Array GenState} (hr : Rel s.gens b) :
    ∃ b', Rel s'.gens b' ∧ Wakes M Γ p g r (wG s b) res (wG s' b') ∧ Keep s.gens s'.gens b b' := by
  cases o : s.gens[g]? with
  | none => unfold Wakes at h; rw [o] at h; exact h.elim
  | some x =>
    obtain ⟨y, hy, hp⟩ := hr.at o
    have hy' : (wG s b).gens[g]? = some y := hy
    unfold Wakes at h ⊢
    rw [o] at h
    rw [hy']
    cases x with
    | fresh c =>
      rcases hp with ⟨rfl, hn⟩ | ⟨_, _, _, _, _, _, hx, _⟩
      · cases r with
        | throw x =>
          obtain ⟨h1, h2⟩ := h
          subst h2
          exact ⟨_, hr.set (g := g) (x := .finished) trivial, ⟨h1, rfl⟩, Keep.set (np_fresh o)⟩
        | send v =>
          dsimp only at h ⊢
          split at h
          · obtain ⟨e₁, s₁, d, q, e, rfl⟩ := h
            obtain ⟨b1, r1, d1, n1, k1⟩ := runs_rel d rfl _ (hr.set (g := g) (x := .running) trivial)
            exact ⟨_, r1.set (g := g) n1.gs, ⟨_, _, d1, q, e, rfl⟩, Keep.over (np_fresh o) k1⟩
          · obtain ⟨h1, h2⟩ := h
            subst h2
            exact ⟨b, hr, ⟨h1, rfl⟩, Keep.refl⟩
          · simp_all
      · cases hx
    | suspended k₀ l c₀ p₀ fs cl =>
      obtain ⟨e₁, s₁, d, q, e, rfl⟩ := h
      have ns : k₀ ≠ stuck := fun h => by rw [h] at d; exact no_stuck d
      rcases hp with ⟨rfl, hn⟩ | ⟨_, _, _, _, _, _, hx, _⟩
      · have np : ∀ u v, s.gens[g]? = some u → b[g]? = some v → ¬ Poi u v := fun u v h1 h2 ⟨_, _, _, _, _, _, hx, _⟩ => by rw [o] at h1; cases h1; injection hx with hx; exact ns hx
        obtain ⟨b1, r1, d1, n1, k1⟩ := runs_rel d hn _ (hr.set (g := g) (x := .running) trivial)
        exact ⟨_, r1.set (g := g) n1.gs, ⟨_, _, d1, q, e, rfl⟩, Keep.over np k1⟩
      · injection hx with hx
        exact absurd hx ns
    | running =>
      rcases hp with ⟨rfl, hn⟩ | ⟨_, _, _, _, _, _, hx, _⟩
      · obtain ⟨h1, h2⟩ := h
        subst h2
        exact ⟨b, hr, ⟨h1, rfl⟩, Keep.refl⟩
      · cases hx
    | finished =>
      rcases hp with ⟨rfl, hn⟩ | ⟨_, _, _, _, _, _, hx, _⟩
      · obtain ⟨h1, h2⟩ := h
        subst h2
        exact ⟨b, hr, ⟨h1, rfl⟩, Keep.refl⟩
      · cases hx
def Ov {β : Type} (a0 b0 : Array GenState) (Q : β → Pos → Shared → Prop) : β → Pos → Shared → Prop := fun x p s2 => ∃ s b, s2 = wG s b ∧ Rel s.gens b ∧ Keep a0 s.gens b0 b ∧ Q x p s
theorem wp_rel {α : Type} (M : Model) (Γ : Ctx) (a0 b0 : Array GenState) (t : Sem α) : ∀ (Q : α → Pos → Shared → Prop) (E : Value → Pos → Shared → Prop) (p : Pos) (s : Shared) (b : Array GenState), Rel s.gens b → Keep a0 s.gens b0 b → wp M Γ t Q E p s →
    wp M Γ t (Ov a0 b0 Q) (Ov a0 b0 E) p (wG s b) := by
  induction t with
  | pure a => intro Q E p s b r k h; exact ⟨s, b, rfl, r, k, h⟩
  | raise e => intro Q E p s b r k h; exact ⟨s, b, rfl, r, k, h⟩
  | unsupported _ => intro Q E p s b r k h; exact h
  | finish _ => intro Q E p s b r k h; exact h
  | rule _ c ih => intro Q E p s b r k h; exact ih () Q E p s b r k h
  | «at» p' c ih => intro Q E p s b r k h; exact ih () Q E p' s b r k h
  | load a _ c ih => intro Q E p s b r k h; obtain ⟨o, ho, h⟩ := h; exact ⟨o, ho, ih o Q E p s b r k h⟩
  | update a _ f c ih => intro Q E p s b r k h; exact ⟨h.1, ih () Q E p { s with heap := s.heap.update a f } b r k h.2⟩
  | loadIfAlive a c ih => intro Q E p s b r k h; exact ih _ Q E p s b r k h
  | point _ c ih => intro Q E p s b r k h; exact ih () Q E p s b r k h
  | register _ _ => intro Q E p s b r k h; exact h
  | alloc o c ih => intro Q E p s b r k h; exact ih s.heap.objs.size Q E p { s with heap := s.heap.push o } b r k h
  | fresh c ih => intro Q E p s b r k h; exact ih s.toks Q E p { s with toks := s.toks + 1 } b r k h
  | ask c ih => intro Q E p s b r k h; exact ih _ Q E p s b r k h
  | choose src m c ih => intro Q E p s b r k h; exact ⟨h.1, ih (M.w.draws src (s.drawn.get src) % m) Q E p { s with drawn := s.drawn.bump src } b r k h.2⟩
  | os q _ c ih => intro Q E p s b r k h; exact ih (Os.step s.os q).2 Q E p { s with os := (Os.step s.os q).1 } b r k h
  | call c hd _ _ cc ih =>
    intro Q E p s b r k h
    obtain ⟨x, s', hr, h⟩ := h
    obtain ⟨b', r', d, k'⟩ := returns_rel hr r
    exact ⟨x, _, d, ih x Q E p s' b' r' (k.trans k') h⟩
  | handled own c ih => intro Q E p s b r k h; exact ih _ Q E p s b r k h
  | genState g c ih =>
    intro Q E p s b r k h
    obtain ⟨st, hs, h⟩ := h
    obtain ⟨y, hy, hp⟩ := r.at hs
    have e : st.seen = y.seen := hp.elim (fun h => congrArg _ h.1) seen_poi
    refine ⟨y, hy, ?_⟩
    rw [← e]
    exact ih _ Q E p s b r k h
  | newGen c cc ih =>
    intro Q E p s b r k h
    have := ih _ Q E p _ _ (r.push (c := c)) (k.trans (Keep.push r)) h
    rw [r.1] at this
    exact this
  | resume g x _ c ih =>
    intro Q E p s b r k h
    obtain ⟨res, s', hw, h⟩ := h
    obtain ⟨b', r', d, k'⟩ := wakes_rel hw r
    exact ⟨res, _, d, ih res Q E p s' b' r' (k.trans k') h⟩
  | yield _ _ _ _ => intro Q E p s b r k h; exact h
  | stack c ih => intro Q E p s b r k h; exact ih _ Q E p s b r k h
  | fork _ _ => intro Q E p s b r k h; exact h
  | thread c ih => intro Q E p s b r k h; exact ih _ Q E p s b r k h
  | await _ _ _ _ _ => intro Q E p s b r k h; exact h
def poi : GenState → GenState
  | .suspended _ l c p fs cl => .suspended stuck l c p fs cl
  | x => x
theorem poi_rel (b : Array GenState) : Rel (b.map poi) b := by
  refine ⟨by simp, fun i x y h1 h2 => ?_⟩
  rw [Array.getElem?_map, h2] at h1
  cases h1
  cases y with
  | suspended k l c p fs cl => exact .inr ⟨k, l, c, p, fs, cl, rfl, rfl⟩
  | _ => exact .inl ⟨rfl, trivial⟩
theorem poi_bare {b : Array GenState} (h : PyProof.Rows.AllBare b) : PyProof.Rows.AllBare (b.map poi) := by
  intro x hx
  obtain ⟨y, hy, rfl⟩ := Array.mem_map.mp hx
  have := h y hy
  cases y <;> simpa [poi, GenState.bare] using this
theorem wpAny_sleep {α : Type} {M : Model} {A : Around} {t : Sem α} {Q : α → Shared → Prop} {E : Value → Shared → Prop} {s : Shared}
    (h : wpAny M A t Q E (wG s (s.gens.map poi))) :
    wpAny M A t (fun x s2 => ∃ s' b, s2 = wG s' b ∧ Rel s'.gens b ∧ (∀ (i : Nat) k l c p fs cl, s.gens[i]? = some (.suspended k l c p fs cl) → b[i]? = some (.suspended k l c p fs cl)) ∧ Q x s')
      (fun x s2 => ∃ s' b, s2 = wG s' b ∧ Rel s'.gens b ∧ (∀ (i : Nat) k l c p fs cl, s.gens[i]? = some (.suspended k l c p fs cl) → b[i]? = some (.suspended k l c p fs cl)) ∧ E x s') s := by
  have keep : ∀ {b' a' : Array GenState}, Keep (s.gens.map poi) a' s.gens b' → ∀ (i : Nat) k l c p fs cl, s.gens[i]? = some (.suspended k l c p fs cl) → b'[i]? = some (.suspended k l c p fs cl) := fun kp i k l c p fs cl hi =>
    (kp i _ _ (by rw [Array.getElem?_map, hi]; rfl) hi ⟨k, l, c, p, fs, cl, rfl, rfl⟩).2
  intro Γ p hΓ
  have := wp_rel M Γ (s.gens.map poi) s.gens t _ _ p (wG s (s.gens.map poi)) s.gens (poi_rel _) Keep.refl (h Γ p hΓ)
  refine Sem.wp_mono M Γ t (fun x p' s2 hx => ?_) (fun x p' s2 hx => ?_) p _ this
  · obtain ⟨s', b, e, r, k, q⟩ := hx
    exact ⟨s', b, e, r, keep k, q⟩
  · obtain ⟨s', b, e, r, k, q⟩ := hx
    exact ⟨s', b, e, r, keep k, q⟩
end FL
namespace FL
open PySem
open Sem (wp)
def Sg (M : Model) (A : Around) (Φ : End → Shared → Prop) (c : Code) (t : Sem PySem.Fin) (fs : List Frame) (s : Shared) : Prop :=
  ∀ Γ p, Γ.code = c → Γ.Woken A → ∃ e s', Runs M Γ p t fs s e s' ∧ Φ e s'
section
variable {M : Model} {A : Around} {Φ : End → Shared → Prop} {c c' : Code} {fs : List Frame} {s : Shared} {env : Env} {Kt : Flow → Sem PySem.Fin} {Ht : Value → Sem PySem.Fin} {gd : Bool → Bool} {lv : List Value → List Value}
theorem sg_wrap {α : Type} {m : Sem α} {a : α → Sem PySem.Fin} {b : Value → Sem PySem.Fin}
    (h : wpAny M (A.over c fs) m (fun x s1 => Sg M A Φ c (a x) fs s1) (fun x s1 => Sg M A Φ c (b x) fs s1) s) : Sg M A Φ c (m.wrap a b gd lv) fs s := by
  intro Γ p e hw
  subst e
  exact runs_wrap_of_wp a b gd lv m (h _ p (hw.over fs)) (fun x p1 s1 q => q Γ p1 rfl hw) fun x p1 s1 q => q Γ p1 rfl hw
theorem sg_at {q : Pos} {k : Unit → Sem PySem.Fin} (h : Sg M A Φ c (k ()) fs s) : Sg M A Φ c (.at q k) fs s :=
  sg_wrap (gd := id) (lv := id) (m := standAt q) (a := k) (b := .raise) (wpAny_standAt h)
theorem sg_point {l : List Value} {k : Unit → Sem PySem.Fin} (h : Sg M A Φ c (k ()) fs s) : Sg M A Φ c (.point l k) fs s :=
  sg_wrap (gd := id) (lv := fun _ => l) (m := point) (a := k) (b := .raise) (wpAny_point h)
theorem sg_call {h : Option Value} {g : Bool} {l : List Value} {k : Result → Sem PySem.Fin} (hc : ∀ p, Sg M A Φ c' (M.den c') (.ret k h g l c p [] :: fs) s) : Sg M A Φ c (.call c' h g l k) fs s := by
  intro Γ p e hw
  subst e
  obtain ⟨x, s1, r, q⟩ := hc p _ p rfl (hw.goto c')
  exact ⟨x, s1, runs_call_seg r, q⟩
theorem sg_leaf {k : Result → Sem PySem.Fin} {h : Option Value} {g : Bool} {l kp : List Value} {q : Pos} (r : Result) (hk : Sg M A Φ c' (k r) fs s) : Sg M A Φ c (leafOf r) (.ret k h g l c' q kp :: fs) s := by
  intro Γ p e hw
  subst e
  obtain ⟨x, s1, d, z⟩ := hk _ q rfl (hw.goto c')
  exact ⟨x, s1, Runs.pop r d, z⟩
theorem sg_again (hq : c'.quiet = true) (hc : Sg M A Φ c' (M.den c') fs s) : Sg M A Φ c (.pure (.again c')) fs s := by
  intro Γ p e hw
  subst e
  obtain ⟨x, s1, d, z⟩ := hc _ p rfl (hw.goto c')
  exact ⟨x, s1, Runs.head (c₁ := c') (fun _ _ y => .again hq y) d, z⟩
theorem sg_end (r : Result) (h : Φ (.ret r) s) : Sg M A Φ c (leafOf r) [] s := by
  intro Γ p e hw
  exact ⟨_, s, Runs.leaf r, h⟩
theorem sg_yield {v : Value} {g : Bool} {l : List Value} {k : Resume → Sem PySem.Fin} (hf : splitAtGen fs = none) (h : ∀ p, Φ (.susp v g l k c p fs) s) : Sg M A Φ c (.yield v g l k) fs s := by
  intro Γ p e hw
  subst e
  exact ⟨_, s, Runs.yield' fs hf, h p⟩
theorem app_wrap (a b : List Stmt) : (execs (a ++ b) env).wrap Kt Ht gd lv = (execs a env).wrap (fun f => match f with | .next => (execs b env).wrap Kt Ht gd lv | f => Kt f) Ht gd lv := by
  induction a with
  | nil => rfl
  | cons st a ih =>
    rw [List.cons_append, execs_cons_wrap, execs_cons_wrap]
    refine Sem.wrap_congr _ _ _ (fun f => ?_) (fun _ => rfl)
    cases f with
    | next => exact ih
    | _ => rfl
theorem sg_app {a b : List Stmt} (h : wpAny M (A.over c fs) (execs a env) (fun f s1 => f = .next ∧ Sg M A Φ c ((execs b env).wrap Kt Ht gd lv) fs s1) (fun _ _ => False) s) : Sg M A Φ c ((execs (a ++ b) env).wrap Kt Ht gd lv) fs s := by
  rw [app_wrap]
  refine sg_wrap (wpAny_mono h (fun f s1 hq => ?_) fun _ _ z => z.elim)
  obtain ⟨rfl, q⟩ := hq
  exact q
theorem sg_cons {st : Stmt} {b : List Stmt} (h : Sg M A Φ c ((exec st env).wrap (fun f => match f with | .next => (execs b env).wrap Kt Ht gd lv | f => Kt f) Ht gd lv) fs s) : Sg M A Φ c ((execs (st :: b) env).wrap Kt Ht gd lv) fs s := by
  rw [execs_cons_wrap]
  exact h
theorem sg_yl {e : Expr} {yp pos : Pos} (hf : splitAtGen fs = none) (hco : env.scope.isCoroutine = false) (hi : interactive env = false)
    (h : wpAny M (A.over c fs) (eval e env) (fun v s1 => ∀ l k p, (∀ (Φ' : End → Shared → Prop) s2, Sg M A Φ' c (Kt .next) fs s2 → Sg M A Φ' c (k (.send .none)) fs s2) → Φ (.susp v (gd false) l k c p fs) s1) (fun _ _ => False) s) :
    Sg M A Φ c ((exec (.Expr (.Yield (some e) yp) pos) env).wrap Kt Ht gd lv) fs s := by
  rw [exec_Expr env _ pos hi rfl]
  show Sg M A Φ c (.at pos fun _ => ((eval e env >>= fun v => (standAt yp >>= fun _ => yieldOut env v)) >>= fun x => dropValue (.Yield (some e) yp) pos x).wrap Kt Ht gd lv) fs s
  have hy : ∀ v, yieldOut env v = yieldValue v := fun v => by simp only [yieldOut, hco, Bool.false_eq_true, if_false]
  simp only [hy]
  refine sg_at ?_
  rw [Sem.bind_eq_wrap', Sem.bind_eq_wrap', Sem.wrap_wrap, Sem.wrap_wrap]
  refine sg_wrap (wpAny_mono h (fun v s1 q => ?_) fun _ _ z => z.elim)
  refine sg_at (sg_yield hf fun p => q _ _ p fun Φ' s2 z => ?_)
  exact z
end
def whK (env : Env) (test : Expr) (body : List Stmt) : Flow → Sem PySem.Fin
  | .next | .cont => .pure (.again (.whileLoop test body [] env))
  | .brk => .pure (.done .next)
  | .ret v => .pure (.done (.ret v))
def whH (env : Env) : Value → Sem PySem.Fin := fun x => (do noteFrame x env; theTreesLotGoes x : Sem Unit).wrap (fun _ => .raise x) .raise id id
section
variable {prog : Program} {w : World} {A : Around} {Φ : End → Shared → Prop} {c : Code} {fs : List Frame} {s : Shared} {env : Env} {Kt : Flow → Sem PySem.Fin} {Ht : Value → Sem PySem.Fin} {gd : Bool → Bool} {lv : List Value → List Value}
def whF (env : Env) (Kt : Flow → Sem PySem.Fin) (Ht : Value → Sem PySem.Fin) (gd : Bool → Bool) (lv : List Value → List Value) (c : Code) (p : Pos) : Frame :=
  .ret (fun r => ((match r with | .ok f => (.pure f : Sem Flow) | .error e => .raise e).onRaise fun (x : Value) => do
    if (← field x 1) == Value.none then unsupported "frame.own-activation:exception-without-traceback"
    setFlight x env.frame).wrap Kt Ht gd lv) none (gd false) (lv []) c p []
theorem sg_while {test : Expr} {body : List Stmt} {pos : Pos} (h : ∀ p, Sg (model prog w) A Φ (.whileLoop test body [] env) ((model prog w).den (.whileLoop test body [] env)) (whF env Kt Ht gd lv c p :: fs) s) :
    Sg (model prog w) A Φ c ((exec (.While test body [] pos) env).wrap Kt Ht gd lv) fs s := sg_at (sg_call h)
theorem sg_turn {test : Expr} {body : List Stmt} (h : wpAny (model prog w) (A.over (.whileLoop test body [] env) fs) (isTrue test env (eval test env)) (fun b s1 =>
      if b = true then Sg (model prog w) A Φ (.whileLoop test body [] env) ((execs body env).wrap (whK env test body) (whH env) id id) fs s1
      else Sg (model prog w) A Φ (.whileLoop test body [] env) (leafOf (.ok .next)) fs s1) (fun _ _ => False) s) :
    Sg (model prog w) A Φ (.whileLoop test body [] env) ((model prog w).den (.whileLoop test body [] env)) fs s := by
  show Sg _ A Φ _ ((whileTurn test body [] env).onRaise (fun x => do noteFrame x env; theTreesLotGoes x)) fs s
  unfold whileTurn
  rw [Sem.onRaise_eq_wrap, Sem.bind_eq_wrap', Sem.wrap_wrap]
  refine sg_wrap (wpAny_mono h (fun b s1 q => ?_) fun _ _ z => z.elim)
  cases b with
  | true =>
    rw [if_pos rfl] at q
    show Sg _ A Φ _ (Sem.wrap _ _ _ _ (if true = true then _ else _)) fs s1
    rw [if_pos rfl, Sem.bind_eq_wrap', Sem.wrap_wrap]
    rw [Sem.wrap_congr (execs body env) _ _ (K' := whK env test body) (H' := whH env) (fun f => by cases f <;> rfl) (fun e => by
      first
        | exact Sem.bind_eq_wrap _ _
        | (show (do noteFrame e env; theTreesLotGoes e : Sem Unit).bind (fun _ => .raise e) = _
           rw [Sem.bind_eq_wrap]
           rfl))]
    exact q
  | false =>
    rw [if_neg Bool.false_ne_true] at q
    show Sg _ A Φ _ (Sem.wrap _ _ _ _ (if false = true then _ else _)) fs s1
    rw [if_neg Bool.false_ne_true, Sem.bind_eq_wrap', Sem.wrap_wrap]
    exact q
theorem sg_popF {p : Pos} (h : Sg (model prog w) A Φ c (Kt .next) fs s) {c' : Code} : Sg (model prog w) A Φ c' (leafOf (.ok .next)) (whF env Kt Ht gd lv c p :: fs) s := sg_leaf (.ok .next) h
def fnK : Flow → Sem PySem.Fin := fun f => .pure (.done (.ret (match f with | .ret v => v | _ => .none)))
def fnH (env : Env) : Value → Sem PySem.Fin := fun x => (leaving env x).wrap (fun _ => .raise x) .raise id id
theorem sg_func {body : List Stmt} (h : Sg (model prog w) A Φ (.func body env) ((execs body env).wrap fnK (fnH env) id id) fs s) : Sg (model prog w) A Φ (.func body env) ((model prog w).den (.func body env)) fs s := by
  show Sg _ A Φ _ (.point [] fun _ => ((execs body env).onRaise (leaving env)) >>= _) fs s
  refine sg_point ?_
  rw [Sem.onRaise_eq_wrap, Sem.bind_eq_wrap', Sem.wrap_wrap]
  rw [Sem.wrap_congr (execs body env) _ _ (K' := fnK) (H' := fnH env) (fun f => by cases f <;> rfl) (fun x => by
    rw [Sem.bind_eq_wrap, Sem.wrap_wrap]
    rfl)]
  exact h
end
def GoSg (M : Model) (A : Around) (Φ : End → Shared → Prop) (s : Shared) : GenState → Prop
  | .fresh c => Sg M A Φ c (M.den c) [] s
  | .suspended k0 _ c _ fs _ => Sg M A Φ c (k0 (.send .none)) fs s
  | _ => False
theorem resume_sg {M : Model} {A : Around} {Φ : End → Shared → Prop} {E : Value → Shared → Prop} {s : Shared} {g : Nat} {gs : GenState} {l : List Value} {α : Type} {k : GenResult → Sem α} {Q : α → Shared → Prop} (hg : s.gens[g]? = some gs)
    (hgo : GoSg M A Φ (s.setGen g .running) gs)
    (h : ∀ e s1, Φ e s1 → e.quiet = true ∧ wpAny M A (k e.result) Q E (s1.setGen g e.genState)) : wpAny M A (.resume g (.send .none) l k) Q E s := by
  intro Γ p hΓ
  rw [Sem.wp_resume]
  cases gs with
  | fresh c =>
    obtain ⟨e, s1, d, q⟩ := hgo (Γ.wake c p) p rfl (hΓ.wake c p)
    obtain ⟨q1, q2⟩ := h e s1 q
    exact ⟨_, _, by unfold Wakes; rw [hg]; exact ⟨e, s1, d, q1, rfl, rfl⟩, q2 Γ p hΓ⟩
  | suspended k0 l0 c p0 fs cl =>
    obtain ⟨e, s1, d, q⟩ := hgo (Γ.wake c p) p0 rfl (hΓ.wake c p)
    obtain ⟨q1, q2⟩ := h e s1 q
    exact ⟨_, _, by unfold Wakes; rw [hg]; exact ⟨e, s1, d, q1, rfl, rfl⟩, q2 Γ p hΓ⟩
  | running => exact hgo.elim
  | finished => exact hgo.elim
theorem next_sg {P : Program} {w : World} {A : Around} {E : Value → Shared → Prop} {s : Shared} {a : Addr} {g : Nat} {gs : GenState} {Φ : End → Shared → Prop} {Q : Option Value → Shared → Prop} (hh : A.handled = none)
    (hl : s.heap.NoLimit) (hroom : A.depth < recursionLimit) (hg : s.heap.IsGen a g) (hgs : s.gens[g]? = some gs)
    (hgo : GoSg (model P w) A.in1 Φ (s.setGen g .running) gs)
    (h : ∀ e s1, Φ e s1 → e.quiet = true ∧ ((∃ v l k c p fs, e = .susp v false l k c p fs ∧ Q (some v) (s1.setGen g e.genState)) ∨
      ((e = .ret (.ok (.ret .none)) ∨ e = .ret (.ok .next)) ∧ ∀ h', (∀ b o, s1.heap.get? b = some o → h'.get? b = some o) → Q none { s1.setGen g .finished with heap := h' }))) :
    wpAny (model P w) A (pyNext (.ref a)) Q E s := by
  unfold pyNext
  refine wpAny_bind (wpAny_attempt (wpAny_callSpecial?_slot (name := Str.ofString "__next__") hg.typeIs slot_gen_next (wpAny_call_entry slot_gen_next hg.typeIs entry_gen_next ?_ (args_gen_next _))))
  show wpAny _ A.in1 (Builtin.Generator.genWake (.ref a) (.send .none)) _ _ s
  unfold Builtin.Generator.genWake
  refine wpAny_bind (wpAny_holding (wpAny_genNumber hg (wpAny_bind (wpAny_genState hgs ?_))))
  cases gs with
  | running => exact hgo.elim
  | finished => exact hgo.elim
  | _ =>
    refine wpAny_bind (wpAny_roomToWake hl hroom ?_)
    show wpAny _ A.in1 (.resume g (.send .none) [] _) _ _ s
    refine resume_sg hgs hgo fun e s1 he => ?_
    obtain ⟨hq, hc⟩ := h e s1 he
    refine ⟨hq, ?_⟩
    rcases hc with ⟨v, l, k, c, p, fs, rfl, q⟩ | ⟨hr, q⟩
    · exact wpAny_pure ⟨v, rfl, wpAny_pure q⟩
    · have hres : e.result = .returned .none := by rcases hr with rfl | rfl <;> rfl
      have hst : e.genState = .finished := by rcases hr with rfl | rfl <;> rfl
      rw [hst]
      first | rw [hres] | simp only [hres]
      show wpAny _ A.in1 (newExc (.type "StopIteration") [] >>= _) _ _ _
      refine wpAny_bind ?_
      simp only [newExc, newTuple]
      refine wpAny_bind (wpAny_newObj_type ?_ (by size_fits))
      refine wpAny_bind (m := firstArgMember _ _) (wpAny_of_eq (a := Value.none) (by first | rfl | (simp only [firstArgMember]; rfl)) ?_)
      refine wpAny_newObj_type ?_ (by size_fits)
      simp only [raiseNew]
      refine wpAny_bind (wpAny_bind (wpAny_handled ?_))
      first | rw [show A.in1.handled = none from hh] | rw [hh]
      refine wpAny_throw ?_
      refine wpAny_bind (wpAny_isInstance (T := "StopIteration") (b := true) ⟨_, Heap.get?_push_size _ rfl, rfl⟩ isSubtype_stop ?_)
      exact wpAny_pure (q _ fun b o hb => Heap.get?_push_of_some _ (Heap.get?_push_of_some _ hb))
end FL
namespace FL
open PySem PySem.Spec PyProof.Rows L2
theorem rel_bare {a b : Array GenState} (h : Rel a b) (g : AllBare a) : AllBare b := by
  intro y hy
  obtain ⟨i, hi, rfl⟩ := Array.mem_iff_getElem.mp hy
  have ha : i < a.size := h.1 ▸ hi
  have ga := g a[i] (Array.getElem_mem ha)
  rcases h.2 i a[i] b[i] (Array.getElem?_eq_getElem ha) (Array.getElem?_eq_getElem hi) with ⟨e, _⟩ | ⟨k, l, c, p, fs, cl, e1, e2⟩
  · rw [← e]; exact ga
  · rw [e1] at ga
    rw [e2]
    exact ga
theorem inv_wG {X : Cx} {pins : List (Addr × Obj)} {σ : L2.St} {H : Hp} {s : Shared} {b : Array GenState} (I : Inv X pins σ H s) (hb : AllBare b) : Inv X pins σ H (wG s b) :=
  { ok := I.ok, os := I.os, bare := hb, base := I.base, loc := I.loc, cell := I.cell, free := I.free, freeC := I.freeC, pin := I.pin, hok := I.hok, len := I.len }
abbrev slX (X : Cx) : Cx := { X with xe := fun u s => AllBare s.gens ∧ ∀ b, AllBare b → X.xe u (wG s b) }
theorem slX_ok {X : Cx} : X.Ok ↔ (slX X).Ok := by
  constructor <;> exact fun o => { mod := o.mod, kind := o.kind, glob := o.glob, blt := o.blt, above := o.above, inj := o.inj, has := o.has, cab := o.cab, hd := o.hd, frames := o.frames, stk := o.stk, exf := o.exf, bs := o.bs, bsz := o.bsz, noex := o.noex, exfs := o.exfs, funs := o.funs, frf := o.frf }
theorem slX_inv {X : Cx} {pins : List (Addr × Obj)} {σ : L2.St} {H : Hp} {s : Shared} : Inv X pins σ H s ↔ Inv (slX X) pins σ H s := by
  constructor
  · exact fun I => { ok := slX_ok.mp I.ok, os := I.os, bare := I.bare, base := I.base, loc := I.loc, cell := I.cell, free := I.free, freeC := I.freeC, pin := I.pin, hok := I.hok, len := I.len }
  · exact fun I => { ok := slX_ok.mpr I.ok, os := I.os, bare := I.bare, base := I.base, loc := I.loc, cell := I.cell, free := I.free, freeC := I.freeC, pin := I.pin, hok := I.hok, len := I.len }
def Slp (a b : Array GenState) : Prop := ∀ (i : Nat) k l c p fs cl, a[i]? = some (.suspended k l c p fs cl) → b[i]? = some (.suspended k l c p fs cl)
theorem pe_sleep {X : Cx} {e : Expr} {t : TE} (h : PE (slX X) e t) {pins : List (Addr × Obj)} {s : Shared} {σ : L2.St} {H : Hp} {Q : VK} (I : Inv X pins σ H s) (ht : t σ H Q) :
    wpAny (model X.prog X.w) X.A (eval e X.env) (fun v s' => EP X pins σ Q v s' ∧ Slp s.gens s'.gens) X.xe s := by
  have I1 : Inv (slX X) pins σ H (wG s (s.gens.map poi)) := slX_inv.mp (inv_wG I (poi_bare I.bare))
  refine wpAny_mono (wpAny_sleep (h.run pins _ σ H Q I1 ht)) (fun v s2 hv => ?_) (fun v s2 hv => ?_)
  · obtain ⟨s', b, rfl, r, k, x, H', J, rv, q⟩ := hv
    exact ⟨⟨x, H', inv_wG (slX_inv.mpr J) (rel_bare r J.bare), rv, q⟩, k⟩
  · obtain ⟨s', b, rfl, r, k, x⟩ := hv
    exact x.2 b (rel_bare r x.1)
theorem pt_sleep {X : Cx} {e : Expr} {t : TT} (h : PT (slX X) e t) {pins : List (Addr × Obj)} {s : Shared} {σ : L2.St} {H : Hp} {Q : Bool → Hp → Prop} (I : Inv X pins σ H s) (ht : t σ H Q) :
    wpAny (model X.prog X.w) X.A (isTrue e X.env (eval e X.env)) (fun b s' => TP X pins σ Q b s' ∧ Slp s.gens s'.gens) X.xe s := by
  have I1 : Inv (slX X) pins σ H (wG s (s.gens.map poi)) := slX_inv.mp (inv_wG I (poi_bare I.bare))
  refine wpAny_mono (wpAny_sleep (h.run pins _ σ H Q I1 ht)) (fun v s2 hv => ?_) (fun v s2 hv => ?_)
  · obtain ⟨s', b, rfl, r, k, H', J, q⟩ := hv
    exact ⟨⟨H', inv_wG (slX_inv.mpr J) (rel_bare r J.bare), q⟩, k⟩
  · obtain ⟨s', b, rfl, r, k, x⟩ := hv
    exact x.2 b (rel_bare r x.1)
theorem sp_wG {X : Cx} {pins : List (Addr × Obj)} {D : L2.Ends} {f : Flow} {s : Shared} {b : Array GenState} (h : SP (slX X) pins D f s) (hb : AllBare s.gens → AllBare b) : SP X pins D f (wG s b) := by
  cases f with
  | next => obtain ⟨σ, H, J, q⟩ := h; exact ⟨σ, H, inv_wG (slX_inv.mpr J) (hb J.bare), q⟩
  | brk => obtain ⟨σ, H, J, q⟩ := h; exact ⟨σ, H, inv_wG (slX_inv.mpr J) (hb J.bare), q⟩
  | cont => obtain ⟨σ, H, J, q⟩ := h; exact ⟨σ, H, inv_wG (slX_inv.mpr J) (hb J.bare), q⟩
  | ret u => obtain ⟨v, σ, H, J, rv, q⟩ := h; exact ⟨v, σ, H, inv_wG (slX_inv.mpr J) (hb J.bare), rv, q⟩
theorem pss_sleep {X : Cx} {st : List Stmt} {t : TS} (h : PSs (slX X) st t) {pins : List (Addr × Obj)} {s : Shared} {σ : L2.St} {H : Hp} {D : L2.Ends} (I : Inv X pins σ H s) (ht : t D σ H) :
    wpAny (model X.prog X.w) X.A (execs st X.env) (fun f s' => SP X pins D f s' ∧ Slp s.gens s'.gens) X.xe s := by
  have I1 : Inv (slX X) pins σ H (wG s (s.gens.map poi)) := slX_inv.mp (inv_wG I (poi_bare I.bare))
  refine wpAny_mono (wpAny_sleep (h.run pins _ σ H D I1 ht)) (fun v s2 hv => ?_) (fun v s2 hv => ?_)
  · obtain ⟨s', b, rfl, r, k, q⟩ := hv
    exact ⟨sp_wG q (rel_bare r), k⟩
  · obtain ⟨s', b, rfl, r, k, x⟩ := hv
    exact x.2 b (rel_bare r x.1)
end FL
namespace FL
open PySem PySem.Spec PyProof.Rows L2
def below (h : Heap) (L : Addr) : Heap := { h with objs := h.objs.extract 0 L }
theorem get_iff {h : Heap} {b : Addr} {o : Obj} : h.get? b = some o ↔ h.objs[b]? = some o ∧ o.isFreed = false := Heap.get?_some_iff
theorem below_of {h : Heap} {L b : Addr} {o : Obj} (e : (below h L).get? b = some o) : b < L ∧ h.get? b = some o := by
  rw [get_iff] at e
  obtain ⟨e1, e2⟩ := e
  have e3 : (h.objs.extract 0 L)[b]? = some o := e1
  have hb : b < (h.objs.extract 0 L).size := (Array.getElem?_eq_some_iff.mp e3).1
  rw [Array.size_extract, Nat.sub_zero] at hb
  have hb2 : b < L := Nat.lt_of_lt_of_le hb (Nat.min_le_left _ _)
  rw [Array.getElem?_extract, if_pos (by rw [Nat.sub_zero]; exact hb), Nat.zero_add] at e3
  exact ⟨hb2, get_iff.mpr ⟨e3, e2⟩⟩
theorem below_to {h : Heap} {L b : Addr} {o : Obj} (e : h.get? b = some o) (hb : b < L) : (below h L).get? b = some o := by
  rw [get_iff] at e ⊢
  obtain ⟨e1, e2⟩ := e
  refine ⟨?_, e2⟩
  have hs : b < h.objs.size := (Array.getElem?_eq_some_iff.mp e1).1
  show (h.objs.extract 0 L)[b]? = some o
  rw [Array.getElem?_extract, if_pos (by rw [Nat.sub_zero]; exact Nat.lt_min.mpr ⟨hb, hs⟩), Nat.zero_add]
  exact e1
theorem below_size {h : Heap} {L : Addr} (hL : L ≤ h.objs.size) : (below h L).objs.size = L := by
  show (h.objs.extract 0 L).size = L
  rw [Array.size_extract, Nat.sub_zero]
  exact Nat.min_eq_left hL
def cutH (h : Heap) (L : Addr) (hs : List Addr) : Heap := PySem.W.hideAll (below h L) hs
theorem cut_of {h : Heap} {L b : Addr} {hs : List Addr} {o : Obj} (e : (cutH h L hs).get? b = some o) : b < L ∧ b ∉ hs ∧ h.get? b = some o := by
  obtain ⟨e1, e2⟩ := below_of (PySem.W.of_hideAll hs e)
  refine ⟨e1, fun hm => ?_, e2⟩
  rw [show (cutH h L hs).get? b = none from PySem.W.hideAll_none hs hm] at e
  cases e
theorem cut_to {h : Heap} {L b : Addr} {hs : List Addr} {o : Obj} (e : h.get? b = some o) (hb : b < L) (hn : b ∉ hs) : (cutH h L hs).get? b = some o := PySem.W.hideAll_get hs (below_to e hb) hn
theorem cut_size {h : Heap} {L : Addr} {hs : List Addr} (hL : L ≤ h.objs.size) : (cutH h L hs).objs.size = L := (PySem.W.hideAll_size _ _).trans (below_size hL)
theorem cut_frames {h base : Heap} {L : Addr} {hs : List Addr} : ∀ {l : List Env}, (∀ b ∈ frs l, b < L ∧ b ∉ hs) → h.FunFrames base l → (cutH h L hs).FunFrames base l
  | [], _, _ => trivial
  | env :: l, hb, hf => by
    obtain ⟨k, ⟨a, o, e1, e2, e3, e4⟩, r⟩ := hf
    have ha : a ∈ frs (env :: l) := by unfold frs; rw [List.filterMap_cons, e1]; exact List.mem_cons_self
    refine ⟨k, ⟨a, o, e1, e2, cut_to e3 (hb a ha).1 (hb a ha).2, e4⟩, cut_frames (fun b hm => hb b ?_) r⟩
    unfold frs at hm ⊢
    rw [List.filterMap_cons, e1]
    exact List.mem_cons_of_mem _ hm
structure GD where
  P : Program
  w : World
  K : PySem.W.Frag
  mg : Str → Option Value
  base : Heap
  N : List Str
  env : Env
  l : List Env
  A : Around
def GD.X (G : GD) (s0 : Shared) (H0 : Hp) : Cx where
  prog := G.P
  w := G.w
  K := G.K
  mg := G.mg
  base := G.base
  A := G.A.deeper G.env
  N := G.N
  s_0 := s0
  H_0 := H0
  env := G.env
  outer := G.l
  stack := G.env :: G.l
  ex := []
  fn := fun _ => true
  calm := true
  pn := []
  xe := fun _ _ => False
structure GD.Ok (G : GD) : Prop where
  kind : G.env.scope.kind = .function
  glob : G.env.globals = mainGlobals
  blt : G.env.builtins = builtinsNs
  cells : ∀ x c, G.env.cells.lookup x ≠ some c
  nocell : ∀ x, G.env.kindOf x ≠ some .cell ∧ G.env.kindOf x ≠ some .free
  frame : G.env.frame = some G.env.locals
  bl : G.base.objs.size ≤ G.env.locals
  frl : ∀ b ∈ frs G.l, b < G.env.locals
  hd : G.A.handled = none
def LsOnly (δ : Loc) : Prop := ∀ (i : Nat) o, δ[i]? = some (some (.own o)) → ∃ ds, o = .lst ds
structure Pk (G : GD) (F : Hp) (ρ : List Addr) (δ : Loc) (σ : L2.St) (lk : Addr → Option (List V)) (hs : List Addr) (h : Heap) : Prop where
  len : σ.length = δ.length
  lenN : σ.length = G.N.length
  fr : ∀ (i : Nat) d, δ[i]? = some (some (.fr d)) → ∃ v, σ[i]? = some (some v) ∧ Rep G.K G.mg F ρ v d
  own : ∀ (i : Nat) o, δ[i]? = some (some (.own o)) → ∃ p ds vs, o = .lst ds ∧ σ[i]? = some (some (.ref p)) ∧ lk p = some vs ∧ RepL G.K G.mg F ρ vs ds
  apart : ∀ (i j : Nat) p s s', δ[i]? = some (some (.own s)) → δ[j]? = some (some (.own s')) → σ[i]? = some (some (.ref p)) → σ[j]? = some (some (.ref p)) → i = j
  lks : ∀ p vs, lk p = some vs → p ∈ hs ∧ vs.length ≤ sizeLine ∧ ∃ its n, Vals vs its ∧ h.get? p = some { cls := .type "list", data := .seq its.toArray n }
  hsk : ∀ p ∈ hs, p ≠ G.env.locals ∧ G.base.get? p = none ∧ p ∉ frs G.l ∧ ∃ vs, lk p = some vs
  loc : ∃ m, h.Ns G.env.locals m ∧ ∀ (i : Nat) (x : Str) (v : V), G.N[i]? = some x → σ[i]? = some (some v) → Vis G.env.scope x → ∃ u, RelV v u ∧ Look G.env h m x u
section
variable {G : GD} {F F' : Hp} {ρ ρ' : List Addr} {δ : Loc} {σ : L2.St} {lk : Addr → Option (List V)} {hs : List Addr} {h h' : Heap}
theorem look_to (OK : G.Ok) {m : Str → Option Value} {x : Str} {u : Value} (q : Look G.env h m x u) : Look G.env h' m x u := by
  rcases q with q | ⟨_, c, e, _⟩
  · exact .inl q
  · exact absurd e (OK.cells x c)
theorem Pk.stay (OK : G.Ok) (k : Pk G F ρ δ σ lk hs h) (l : ∀ p o, F p = some o → F' p = some o) (lr : ∀ (k : Nat) p, ρ[k]? = some p → ρ'[k]? = some p) (hk : ∀ b ∈ G.env.locals :: hs, ∀ o, h.get? b = some o → h'.get? b = some o) : Pk G F' ρ' δ σ lk hs h' := by
  refine ⟨k.len, k.lenN, fun i d e => ?_, fun i o e => ?_, k.apart, fun p vs e => ?_, k.hsk, ?_⟩
  · obtain ⟨v, e1, r⟩ := k.fr i d e
    exact ⟨v, e1, Rep.up l lr r⟩
  · obtain ⟨p, ds, vs, e1, e2, e3, r⟩ := k.own i o e
    exact ⟨p, ds, vs, e1, e2, e3, RepL.up l lr r⟩
  · obtain ⟨e1, e2, its, n, e3, e4⟩ := k.lks p vs e
    exact ⟨e1, e2, its, n, e3, hk p (List.mem_cons_of_mem _ e1) _ e4⟩
  · obtain ⟨m, hn, q⟩ := k.loc
    refine ⟨m, hn.at' fun o e => hk _ List.mem_cons_self o e, fun i x v e1 e2 e3 => ?_⟩
    obtain ⟨u, r, z⟩ := q i x v e1 e2 e3
    exact ⟨u, r, look_to OK z⟩
end
def Ext (G : GD) (h : Heap) (lk : Addr → Option (List V)) (H : Hp) (p : Addr) : Prop := G.env.locals < p ∧ lk p = none ∧ H p = none ∧ ∃ o, h.get? p = some o
def extO (h : Heap) (p : Addr) : HO := .ext fun h' => ∀ o, h.get? p = some o → h'.get? p = some o
section
variable (G : GD) (h : Heap) (lk : Addr → Option (List V)) (Z F H : Hp) (ρ : List Addr)
open Classical in
noncomputable def hgW : Hp := fun p => match lk p with
  | some vs => some (.lst vs)
  | none => if Ext G h lk H p then some (extO h p) else H p
def isFrz : Option HO → Bool
  | some (.frz _ _) => true
  | _ => false
open Classical in
noncomputable def zW : Hp := fun p => if (lk p).isSome = true then none else if Ext G h lk H p then some (extO h p) else if isFrz (H p) = true then H p else if p ∈ ρ ∨ (F p).isSome = true then Z p else H p
end
section
variable {G : GD} {h : Heap} {lk : Addr → Option (List V)} {Z F H : Hp} {ρ : List Addr} {p : Addr}
theorem hg_lk {vs : List V} (e : lk p = some vs) : hgW G h lk H p = some (.lst vs) := by unfold hgW; rw [e]
theorem hg_ext (e : Ext G h lk H p) : hgW G h lk H p = some (extO h p) := by
  unfold hgW
  rw [e.2.1]
  exact if_pos e
theorem hg_else (e : lk p = none) (n : ¬ Ext G h lk H p) : hgW G h lk H p = H p := by
  unfold hgW
  rw [e]
  exact if_neg n
theorem hg_some (e : lk p = none) {u : HO} (n : H p = some u) : hgW G h lk H p = some u := by
  rw [hg_else e fun x => by rw [x.2.2.1] at n; cases n]
  exact n
theorem zw_lk {vs : List V} (e : lk p = some vs) : zW G h lk Z F H ρ p = none := by unfold zW; rw [if_pos (by rw [e]; rfl)]
theorem zw_ext (e : Ext G h lk H p) : zW G h lk Z F H ρ p = some (extO h p) := by
  unfold zW
  rw [if_neg (by rw [e.2.1]; exact Bool.false_ne_true), if_pos e]
theorem zw_frz (e : lk p = none) {o : Obj} {u : HO} (n : H p = some (.frz o u)) : zW G h lk Z F H ρ p = some (.frz o u) := by
  unfold zW
  rw [if_neg (by rw [e]; exact Bool.false_ne_true), if_neg (fun x => by rw [x.2.2.1] at n; cases n), if_pos (by rw [n]; rfl), n]
theorem zw_known (e : lk p = none) (n : ¬ Ext G h lk H p) (nf : isFrz (H p) = false) (k : p ∈ ρ ∨ (F p).isSome = true) : zW G h lk Z F H ρ p = Z p := by
  unfold zW
  rw [if_neg (by rw [e]; exact Bool.false_ne_true), if_neg n, if_neg (by rw [nf]; exact Bool.false_ne_true), if_pos k]
theorem zw_else (e : lk p = none) (n : ¬ Ext G h lk H p) (k : ¬ (p ∈ ρ ∨ (F p).isSome = true)) : zW G h lk Z F H ρ p = H p := by
  unfold zW
  rw [if_neg (by rw [e]; exact Bool.false_ne_true), if_neg n]
  split
  · rfl
  · rfl
end
structure Wk (G : GD) (Z F : Hp) (ρ : List Addr) (μ : Mem) (H : Hp) (δ : Loc) (σ : L2.St) (lk : Addr → Option (List V)) (hs : List Addr) (s : Shared) : Prop where
  e0 : Env0 G.P G.w G.K G.mg G.base G.A G.l s H
  sim : Sim G.K G.mg Z F ρ μ [] [] H
  pk : Pk G F ρ δ σ lk hs s.heap
  hL : H G.env.locals = none
  hh : ∀ p ∈ hs, H p = none
  tabs : ∀ P q, Own.tab P q ∈ μ → P < G.env.locals
def sW (G : GD) (hs : List Addr) (s : Shared) : Shared := { s with heap := cutH s.heap G.env.locals hs }
open Classical in
noncomputable def h0W (G : GD) (hs : List Addr) (H : Hp) : Hp := fun p => if p < G.env.locals ∧ p ∉ hs then H p else none
section
variable {G : GD} {Z F H : Hp} {ρ : List Addr} {μ : Mem} {δ : Loc} {σ : L2.St} {lk : Addr → Option (List V)} {hs : List Addr} {s : Shared}
theorem h0_none {p : Addr} (n : H p = none) : h0W G hs H p = none := by
  unfold h0W
  split
  · exact n
  · rfl
theorem h0_some {p : Addr} {u : HO} (e : h0W G hs H p = some u) : p < G.env.locals ∧ p ∉ hs ∧ H p = some u := by
  unfold h0W at e
  split at e
  · rename_i c
    exact ⟨c.1, c.2, e⟩
  · cases e
theorem h0_at {p : Addr} (hp : p < G.env.locals) (hn : p ∉ hs) : h0W G hs H p = H p := by unfold h0W; rw [if_pos ⟨hp, hn⟩]
theorem Wk.lk_none (k : Wk G Z F ρ μ H δ σ lk hs s) {p : Addr} (hp : p ∉ hs) : lk p = none := by
  cases e : lk p with
  | none => rfl
  | some vs => exact absurd (k.pk.lks p vs e).1 hp
theorem Wk.lk_of (k : Wk G Z F ρ μ H δ σ lk hs s) {p : Addr} {u : HO} (e : H p = some u) : p ∉ hs ∧ lk p = none := by
  have hp : p ∉ hs := fun hm => by rw [k.hh p hm] at e; cases e
  exact ⟨hp, k.lk_none hp⟩
theorem Wk.lt (k : Wk G Z F ρ μ H δ σ lk hs s) : G.env.locals < s.heap.objs.size := let ⟨_, hn, _⟩ := k.pk.loc; hn.lt
theorem Wk.frn (OK : G.Ok) (k : Wk G Z F ρ μ H δ σ lk hs s) : ∀ b ∈ frs G.l, b < G.env.locals ∧ b ∉ hs := fun b hb => ⟨OK.frl b hb, fun hm => (k.pk.hsk b hm).2.2.1 hb⟩
theorem Wk.bsn (OK : G.Ok) (k : Wk G Z F ρ μ H δ σ lk hs s) {b : Addr} {o : Obj} (e : G.base.get? b = some o) : b < G.env.locals ∧ b ∉ hs := ⟨Nat.lt_of_lt_of_le (Heap.lt_size e) OK.bl, fun hm => by rw [(k.pk.hsk b hm).2.1] at e; cases e⟩
theorem Wk.memK (k : Wk G Z F ρ μ H δ σ lk hs s) {p : Addr} (hp : p ∈ ρ) : ∃ (j : Nat) (c : Own), ρ[j]? = some p ∧ μ[j]? = some c ∧ F p = none ∧ Z p = none ∧ OwnR G.K G.mg F ρ H p c := by
  obtain ⟨j, hj⟩ := List.getElem?_of_mem hp
  have hlt : j < μ.length := by rw [← k.sim.mlen]; exact (List.getElem?_eq_some_iff.mp hj).1
  obtain ⟨a, e1, e2, e3, r⟩ := k.sim.mem j μ[j] (List.getElem?_eq_getElem hlt)
  rw [hj] at e1; cases e1
  exact ⟨j, _, hj, List.getElem?_eq_getElem hlt, e2, e3, r⟩
theorem own_kind {K : PySem.W.Frag} {mg : Str → Option Value} {c : Own} {p : Addr} {u : HO} (r : OwnR K mg F ρ H p c) (e : H p = some u) : (∀ xs, u ≠ .tup xs) ∧ (∀ o v, u ≠ .frz o v) ∧ (∀ ps, u = .tbl ps → ∃ q, c = .tab p q) ∧ (∀ φ, u ≠ .ext φ) := by
  cases c with
  | lst ds => obtain ⟨vs, h, _⟩ := r; rw [e] at h; cases h; exact ⟨fun _ z => (by cases z), fun _ _ z => (by cases z), fun _ z => (by cases z), fun _ z => (by cases z)⟩
  | dct ks ds => obtain ⟨vs, h, _⟩ := r; rw [e] at h; cases h; exact ⟨fun _ z => (by cases z), fun _ _ z => (by cases z), fun _ z => (by cases z), fun _ z => (by cases z)⟩
  | ins c kd ks ds => obtain ⟨C, dx, vs, _, _, h, _⟩ := r; rw [e] at h; cases h; exact ⟨fun _ z => (by cases z), fun _ _ z => (by cases z), fun _ z => (by cases z), fun _ z => (by cases z)⟩
  | idc k => obtain ⟨q, _, h⟩ := r; rw [e] at h; cases h; exact ⟨fun _ z => (by cases z), fun _ _ z => (by cases z), fun _ z => (by cases z), fun _ z => (by cases z)⟩
  | tab P q => obtain ⟨e0, ps, h, _⟩ := r; subst e0; rw [e] at h; cases h; exact ⟨fun _ z => (by cases z), fun _ _ z => (by cases z), fun _ _ => ⟨q, rfl⟩, fun _ z => (by cases z)⟩
theorem Wk.z_in (k : Wk G Z F ρ μ H δ σ lk hs s) {p : Addr} {o : HO} (e : Z p = some o) : zW G s.heap lk Z F H ρ p = some o := by
  have eH := k.sim.zk p o e
  have hl := (k.lk_of eH).2
  have ne : ¬ Ext G s.heap lk H p := fun x => by rw [x.2.2.1] at eH; cases eH
  by_cases hf : isFrz (H p) = true
  · unfold zW
    rw [if_neg (by rw [hl]; exact Bool.false_ne_true), if_neg ne, if_pos hf, eH]
  · by_cases hk : p ∈ ρ ∨ (F p).isSome = true
    · rw [zw_known hl ne (by simpa using hf) hk, e]
    · rw [zw_else hl ne hk, eH]
theorem Wk.z_out (k : Wk G Z F ρ μ H δ σ lk hs s) {p : Addr} (e : zW G s.heap lk Z F H ρ p = none) : Z p = none := by
  cases q : Z p with
  | none => rfl
  | some o => rw [k.z_in q] at e; cases e
theorem Wk.z_hg (k : Wk G Z F ρ μ H δ σ lk hs s) {p : Addr} {o : HO} (e : zW G s.heap lk Z F H ρ p = some o) : hgW G s.heap lk H p = some o := by
  cases hl : lk p with
  | some vs => rw [zw_lk hl] at e; cases e
  | none =>
    by_cases hx : Ext G s.heap lk H p
    · rw [zw_ext hx] at e; rw [hg_ext hx]; exact e
    · rw [hg_else hl hx]
      by_cases hf : isFrz (H p) = true
      · unfold zW at e
        rw [if_neg (by rw [hl]; exact Bool.false_ne_true), if_neg hx, if_pos hf] at e
        exact e
      · by_cases hk : p ∈ ρ ∨ (F p).isSome = true
        · rw [zw_known hl hx (by simpa using hf) hk] at e
          exact k.sim.zk p o e
        · rw [zw_else hl hx hk] at e
          exact e
theorem wake_in (OK : G.Ok) (k : Wk G Z F ρ μ H δ σ lk hs s) :
    Inv (G.X (sW G hs s) (h0W G hs H)) [] σ (hgW G s.heap lk H) s ∧ Sim G.K G.mg (zW G s.heap lk Z F H ρ) F ρ μ δ σ (hgW G s.heap lk H) := by
  have hLs := k.lt
  have hsz : (cutH s.heap G.env.locals hs).objs.size = G.env.locals := cut_size (Nat.le_of_lt hLs)
  have lkL : lk G.env.locals = none := k.lk_none fun hm => (k.pk.hsk _ hm).1 rfl
  have hgL : hgW G s.heap lk H G.env.locals = none := by
    rw [hg_else lkL fun x => absurd x.1 (Nat.lt_irrefl _)]
    exact k.hL
  constructor
  · refine ⟨⟨k.e0.mod, OK.kind, OK.glob, OK.blt, Nat.le_of_eq hsz, fun x y c e => absurd e (OK.cells x c), fun x hx => ?_, fun x c _ e => absurd e (OK.cells x c), fun _ => OK.hd, Around.frames_deeper k.e0.frames, .inr ⟨rfl, OK.frame⟩, fun b hb => absurd (show b ∈ ([] : List Addr) from hb) (by simp),
      fun b o e => ?_, ?_, fun b o _ hb => absurd (show b ∈ ([] : List Addr) from hb) (by simp), fun b hb => absurd (show b ∈ ([] : List Addr) from hb) (by simp), cut_frames (k.frn OK) k.e0.funs, fun b hb => h0_none (k.e0.frf b hb)⟩,
      rfl, k.e0.bare, ⟨fun b o e _ _ _ => (cut_of e).2.2, fun b o e _ _ _ => ⟨o.slots, (cut_of e).2.2⟩, fun b o e n _ => ?_, fun b o e _ => ⟨o, (cut_of e).2.2⟩, fun b xs e => ?_, fun b o u e => ?_, fun b ps e => ?_⟩,
      k.pk.loc, fun x c e => absurd e (OK.cells x c), hgL, fun x c e => absurd e (OK.cells x c), fun p hp => absurd (show p ∈ ([] : List (Addr × Obj)) ++ [] from hp) (by simp), fun p o e => ?_, k.pk.lenN⟩
    · rcases hx with hx | hx
      · exact absurd hx (OK.nocell x).1
      · exact absurd hx (OK.nocell x).2
    · obtain ⟨h1, h2⟩ := k.bsn OK e
      obtain ⟨e1, e2⟩ := k.e0.bs b o e
      exact ⟨cut_to e1 h1 h2, h0_none e2⟩
    · show _ ≤ (cutH s.heap G.env.locals hs).objs.size
      rw [hsz]; exact OK.bl
    · obtain ⟨h1, h2, h3⟩ := cut_of e
      rw [hg_else (k.lk_none h2) fun x => absurd x.1 (Nat.not_lt.mpr (Nat.le_of_lt h1))]
      have n' : h0W G hs H b = none := n
      rw [h0_at h1 h2] at n'
      exact n'
    · obtain ⟨h1, h2, h3⟩ := h0_some e
      exact hg_some (k.lk_none h2) h3
    · obtain ⟨h1, h2, h3⟩ := h0_some e
      exact hg_some (k.lk_none h2) h3
    · obtain ⟨h1, h2, h3⟩ := h0_some e
      exact ⟨#[], by rw [hg_some (k.lk_none h2) h3]; simp⟩
    · cases hl : lk p with
      | some vs =>
        rw [hg_lk hl] at e; cases e
        obtain ⟨_, z, its, n, r, q⟩ := k.pk.lks p vs hl
        exact ⟨z, its, n, r, q⟩
      | none =>
        by_cases hx : Ext G s.heap lk H p
        · rw [hg_ext hx] at e; cases e
          exact ⟨fun _ q => q, hx.2.2.2, fun h1 h2 z q o hp => q o (z o hp)⟩
        · rw [hg_else hl hx] at e
          exact (k.e0.hok p o e).stay (fun b u _ q => q) (fun b q => hg_some (k.lk_of q).2 q) fun b xs q => hg_some (k.lk_of q).2 q
  · refine ⟨fun p o e => ?_, fun p o e => k.z_hg e, k.pk.len, fun i t e => ?_, k.pk.apart, fun j c e => ?_, k.sim.mlen, k.sim.nod⟩
    · rcases k.sim.le p o e with q | ⟨ob, kvs, e1, q⟩
      · exact .inl (hg_some (k.lk_of q).2 q)
      · exact .inr ⟨ob, kvs, e1, hg_some (k.lk_of q).2 q⟩
    · cases t with
      | fr d =>
        obtain ⟨v, e1, r⟩ := k.pk.fr i d e
        exact ⟨v, e1, r⟩
      | own o =>
        obtain ⟨p, ds, vs, rfl, e2, e3, r⟩ := k.pk.own i o e
        obtain ⟨f1, f2, f3, _⟩ := k.sim.notIn (k.hh p (k.pk.lks p vs e3).1)
        exact ⟨.ref p, e2, p, rfl, ⟨f1, zw_lk e3, f3⟩, vs, hg_lk e3, r⟩
    · obtain ⟨a, e1, e2, e3, r⟩ := k.sim.mem j c e
      obtain ⟨u, eu⟩ := r.some
      have hl := (k.lk_of eu).2
      have nx : ¬ Ext G s.heap lk H a := fun x => by rw [x.2.2.1] at eu; cases eu
      have nf : isFrz (H a) = false := by
        cases hf : isFrz (H a) with
        | false => rfl
        | true =>
          rw [eu] at hf
          cases u with
          | frz o v => exact absurd rfl ((own_kind r eu).2.1 o v)
          | _ => cases hf
      refine ⟨a, e1, e2, by rw [zw_known hl nx nf (.inl (List.mem_of_getElem? e1))]; exact e3, r.up (fun _ _ h => h) (fun _ _ h => h) ?_⟩
      rw [hg_some hl eu, eu]
end
structure Slt (G : GD) (Z F : Hp) (ρ : List Addr) (μ : Mem) (H : Hp) (hs : List Addr) (s : Shared) (F' : Hp) (ρ' : List Addr) (H2 : Hp) (s1 : Shared) : Prop where
  os : s1.os = s.os
  bare : AllBare s1.gens
  un : Un (frs G.l) (G.env.locals :: hs) H H2 s.heap s1.heap
  hok : HOk G.P G.w H2 s1.heap
  sim : Sim G.K G.mg Z F' ρ' μ [] [] H2
  le : Le Z F F'
  leR : LeR Z ρ ρ'
  hL : H2 G.env.locals = none
section
variable {G : GD} {Z F H F' H1 : Hp} {ρ ρ' : List Addr} {μ : Mem} {δ δ' : Loc} {σ σ' : L2.St} {lk : Addr → Option (List V)} {hs : List Addr} {s s1 : Shared}
def heldL (δ : Loc) (σ : L2.St) : List Addr := (List.range δ.length).filterMap fun i => match δ[i]?, σ[i]? with
  | some (some (Slot.own _)), some (some (V.ref p)) => some p
  | _, _ => none
theorem mem_held {p : Addr} : p ∈ heldL δ σ ↔ Held δ σ p := by
  unfold heldL Held
  rw [List.mem_filterMap]
  constructor
  · rintro ⟨i, hi, e⟩
    cases e1 : δ[i]? with
    | none => rw [e1] at e; cases e
    | some x =>
      cases x with
      | none => rw [e1] at e; cases e
      | some t =>
        cases t with
        | fr d => rw [e1] at e; cases e
        | own o =>
          cases e2 : σ[i]? with
          | none => rw [e1, e2] at e; cases e
          | some y =>
            cases y with
            | none => rw [e1, e2] at e; cases e
            | some v =>
              cases v with
              | ref q => rw [e1, e2] at e; cases e; exact ⟨i, o, e1, e2⟩
              | _ => rw [e1, e2] at e; cases e
  · rintro ⟨i, o, e1, e2⟩
    exact ⟨i, List.mem_range.mpr (List.getElem?_eq_some_iff.mp e1).1, by rw [e1, e2]⟩
open Classical in
noncomputable def lkO (δ : Loc) (σ : L2.St) (H1 : Hp) : Addr → Option (List V) := fun p => if Held δ σ p then (match H1 p with | some (.lst vs) => some vs | _ => none) else none
open Classical in
noncomputable def h2W (G : GD) (h : Heap) (lk : Addr → Option (List V)) (H : Hp) (δ : Loc) (σ : L2.St) (H1 : Hp) : Hp := fun p => if Held δ σ p ∨ Ext G h lk H p then none else H1 p
theorem wake_out (OK : G.Ok) (k : Wk G Z F ρ μ H δ σ lk hs s) (I : Inv (G.X (sW G hs s) (h0W G hs H)) [] σ' H1 s1) (S1 : Sim G.K G.mg (zW G s.heap lk Z F H ρ) F' ρ' μ δ' σ' H1)
    (l : Le (zW G s.heap lk Z F H ρ) F F') (lr : LeR (zW G s.heap lk Z F H ρ) ρ ρ') (ls : LsOnly δ') :
    ∃ H2 lk' hs', Slt G Z F ρ μ H hs s F' ρ' H2 s1 ∧ Pk G F' ρ' δ' σ' lk' hs' s1.heap ∧ ∀ p ∈ hs', H2 p = none ∧ (p ∈ hs ∨ s.heap.get? p = none) := by
  have lst : ∀ {p}, Held δ' σ' p → ∃ vs ds, H1 p = some (.lst vs) ∧ Free (zW G s.heap lk Z F H ρ) F' ρ' p ∧ RepL G.K G.mg F' ρ' vs ds := fun {p} hp => by
    obtain ⟨i, o, e1, e2⟩ := hp
    obtain ⟨ds, rfl⟩ := ls i o e1
    obtain ⟨v, e3, q, ev, fr, vs, e4, r⟩ := S1.slot i _ e1
    rw [e2] at e3; cases e3; cases ev
    exact ⟨vs, ds, e4, fr, r⟩
  have hgk : ∀ {p u}, zW G s.heap lk Z F H ρ p = some u → H1 p = some u := fun {p u} e => S1.zk p u e
  have nh : ∀ {p u}, zW G s.heap lk Z F H ρ p = some u → ¬ Held δ' σ' p := fun {p u} e hp => by
    obtain ⟨_, _, _, fr, _⟩ := lst hp
    rw [fr.z] at e; cases e
  have low : ∀ {p o}, s.heap.get? p = some o → H p = none → p < G.env.locals → p ∉ hs → H1 p = none := fun {p o} e n h1 h2 => I.base.free p o (cut_to e h1 h2) ((h0_at h1 h2).trans n) (by show p ∉ ([] : List Addr); simp)
  -- a tracked thing of before is none of those that it owns, and is left alone
  have trk : ∀ {p u}, H p = some u → ¬ Ext G s.heap lk H p ∧ lk p = none := fun {p u} e => ⟨fun x => (by rw [x.2.2.1] at e; cases e), (k.lk_of e).2⟩
  have nheld : ∀ {p u}, H p = some u → ¬ Held δ' σ' p := fun {p u} e hp => by
    obtain ⟨n1, n2⟩ := trk e
    obtain ⟨_, _, _, fr, _⟩ := lst hp
    by_cases hk : p ∈ ρ ∨ (F p).isSome = true
    · rcases hk with hk | hk
      · obtain ⟨j, hj⟩ := List.getElem?_of_mem hk
        exact fr.r (List.mem_of_getElem? (lr.to j p hj))
      · cases ef : F p with
        | none => rw [ef] at hk; cases hk
        | some o =>
          have e5 := fr.f
          rw [l.to p o ef] at e5
          cases e5
    · have e5 := fr.z
      rw [zw_else n2 n1 hk, e] at e5
      cases e5
  have keepH : ∀ {p u}, H p = some u → (∀ ps, u ≠ .tbl ps) → (∀ xs, u = .tup xs → H1 p = some u) ∧ (∀ o v, u = .frz o v → H1 p = some u) := fun {p u} e nt => by
    obtain ⟨n1, n2⟩ := trk e
    constructor
    · intro xs hu
      subst hu
      by_cases hk : p ∈ ρ ∨ (F p).isSome = true
      · rcases hk with hk | hk
        · obtain ⟨j, c, _, _, _, _, r⟩ := k.memK hk
          exact absurd rfl ((own_kind r e).1 xs)
        · cases ef : F p with
          | none => rw [ef] at hk; cases hk
          | some o =>
            rcases k.sim.le p o ef with q | ⟨ob, kvs, _, q⟩
            · rw [e] at q; cases q
              rcases S1.le p _ (l.to p _ ef) with q | ⟨_, _, z, _⟩
              · exact q
              · cases z
            · rw [e] at q; cases q
      · exact hgk (by rw [zw_else n2 n1 hk, e])
    · intro o v hu
      subst hu
      exact hgk (zw_frz n2 e)
  have there : ∀ {p u}, H p = some u → ∃ o, s1.heap.get? p = some o := fun {p u} e => by
    obtain ⟨n1, n2⟩ := trk e
    have some1 : ∃ u, H1 p = some u := by
      by_cases hk : p ∈ ρ ∨ (F p).isSome = true
      · rcases hk with hk | hk
        · obtain ⟨j, hj⟩ := List.getElem?_of_mem hk
          have hj' := lr.to j p hj
          have hlt : j < μ.length := by rw [← S1.mlen]; exact (List.getElem?_eq_some_iff.mp hj').1
          obtain ⟨a, e1, _, _, r⟩ := S1.mem j μ[j] (List.getElem?_eq_getElem hlt)
          rw [hj'] at e1; cases e1
          exact r.some
        · cases ef : F p with
          | none => rw [ef] at hk; cases hk
          | some o =>
            rcases S1.le p _ (l.to p _ ef) with q | ⟨_, _, _, q⟩
            · exact ⟨_, q⟩
            · exact ⟨_, q⟩
      · exact ⟨u, hgk (by rw [zw_else n2 n1 hk, e])⟩
    obtain ⟨u1, e1⟩ := some1
    have hlt := I.hok.lt e1
    have ok := I.hok p u1 e1
    cases u1 with
    | lst xs => obtain ⟨_, _, _, _, q⟩ := ok; exact ⟨_, q⟩
    | tup xs => obtain ⟨_, _, _, ⟨ob, q, _⟩⟩ := ok; exact ⟨_, q⟩
    | dK kvs => obtain ⟨_, _, _, _, o, _, _, q, _⟩ := ok; exact ⟨_, q⟩
    | dT kvs => obtain ⟨_, _, _, _, o, _, _, q, _⟩ := ok; exact ⟨_, q⟩
    | set S n => obtain ⟨o, _, _, _, q, _⟩ := ok; exact ⟨_, q⟩
    | ins C dx fs => obtain ⟨_, _, _, q, _⟩ := ok; exact ⟨_, q⟩
    | own y => obtain ⟨_, q⟩ := ok; exact ⟨_, q⟩
    | xd fs => obtain ⟨_, ⟨_, _, _, q, _⟩, _⟩ := ok; exact ⟨_, q⟩
    | rng lo hi => obtain ⟨_, _, _, q⟩ := ok; exact ⟨_, q⟩
    | frz ob u => obtain ⟨q, _⟩ := ok; exact ⟨_, q⟩
    | tbl ps => exact ⟨_, show s1.heap.get? p = some _ from ok⟩
    | met f y => exact ⟨_, show s1.heap.get? p = some _ from ok⟩
    | ext φ => obtain ⟨_, q, _⟩ := ok; exact q
  have h2_of : ∀ {p}, ¬ Held δ' σ' p → ¬ Ext G s.heap lk H p → h2W G s.heap lk H δ' σ' H1 p = H1 p := fun {p} a b => by
    unfold h2W
    rw [if_neg (fun z => z.elim a b)]
  have h2_none : ∀ {p}, H1 p = none → h2W G s.heap lk H δ' σ' H1 p = none := fun {p} e => by
    unfold h2W
    split
    · rfl
    · exact e
  have h2_in : ∀ {p u}, h2W G s.heap lk H δ' σ' H1 p = some u → ¬ Held δ' σ' p ∧ ¬ Ext G s.heap lk H p ∧ H1 p = some u := fun {p u} e => by
    unfold h2W at e
    split at e
    · cases e
    · rename_i c
      exact ⟨fun z => c (.inl z), fun z => c (.inr z), e⟩
  have h1L : H1 G.env.locals = none := I.free
  have young : ∀ p, Held δ' σ' p → p ≠ G.env.locals ∧ (p ∈ hs ∨ s.heap.get? p = none) := fun p hp => by
    obtain ⟨vs, _, e1, fr, _⟩ := lst hp
    have nL : p ≠ G.env.locals := fun z => by rw [z, h1L] at e1; cases e1
    refine ⟨nL, ?_⟩
    by_cases hm : p ∈ hs
    · exact .inl hm
    · refine .inr ?_
      cases eo : s.heap.get? p with
      | none => rfl
      | some o =>
        have hn : H p = none := by
          cases q : H p with
          | none => rfl
          | some u => exact absurd hp (nheld q)
        rcases Nat.lt_or_ge p G.env.locals with z | z
        · rw [low eo hn z hm] at e1; cases e1
        · have x : Ext G s.heap lk H p := ⟨Nat.lt_of_le_of_ne z (Ne.symm nL), k.lk_none hm, hn, o, eo⟩
          exact absurd hp (nh (zw_ext x))
  refine ⟨h2W G s.heap lk H δ' σ' H1, lkO δ' σ' H1, heldL δ' σ', ⟨I.os, I.bare, ⟨fun b o e n hb hx => ?_, fun b o e n hb hx => ?_, fun b o e n hx => ?_, fun b o e hx => ?_, fun b xs e => ?_, fun b o u e => ?_, fun b ps e => ?_⟩, fun p u e => ?_, ⟨fun p o e => ?_, fun p o e => ?_, rfl, fun i t e => by simp at e, fun i j p t t' e => by simp at e, fun j c e => ?_, S1.mlen, S1.nod⟩,
    ⟨l.to, fun p o e => (l.new p o e).imp id k.z_out⟩, ⟨lr.to, fun p e => (lr.new p e).imp id k.z_out⟩, h2_none h1L⟩, ⟨?_, I.len, fun i d e => ?_, fun i o e => ?_, S1.apart, fun p vs e => ?_, fun p hp => ?_, I.loc⟩, fun p hp => ?_⟩
  · have h2 : b ∉ hs := fun z => hx (List.mem_cons_of_mem _ z)
    have h3 : b ≠ G.env.locals := fun z => hx (by rw [z]; exact List.mem_cons_self)
    rcases Nat.lt_or_ge b G.env.locals with z | z
    · exact I.base.keep b o (cut_to e z h2) ((h0_at z h2).trans n) hb (by show b ∉ ([] : List Addr); simp)
    · have x : Ext G s.heap lk H b := ⟨Nat.lt_of_le_of_ne z (Ne.symm h3), k.lk_none h2, n, o, e⟩
      obtain ⟨q, _⟩ := I.hok b _ (hgk (zw_ext x))
      exact q o e
  · obtain ⟨z, h2⟩ := k.frn OK b hb
    exact I.base.slot b o (cut_to e z h2) ((h0_at z h2).trans n) hb (by show b ∉ ([] : List Addr); simp)
  · have h2 : b ∉ hs := fun z => hx (List.mem_cons_of_mem _ z)
    have h3 : b ≠ G.env.locals := fun z => hx (by rw [z]; exact List.mem_cons_self)
    rcases Nat.lt_or_ge b G.env.locals with z | z
    · exact h2_none (low e n z h2)
    · have x : Ext G s.heap lk H b := ⟨Nat.lt_of_le_of_ne z (Ne.symm h3), k.lk_none h2, n, o, e⟩
      unfold h2W
      rw [if_pos (.inr x)]
  · have h2 : b ∉ hs := fun z => hx (List.mem_cons_of_mem _ z)
    have h3 : b ≠ G.env.locals := fun z => hx (by rw [z]; exact List.mem_cons_self)
    cases q : H b with
    | some u => exact there q
    | none =>
      rcases Nat.lt_or_ge b G.env.locals with z | z
      · exact I.base.there b o (cut_to e z h2) (by show b ∉ ([] : List Addr); simp)
      · have x : Ext G s.heap lk H b := ⟨Nat.lt_of_le_of_ne z (Ne.symm h3), k.lk_none h2, q, o, e⟩
        obtain ⟨q, _⟩ := I.hok b _ (hgk (zw_ext x))
        exact ⟨o, q o e⟩
  · rw [h2_of (nheld e) (trk e).1]
    exact (keepH e fun _ z => by cases z).1 xs rfl
  · rw [h2_of (nheld e) (trk e).1]
    exact (keepH e fun _ z => by cases z).2 o u rfl
  · rw [h2_of (nheld e) (trk e).1]
    obtain ⟨n1, n2⟩ := trk e
    have hb : b ∉ hs := (k.lk_of e).1
    rcases Nat.lt_or_ge b G.env.locals with z | z
    · exact I.base.tbls b ps ((h0_at z hb).trans e)
    · have e2 : H1 b = some (.tbl ps) := by
        by_cases hk : b ∈ ρ ∨ (F b).isSome = true
        · rcases hk with hk | hk
          · obtain ⟨j, c, e1, e2, _, _, r⟩ := k.memK hk
            obtain ⟨q, rfl⟩ := (own_kind r e).2.2.1 ps rfl
            exact absurd (k.tabs b q (List.mem_of_getElem? e2)) (Nat.not_lt.mpr z)
          · cases ef : F b with
            | none => rw [ef] at hk; cases hk
            | some o =>
              rcases k.sim.le b o ef with q | ⟨ob, kvs, _, q⟩
              · rw [e] at q; cases q
                rcases S1.le b _ (l.to b _ ef) with q | ⟨_, _, z, _⟩
                · exact q
                · cases z
              · rw [e] at q; cases q
        · exact hgk (by rw [zw_else n2 n1 hk, e])
      exact ⟨#[], by rw [e2]; simp⟩
  · obtain ⟨e1, e2, e3⟩ := h2_in e
    refine (I.hok p u e3).stay (fun b v _ q => q) (fun b q => ?_) fun b xs q => ?_
    · rw [h2_of (fun z => ?_) fun x => ?_]
      · exact q
      · obtain ⟨vs, _, e4, _⟩ := lst z
        rw [q] at e4; cases e4
      · rw [hgk (zw_ext x)] at q; cases q
    · rw [h2_of (fun z => ?_) fun x => ?_]
      · exact q
      · obtain ⟨vs, _, e4, _⟩ := lst z
        rw [q] at e4; cases e4
      · rw [hgk (zw_ext x)] at q; cases q
  · have nE : ¬ Ext G s.heap lk H p := fun x => by
      rcases l.new p o e with q | q
      · rcases k.sim.le p o q with z | ⟨_, _, _, z⟩ <;> rw [x.2.2.1] at z <;> cases z
      · rw [zw_ext x] at q; cases q
    have nH : ¬ Held δ' σ' p := fun z => by
      obtain ⟨_, _, _, fr, _⟩ := lst z
      rw [fr.f] at e; cases e
    rw [h2_of nH nE]
    exact S1.le p o e
  · have q := k.z_in e
    have eH := k.sim.zk p o e
    rw [h2_of (nh q) (trk eH).1]
    exact hgk q
  · obtain ⟨a, e1, e2, e3, r⟩ := S1.mem j c e
    have nE : ¬ Ext G s.heap lk H a := fun x => by rw [zw_ext x] at e3; cases e3
    have nH : ¬ Held δ' σ' a := fun z => by
      obtain ⟨_, _, _, fr, _⟩ := lst z
      exact fr.r (List.mem_of_getElem? e1)
    exact ⟨a, e1, e2, k.z_out e3, r.up (fun _ _ h => h) (fun _ _ h => h) (h2_of nH nE)⟩
  · exact S1.len
  · obtain ⟨v, e1, r⟩ := S1.slot i _ e
    exact ⟨v, e1, r⟩
  · obtain ⟨ds, rfl⟩ := ls i o e
    obtain ⟨v, e3, q, ev, fr, vs, e4, r⟩ := S1.slot i _ e
    subst ev
    have hh : Held δ' σ' q := ⟨i, _, e, e3⟩
    refine ⟨q, ds, vs, rfl, e3, ?_, r⟩
    unfold lkO
    rw [if_pos hh, e4]
  · unfold lkO at e
    split at e
    · rename_i hh
      obtain ⟨vs', ds, e4, fr, r⟩ := lst hh
      rw [e4] at e
      cases e
      obtain ⟨z, its, n, r2, q⟩ := I.hok p _ e4
      exact ⟨mem_held.mpr hh, z, its, n, r2, q⟩
    · cases e
  · have hh := mem_held.mp hp
    obtain ⟨y1, y2⟩ := young p hh
    obtain ⟨vs', ds, e4, fr, r⟩ := lst hh
    refine ⟨y1, ?_, fun hf => ?_, vs', by unfold lkO; rw [if_pos hh, e4]⟩
    · rcases y2 with y2 | y2
      · exact (k.pk.hsk p y2).2.1
      · cases eb : G.base.get? p with
        | none => rfl
        | some o => rw [(k.e0.bs p o eb).1] at y2; cases y2
    · rcases y2 with y2 | y2
      · exact (k.pk.hsk p y2).2.2.1 hf
      · obtain ⟨_, o, eo, _⟩ := k.e0.funs.mem hf
        rw [eo] at y2; cases y2
  · have hh := mem_held.mp hp
    refine ⟨?_, (young p hh).2⟩
    unfold h2W
    rw [if_pos (.inl hh)]
end
end FL
namespace FL
open PySem PySem.Spec PyProof.Rows L2
structure GB where
  pre : List Stmt
  test : Expr
  ba : List Stmt
  ye : Expr
  yp : Pos
  ypos : Pos
  bb : List Stmt
  wpos : Pos
def GB.turn (B : GB) : List Stmt := B.ba ++ .Expr (.Yield (some B.ye) B.yp) B.ypos :: B.bb
def GB.body (B : GB) : List Stmt := B.pre ++ [.While B.test B.turn [] B.wpos]
structure GM where
  pre : MS
  test : MT
  ba : MS
  ye : ME
  bb : MS
structure GJ (G : GD) (B : GB) (m : GM) : Prop where
  pre : ∀ s0 H0, JSs (slX (G.X s0 H0)) W0 B.pre m.pre
  test : ∀ s0 H0, JT (slX (G.X s0 H0)) W0 B.test m.test
  ba : ∀ s0 H0, JSs (slX (G.X s0 H0)) W0 B.ba m.ba
  ye : ∀ s0 H0, JE (slX (G.X s0 H0)) W0 B.ye m.ye
  bb : ∀ s0 H0, JSs (slX (G.X s0 H0)) W0 B.bb m.bb
  co : G.env.scope.isCoroutine = false
  hi : interactive G.env = false
def GL (m : GM) : List D → Loc → Prop
  | [], δ => ∃ δ1, (∀ μ, m.test δ μ = .ok false δ1 μ) ∧ LsOnly δ1
  | d :: ds, δ => ∃ δ1 δ2 δ3 δ4, (∀ μ, m.test δ μ = .ok true δ1 μ) ∧ (∀ μ, m.ba δ1 μ = .nx δ2 μ) ∧ (∀ μ, m.ye δ2 μ = .ok (.fr d) δ3 μ) ∧ LsOnly δ3 ∧ (∀ μ, m.bb δ3 μ = .nx δ4 μ) ∧ GL m ds δ4
def GS0 (m : GM) (ds : List D) (δ : Loc) : Prop := ∃ δ1, (∀ μ, m.pre δ μ = .nx δ1 μ) ∧ GL m ds δ1
theorem GL.one {m : GM} : ∀ {ds es : List D} {δ : Loc}, GL m ds δ → GL m es δ → ds = es
  | [], [], _, _, _ => rfl
  | [], e :: es, δ, ⟨_, h, _⟩, ⟨_, _, _, _, k, _⟩ => by have := (h []).symm.trans (k []); cases this
  | d :: ds, [], δ, ⟨_, _, _, _, h, _⟩, ⟨_, k, _⟩ => by have := (h []).symm.trans (k []); cases this
  | d :: ds, e :: es, δ, ⟨a1, a2, a3, a4, h1, h2, h3, _, h4, h5⟩, ⟨b1, b2, b3, b4, k1, k2, k3, _, k4, k5⟩ => by
    have e1 := (h1 []).symm.trans (k1 []); cases e1
    have e2 := (h2 []).symm.trans (k2 []); cases e2
    have e3 := (h3 []).symm.trans (k3 []); cases e3
    have e4 := (h4 []).symm.trans (k4 []); cases e4
    rw [GL.one h5 k5]
theorem GS0.one {m : GM} {ds es : List D} {δ : Loc} (h : GS0 m ds δ) (k : GS0 m es δ) : ds = es := by
  obtain ⟨a, h1, h2⟩ := h
  obtain ⟨b, k1, k2⟩ := k
  have e := (h1 []).symm.trans (k1 []); cases e
  exact GL.one h2 k2
theorem Slp.trans {a b c : Array GenState} (h : Slp a b) (k : Slp b c) : Slp a c := fun i x l cd p fs cl e => k i x l cd p fs cl (h i x l cd p fs cl e)
def Fin0 (G : GD) (Z F : Hp) (ρ : List Addr) (μ : Mem) (H : Hp) (hs : List Addr) (s : Shared) (e : End) (s1 : Shared) : Prop :=
  (e = .ret (.ok (.ret .none)) ∨ e = .ret (.ok .next)) ∧ ∃ F' ρ' H2, Slt G Z F ρ μ H hs s F' ρ' H2 s1 ∧ Slp s.gens s1.gens
def FinN (G : GD) (Z F : Hp) (ρ : List Addr) (μ : Mem) (H : Hp) (hs : List Addr) (s : Shared) (d : D) (R : Sem PySem.Fin → Code → List Frame → Loc → Prop) (e : End) (s1 : Shared) : Prop :=
  ∃ v l k c p fs δ' x F' ρ' H2 σ' lk' hs', e = .susp v false l k c p fs ∧ e.quiet = true ∧ Slt G Z F ρ μ H hs s F' ρ' H2 s1 ∧ Slp s.gens s1.gens ∧ RelV x v ∧ Rep G.K G.mg F' ρ' x d ∧
    Pk G F' ρ' δ' σ' lk' hs' s1.heap ∧ (∀ p ∈ hs', H2 p = none ∧ (p ∈ hs ∨ s.heap.get? p = none)) ∧ R (k (.send .none)) c fs δ'
def Prom (G : GD) : List D → Sem PySem.Fin → Code → List Frame → Loc → Prop
  | [], t, c, fs, δ => ∀ Z F ρ μ H σ lk hs s, Wk G Z F ρ μ H δ σ lk hs s → Sg (model G.P G.w) G.A (Fin0 G Z F ρ μ H hs s) c t fs s
  | d :: ds, t, c, fs, δ => ∀ Z F ρ μ H σ lk hs s, Wk G Z F ρ μ H δ σ lk hs s → Sg (model G.P G.w) G.A (FinN G Z F ρ μ H hs s d (Prom G ds)) c t fs s
def FinW (G : GD) (Z F : Hp) (ρ : List Addr) (μ : Mem) (H : Hp) (hs : List Addr) (s : Shared) : List D → End → Shared → Prop
  | [] => Fin0 G Z F ρ μ H hs s
  | d :: ds => FinN G Z F ρ μ H hs s d (Prom G ds)
def Run (G : GD) (Z F : Hp) (ρ : List Addr) (μ : Mem) (H : Hp) (lk : Addr → Option (List V)) (hs : List Addr) (s : Shared) (δ : Loc) (σ : L2.St) (s1 : Shared) : Prop :=
  ∃ H1 F1 ρ1, Inv (G.X (sW G hs s) (h0W G hs H)) [] σ H1 s1 ∧ Sim G.K G.mg (zW G s.heap lk Z F H ρ) F1 ρ1 μ δ σ H1 ∧ Le (zW G s.heap lk Z F H ρ) F F1 ∧ LeR (zW G s.heap lk Z F H ρ) ρ ρ1 ∧ Slp s.gens s1.gens
section
variable {G : GD} {B : GB} {m : GM} {Z F H : Hp} {ρ : List Addr} {μ : Mem} {δ δ0 δ' : Loc} {σ σ0 : L2.St} {lk : Addr → Option (List V)} {hs : List Addr} {s s1 : Shared}
theorem Wk.run (OK : G.Ok) (k : Wk G Z F ρ μ H δ σ lk hs s) : Run G Z F ρ μ H lk hs s δ σ s := by
  obtain ⟨I, S⟩ := wake_in OK k
  exact ⟨_, F, ρ, I, S, .refl, .refl, fun _ _ _ _ _ _ _ e => e⟩
theorem run_ss {ss : List Stmt} {ms : MS} (J : ∀ s0 H0, JSs (slX (G.X s0 H0)) W0 ss ms) (r : Run G Z F ρ μ H lk hs s δ σ s1) (e : ms δ μ = .nx δ' μ) :
    wpAny (model G.P G.w) (G.A.deeper G.env) (execs ss G.env) (fun f s2 => f = .next ∧ ∃ σ', Run G Z F ρ μ H lk hs s δ' σ' s2) (fun _ _ => False) s1 := by
  obtain ⟨H1, F1, ρ1, I, S, l, lr, sl⟩ := r
  have q := pss_sleep (J _ _) I (D := { nx := fun σ' H' => ∃ F' ρ', Le (zW G s.heap lk Z F H ρ) F1 F' ∧ LeR (zW G s.heap lk Z F H ρ) ρ1 ρ' ∧ Sim G.K G.mg (zW G s.heap lk Z F H ρ) F' ρ' μ δ' σ' H', rt := fun _ _ => False }) ⟨_, F1, ρ1, μ, δ, S, by
    rw [e]
    exact fun σ' H' F' ρ' l' lr' S' => ⟨F', ρ', l', lr', S'⟩⟩
  refine wpAny_mono q (fun f s2 hq => ?_) fun _ _ z => z
  obtain ⟨hq, sl2⟩ := hq
  cases f with
  | next =>
    obtain ⟨σ', H', I', F', ρ', l', lr', S'⟩ := hq
    exact ⟨rfl, σ', H', F', ρ', I', S', l.trans l', lr.trans lr', sl.trans sl2⟩
  | brk => obtain ⟨_, _, _, z⟩ := hq; exact False.elim z
  | cont => obtain ⟨_, _, _, z⟩ := hq; exact False.elim z
  | ret u => obtain ⟨_, _, _, _, _, z⟩ := hq; exact False.elim z
theorem run_tt {t : Expr} {mt : MT} {b : Bool} (J : ∀ s0 H0, JT (slX (G.X s0 H0)) W0 t mt) (r : Run G Z F ρ μ H lk hs s δ σ s1) (e : mt δ μ = .ok b δ' μ) :
    wpAny (model G.P G.w) (G.A.deeper G.env) (isTrue t G.env (eval t G.env)) (fun c s2 => c = b ∧ Run G Z F ρ μ H lk hs s δ' σ s2) (fun _ _ => False) s1 := by
  obtain ⟨H1, F1, ρ1, I, S, l, lr, sl⟩ := r
  have q := pt_sleep (J _ _) I (Q := fun c H' => c = b ∧ ∃ F' ρ', Le (zW G s.heap lk Z F H ρ) F1 F' ∧ LeR (zW G s.heap lk Z F H ρ) ρ1 ρ' ∧ Sim G.K G.mg (zW G s.heap lk Z F H ρ) F' ρ' μ δ' σ H') ⟨_, F1, ρ1, μ, δ, S, by
    rw [e]
    exact fun H' F' ρ' l' lr' S' => ⟨rfl, F', ρ', l', lr', S'⟩⟩
  refine wpAny_mono q (fun c s2 hq => ?_) fun _ _ z => z
  obtain ⟨⟨H', I', hb, F', ρ', l', lr', S'⟩, sl2⟩ := hq
  exact ⟨hb, H', F', ρ', I', S', l.trans l', lr.trans lr', sl.trans sl2⟩
theorem run_ee {t : Expr} {me : ME} {d : D} (J : ∀ s0 H0, JE (slX (G.X s0 H0)) W0 t me) (r : Run G Z F ρ μ H lk hs s δ σ s1) (e : me δ μ = .ok (.fr d) δ' μ) :
    wpAny (model G.P G.w) (G.A.deeper G.env) (eval t G.env) (fun v s2 => ∃ x H1 F1 ρ1, RelV x v ∧ Rep G.K G.mg F1 ρ1 x d ∧ Inv (G.X (sW G hs s) (h0W G hs H)) [] σ H1 s2 ∧ Sim G.K G.mg (zW G s.heap lk Z F H ρ) F1 ρ1 μ δ' σ H1 ∧ Le (zW G s.heap lk Z F H ρ) F F1 ∧ LeR (zW G s.heap lk Z F H ρ) ρ ρ1 ∧ Slp s.gens s2.gens) (fun _ _ => False) s1 := by
  obtain ⟨H1, F1, ρ1, I, S, l, lr, sl⟩ := r
  have q := pe_sleep (J _ _) I (Q := fun x H' => ∃ F' ρ', Le (zW G s.heap lk Z F H ρ) F1 F' ∧ LeR (zW G s.heap lk Z F H ρ) ρ1 ρ' ∧ Sim G.K G.mg (zW G s.heap lk Z F H ρ) F' ρ' μ δ' σ H' ∧ Rep G.K G.mg F' ρ' x d) ⟨_, F1, ρ1, μ, δ, S, by
    rw [e]
    exact fun H' F' ρ' l' lr' S' v hv => ⟨F', ρ', l', lr', S', hv.r⟩⟩
  refine wpAny_mono q (fun v s2 hq => ?_) fun _ _ z => z
  obtain ⟨⟨x, H', I', rx, F', ρ', l', lr', S', rp⟩, sl2⟩ := hq
  exact ⟨x, H', F', ρ', rx, rp, I', S', l.trans l', lr.trans lr', sl.trans sl2⟩
def fsW (G : GD) (B : GB) (p : Pos) : List Frame := [whF G.env (fun f => match f with | .next => (execs [] G.env).wrap fnK (fnH G.env) id id | f => fnK f) (fnH G.env) id id (.func B.body G.env) p]
def cdW (G : GD) (B : GB) : Code := .whileLoop B.test B.turn [] G.env
theorem over_w {p : Pos} : G.A.over (cdW G B) (fsW G B p) = G.A.deeper G.env := (GenW.over_loop rfl rfl).trans GenW.over_func
theorem loop_sg (OK : G.Ok) (J : GJ G B m) (p : Pos) : ∀ (ds : List D) (δ : Loc), GL m ds δ → ∀ (Z F : Hp) (ρ : List Addr) (μ : Mem) (H : Hp) (δ0 : Loc) (σ0 : L2.St) (lk : Addr → Option (List V)) (hs : List Addr) (s s1 : Shared) (σ : L2.St), Wk G Z F ρ μ H δ0 σ0 lk hs s → Run G Z F ρ μ H lk hs s δ σ s1 →
    Sg (model G.P G.w) G.A (FinW G Z F ρ μ H hs s ds) (cdW G B) ((model G.P G.w).den (cdW G B)) (fsW G B p) s1 := by
  intro ds
  induction ds with
  | nil =>
    intro δ hg Z F ρ μ H δ0 σ0 lk hs s s1 σ k r
    obtain ⟨δ1, h1, h2⟩ := hg
    refine sg_turn ?_
    refine wpAny_mono (show wpAny _ (G.A.over (cdW G B) (fsW G B p)) _ _ _ s1 by rw [over_w]; exact run_tt J.test r (h1 μ)) (fun b s2 hb => ?_) fun _ _ z => z
    obtain ⟨rfl, H1, F1, ρ1, I, S, l, lr, sl⟩ := hb
    rw [if_neg Bool.false_ne_true]
    refine sg_popF ?_
    show Sg _ _ _ _ (leafOf (.ok (.ret .none))) [] s2
    refine sg_end (.ok (.ret .none)) ⟨.inl rfl, ?_⟩
    obtain ⟨H2, _, _, q, _⟩ := wake_out OK k I S l lr h2
    exact ⟨F1, ρ1, H2, q, sl⟩
  | cons d ds ih =>
    intro δ hg Z F ρ μ H δ0 σ0 lk hs s s1 σ k r
    obtain ⟨δ1, δ2, δ3, δ4, h1, h2, h3, h4, h5, h6⟩ := hg
    refine sg_turn ?_
    refine wpAny_mono (show wpAny _ (G.A.over (cdW G B) (fsW G B p)) _ _ _ s1 by rw [over_w]; exact run_tt J.test r (h1 μ)) (fun b s2 hb => ?_) fun _ _ z => z
    obtain ⟨rfl, r2⟩ := hb
    rw [if_pos rfl]
    refine sg_app ?_
    refine wpAny_mono (show wpAny _ (G.A.over (cdW G B) (fsW G B p)) _ _ _ s2 by rw [over_w]; exact run_ss J.ba r2 (h2 μ)) (fun f s3 hf => ?_) fun _ _ z => z
    obtain ⟨rfl, σ3, r3⟩ := hf
    refine ⟨rfl, sg_cons (sg_yl rfl J.co J.hi ?_)⟩
    refine wpAny_mono (show wpAny _ (G.A.over (cdW G B) (fsW G B p)) _ _ _ s3 by rw [over_w]; exact run_ee J.ye r3 (h3 μ)) (fun v s4 hv => ?_) fun _ _ z => z
    obtain ⟨x, H1, F1, ρ1, rx, rp, I, S, l, lr, sl⟩ := hv
    intro lv kk pp hk
    obtain ⟨H2, lk', hs', q1, q2, q3⟩ := wake_out OK k I S l lr h4
    refine ⟨v, lv, kk, cdW G B, pp, fsW G B p, δ3, x, F1, ρ1, H2, σ3, lk', hs', rfl, rfl, q1, sl, rx, rp, q2, q3, ?_⟩
    -- behind the yield, whenever it is woken
    have go : ∀ Z F ρ μ H σ lk hs s, Wk G Z F ρ μ H δ3 σ lk hs s → Sg (model G.P G.w) G.A (FinW G Z F ρ μ H hs s ds) (cdW G B) (kk (.send .none)) (fsW G B p) s := by
      intro Z F ρ μ H σ lk hs s kw
      refine hk _ s ?_
      refine sg_wrap ?_
      refine wpAny_mono (show wpAny _ (G.A.over (cdW G B) (fsW G B p)) _ _ _ s by rw [over_w]; exact run_ss J.bb (kw.run OK) (h5 μ)) (fun f s5 hf => ?_) fun _ _ z => False.elim z
      obtain ⟨rfl, σ5, r5⟩ := hf
      exact sg_again rfl (ih δ4 h6 Z F ρ μ H δ3 σ lk hs s s5 σ5 kw r5)
    cases ds with
    | nil => exact go
    | cons d2 ds => exact go
theorem prom_start (OK : G.Ok) (J : GJ G B m) {ds : List D} {δ : Loc} (hg : GS0 m ds δ) : Prom G ds ((model G.P G.w).den (.func B.body G.env)) (.func B.body G.env) [] δ := by
  obtain ⟨δ1, h1, h2⟩ := hg
  have go : ∀ Z F ρ μ H σ lk hs s, Wk G Z F ρ μ H δ σ lk hs s → Sg (model G.P G.w) G.A (FinW G Z F ρ μ H hs s ds) (.func B.body G.env) ((model G.P G.w).den (.func B.body G.env)) [] s := by
    intro Z F ρ μ H σ lk hs s kw
    refine sg_func (sg_app ?_)
    refine wpAny_mono (show wpAny _ (G.A.over (.func B.body G.env) []) _ _ _ s by rw [GenW.over_func]; exact run_ss J.pre (kw.run OK) (h1 μ)) (fun f s2 hf => ?_) fun _ _ z => z
    obtain ⟨rfl, σ2, r2⟩ := hf
    refine ⟨rfl, sg_cons (sg_while fun p => ?_)⟩
    exact loop_sg OK J p ds δ1 h2 Z F ρ μ H δ σ lk hs s s2 σ2 kw r2
  cases ds with
  | nil => exact go
  | cons d ds => exact go
end
end FL
namespace FL
open PySem PySem.Spec PyProof.Rows L2
def FpY (B : Cx) (pins : List (Addr × Obj)) (H : Hp) (b : Addr) : Prop :=
  H b = none ∧ b ≠ B.env.locals ∧ b ∉ B.fs ∧ (b ∈ B.ex ∨ B.s_0.heap.get? b = none) ∧ (∀ x c, B.env.cells.lookup x = some c → c ≠ b) ∧ ∀ p ∈ B.pn ++ pins, p.1 ≠ b
theorem FpY.of {B : Cx} {pins : List (Addr × Obj)} {H : Hp} {b : Addr} (h : FpOk B pins H b) : FpY B pins H b := by
  obtain ⟨h0, h1, h2, h3, h4, h5⟩ := h
  exact ⟨h0, h1, h2, h3.imp id fun z => Heap.get?_none_of_le z, h4, h5⟩
section
variable {B : Cx} {pins : List (Addr × Obj)} {σ : L2.St} {H H' : Hp} {s s' : Shared} {ch : List Addr}
theorem Inv.newY (I : Inv B pins σ H s) {b : Addr} (e : s.heap.get? b = none) (n : H' b = none) : FpY B pins H' b := by
  refine ⟨n, fun z => ?_, fun z => ?_, ?_, fun x c ec z => ?_, fun p hp z => ?_⟩
  · obtain ⟨m, ⟨o, _, _, ho, _⟩, _⟩ := I.loc
    rw [z, ho] at e; cases e
  · obtain ⟨_, o, ho, _⟩ := I.funs.mem z
    rw [ho] at e; cases e
  · by_cases hx : b ∈ B.ex
    · exact .inl hx
    · refine .inr ?_
      cases q : B.s_0.heap.get? b with
      | none => rfl
      | some o =>
        obtain ⟨o', q'⟩ := I.base.there b o q hx
        rw [q'] at e; cases e
  · obtain ⟨v, o, ho, _⟩ := I.cell x c ec
    rw [z, e] at ho; cases ho
  · have ho := (I.pin p hp).1
    rw [z, e] at ho; cases ho
theorem inv_ran (I : Inv B pins σ H s) (hc : ∀ b ∈ ch, (b ∈ B.ex ∨ B.s_0.heap.get? b = none) ∧ b ≠ B.env.locals ∧ (∀ x c, B.env.cells.lookup x = some c → c ≠ b) ∧ ∀ p ∈ B.pn ++ pins, p.1 ≠ b)
    (os : s'.os = s.os) (u : Un (frs B.stack) ch H H' s.heap s'.heap) (hok : HOk B.prog B.w H' s'.heap) (hg : AllBare s'.gens) : Inv B pins σ H' s' := by
  have nC : ∀ b o, B.s_0.heap.get? b = some o → b ∉ B.ex → b ∉ ch := fun b o e hx hb => by
    rcases (hc b hb).1 with z | z
    · exact hx z
    · rw [e] at z; cases z
  have stk : ∀ b ∈ frs B.stack, b = B.env.locals ∨ b ∈ B.fs := fun b hb => List.mem_cons.mp (I.stkSub b hb)
  have oldL : ∀ b o, B.s_0.heap.get? b = some o → b ≠ B.env.locals := fun b o e z => by
    have h1 := Heap.lt_size e
    rw [z] at h1
    exact absurd (Nat.lt_of_lt_of_le h1 I.ok.above) (Nat.lt_irrefl _)
  have cells : ∀ x c, B.env.cells.lookup x = some c → ∀ v, s.heap.IsCell c v → s'.heap.IsCell c v ∧ H' c = none := fun x c e v hcell => by
    obtain ⟨o, ho, hd⟩ := hcell
    have nch : c ∉ ch := fun z => (hc c z).2.2.1 x c e rfl
    obtain ⟨sl, q⟩ := u.any ho (I.freeC x c e) nch
    exact ⟨⟨_, q, hd⟩, u.free c o ho (I.freeC x c e) nch⟩
  have nL : B.env.locals ∉ ch := fun z => (hc _ z).2.1 rfl
  obtain ⟨m, hn, hl⟩ := id I.loc
  obtain ⟨oL, es, ep, hoL, rL⟩ := id hn
  obtain ⟨sl, qL⟩ := u.any hoL I.free nL
  refine ⟨I.ok, os.trans I.os, hg, ⟨fun b o e n hb hx => ?_, fun b o e n hb hx => ?_, fun b o e n hx => ?_, fun b o e hx => ?_, fun b xs e => u.tups b xs (I.base.tups b xs e), fun b o v e => u.frzs b o v (I.base.frzs b o v e), fun b ps e => ?_⟩,
    ⟨m, ⟨_, es, ep, qL, rL⟩, fun i x v e1 e2 e3 => ?_⟩, fun x c e => ?_, u.free _ oL hoL I.free nL, fun x c e => ?_, fun p hp => ?_, hok, I.len⟩
  · refine u.keep b o (I.base.keep b o e n hb hx) (I.base.free b o e n hx) (fun z => ?_) (nC b o e hx)
    rcases stk b z with z | z
    · exact oldL b o e z
    · exact hb z
  · obtain ⟨sl1, e1⟩ := I.base.slot b o e n hb hx
    obtain ⟨sl2, e2⟩ := u.any e1 (I.base.free b o e n hx) (nC b o e hx)
    exact ⟨sl2, e2⟩
  · obtain ⟨o1, e1⟩ := I.base.there b o e hx
    exact u.free b o1 e1 (I.base.free b o e n hx) (nC b o e hx)
  · obtain ⟨o1, e1⟩ := I.base.there b o e hx
    exact u.there b o1 e1 (nC b o e hx)
  · obtain ⟨m1, e1⟩ := I.base.tbls b ps e
    obtain ⟨m2, e2⟩ := u.tbls b _ e1
    exact ⟨m1 ++ m2, by rw [e2, Array.append_assoc]⟩
  · obtain ⟨v1, r, q⟩ := hl i x v e1 e2 e3
    refine ⟨v1, r, ?_⟩
    rcases q with q | ⟨k, c, e, z⟩
    · exact .inl q
    · exact .inr ⟨k, c, e, (cells x c e _ z).1⟩
  · obtain ⟨v, z⟩ := I.cell x c e
    exact ⟨v, (cells x c e v z).1⟩
  · obtain ⟨v, z⟩ := I.cell x c e
    exact (cells x c e v z).2
  · obtain ⟨e, n, ne, nf, d⟩ := I.pin p hp
    have nch : p.1 ∉ ch := fun z => (hc p.1 z).2.2.2 p hp rfl
    refine ⟨u.keep p.1 p.2 e n (fun z => ?_) nch, u.free p.1 p.2 e n nch, ne, nf, d⟩
    rcases stk p.1 z with z | z
    · exact ne z
    · exact nf z
end
def gdOf (X : Cx) (N : List Str) (env : Env) : GD := { P := X.prog, w := X.w, K := X.K, mg := X.mg, base := X.base, N := N, env := env, l := X.stack, A := X.A.in1 }
def PromS (G : GD) (ds : List D) (δ : Loc) : GenState → Prop
  | .fresh c => Prom G ds ((model G.P G.w).den c) c [] δ
  | .suspended k _ c _ fs _ => Prom G ds (k (.send .none)) c fs δ
  | _ => False
def isSus : GenState → Bool
  | .suspended _ _ _ _ _ _ => true
  | _ => false
structure Asl (G : GD) (a : Addr) (g : Nat) (ds : List D) (b : Bool) (F : Hp) (ρ : List Addr) (hs : List Addr) (s : Shared) : Prop where
  isg : s.heap.IsGen a g
  ne : a ∉ G.env.locals :: hs
  ex : ∃ gs δ σ lk, s.gens[g]? = some gs ∧ Pk G F ρ δ σ lk hs s.heap ∧ PromS G ds δ gs ∧ (b = true → isSus gs = true)
section
variable {G : GD} {a : Addr} {g : Nat} {ds : List D} {F F' : Hp} {ρ ρ' : List Addr} {hs : List Addr} {s s' : Shared} {b : Bool}
theorem Asl.stay (OK : G.Ok) (x : Asl G a g ds b F ρ hs s) (l : ∀ p o, F p = some o → F' p = some o) (lr : ∀ (k : Nat) p, ρ[k]? = some p → ρ'[k]? = some p) (hk : ∀ p ∈ a :: G.env.locals :: hs, ∀ o, s.heap.get? p = some o → s'.heap.get? p = some o)
    (hg : ∀ gs, s.gens[g]? = some gs → (b = true → isSus gs = true) → s'.gens[g]? = some gs) : Asl G a g ds b F' ρ' hs s' := by
  obtain ⟨o, nm, qn, ho, r⟩ := x.isg
  obtain ⟨gs, δ, σ, lk, h1, h2, h3, h4⟩ := x.ex
  exact ⟨⟨o, nm, qn, hk a List.mem_cons_self o ho, r⟩, x.ne, gs, δ, σ, lk, hg gs h1 h4, h2.stay OK l lr fun p hp => hk p (List.mem_cons_of_mem _ hp), h3, h4⟩
theorem Asl.slept (OK : G.Ok) (x : Asl G a g ds true F ρ hs s) (l : ∀ p o, F p = some o → F' p = some o) (lr : ∀ (k : Nat) p, ρ[k]? = some p → ρ'[k]? = some p) (hk : ∀ p ∈ a :: G.env.locals :: hs, ∀ o, s.heap.get? p = some o → s'.heap.get? p = some o)
    (hg : Slp s.gens s'.gens) : Asl G a g ds true F' ρ' hs s' := x.stay OK l lr hk fun gs e hb => by
  have := hb rfl
  cases gs with
  | suspended k l c p fs cl => exact hg g k l c p fs cl e
  | fresh c => cases this
  | running => cases this
  | finished => cases this
end
def tabLow (n : Nat) (μ : Mem) : Bool := μ.all fun o => match o with
  | .tab P _ => decide (P < n)
  | _ => true
theorem tabLow_at {n : Nat} {μ : Mem} (h : tabLow n μ = true) {P : Addr} {q : Str} (hm : Own.tab P q ∈ μ) : P < n := of_decide_eq_true (List.all_eq_true.mp h _ hm)
def NextP (B : Cx) (G : GD) (a : Addr) (g : Nat) (pins : List (Addr × Obj)) (σ : L2.St) (Z F : Hp) (ρ : List Addr) (μ : Mem) (δ : Loc) (gens : Array GenState) : List D → Option Value → Shared → Prop
  | [], r, s1 => r = none ∧ ∃ H' F' ρ', Inv B pins σ H' s1 ∧ Sim B.K B.mg Z F' ρ' μ δ σ H' ∧ Le Z F F' ∧ LeR Z ρ ρ'
  | d :: ds, r, s1 => ∃ u x H' F' ρ' hs', r = some u ∧ RelV x u ∧ Rep B.K B.mg F' ρ' x d ∧ Inv B pins σ H' s1 ∧ Sim B.K B.mg Z F' ρ' μ δ σ H' ∧ Le Z F F' ∧ LeR Z ρ ρ' ∧ Asl G a g ds true F' ρ' hs' s1 ∧ (∀ p ∈ a :: G.env.locals :: hs', FpY B pins H' p) ∧
      (∀ (i : Nat) k l c p fs cl, i ≠ g → gens[i]? = some (.suspended k l c p fs cl) → s1.gens[i]? = some (.suspended k l c p fs cl))
theorem next_asl {B : Cx} {N : List Str} {env : Env} {pins : List (Addr × Obj)} {σ : L2.St} {H Z F : Hp} {ρ : List Addr} {μ : Mem} {δ : Loc} {s : Shared} {a : Addr} {g : Nat} {ds : List D} {b : Bool} {hs : List Addr} {E : Value → Shared → Prop}
    (OK : (gdOf B N env).Ok) (hd : B.A.depth < recursionLimit) (I : Inv B pins σ H s) (S : Sim B.K B.mg Z F ρ μ δ σ H) (x : Asl (gdOf B N env) a g ds b F ρ hs s) (fp : ∀ p ∈ a :: env.locals :: hs, FpY B pins H p) (tb : tabLow B.base.objs.size μ = true) :
    wpAny (model B.prog B.w) B.A (pyNext (.ref a)) (NextP B (gdOf B N env) a g pins σ Z F ρ μ δ s.gens ds) E s := by
  obtain ⟨gs, δg, σg, lk, h1, h2, h3, h4⟩ := x.ex
  have hgl : g < s.gens.size := (Array.getElem?_eq_some_iff.mp h1).1
  have fpc : ∀ p ∈ env.locals :: hs, (p ∈ B.ex ∨ B.s_0.heap.get? p = none) ∧ p ≠ B.env.locals ∧ (∀ x c, B.env.cells.lookup x = some c → c ≠ p) ∧ ∀ q ∈ B.pn ++ pins, q.1 ≠ p := fun p hp =>
    let ⟨_, q1, _, q3, q4, q5⟩ := fp p (List.mem_cons_of_mem _ hp)
    ⟨q3, q1, q4, q5⟩
  have e0 := I.env0
  have wk : Wk (gdOf B N env) (zone Z H δ σ) F ρ μ H δg σg lk hs (s.setGen g .running) :=
    ⟨⟨e0.frames, e0.mod, e0.bs, e0.bsz, e0.funs, e0.frf, e0.hok, allBare_setGen I.bare rfl⟩, S.enter, h2, (fp env.locals (List.mem_cons_of_mem _ List.mem_cons_self)).1, fun p hp => (fp p (List.mem_cons_of_mem _ (List.mem_cons_of_mem _ hp))).1,
      fun P q hm => Nat.lt_of_lt_of_le (tabLow_at tb hm) OK.bl⟩
  have sle : ∀ {s1 : Shared} {x : GenState}, Slp (s.setGen g .running).gens s1.gens → ∀ (i : Nat) k l c p fs cl, i ≠ g → s.gens[i]? = some (.suspended k l c p fs cl) → (s1.setGen g x).gens[i]? = some (.suspended k l c p fs cl) := fun {s1 x} hsl i k l c p fs cl hi e => by
    have e1 : (s.setGen g .running).gens[i]? = some (.suspended k l c p fs cl) := by
      show (s.gens.setIfInBounds g _)[i]? = _
      rw [Array.getElem?_setIfInBounds_ne (Ne.symm hi)]
      exact e
    show (s1.gens.setIfInBounds g _)[i]? = _
    rw [Array.getElem?_setIfInBounds_ne (Ne.symm hi)]
    exact hsl i k l c p fs cl e1
  -- the whole of a turn, for the two ends
  have back : ∀ {F' : Hp} {ρ' : List Addr} {H2 : Hp} {s1 : Shared}, Slt (gdOf B N env) (zone Z H δ σ) F ρ μ H hs (s.setGen g .running) F' ρ' H2 s1 → Inv B pins σ H2 s1 ∧ Sim B.K B.mg Z F' ρ' μ δ σ H2 ∧ Le Z F F' ∧ LeR Z ρ ρ' := fun {F' ρ' H2 s1} q =>
    ⟨inv_ran I fpc q.os q.un q.hok q.bare, S.leave q.sim q.le q.leR, S.leLeave q.le, S.leRLeave q.leR⟩
  have go : GoSg (model B.prog B.w) B.A.in1 (FinW (gdOf B N env) (zone Z H δ σ) F ρ μ H hs (s.setGen g .running) ds) (s.setGen g .running) gs := by
    cases gs with
    | fresh c =>
      cases ds with
      | nil => exact h3 _ _ _ _ _ _ _ _ _ wk
      | cons d ds => exact h3 _ _ _ _ _ _ _ _ _ wk
    | suspended k l c p fs cl =>
      cases ds with
      | nil => exact h3 _ _ _ _ _ _ _ _ _ wk
      | cons d ds => exact h3 _ _ _ _ _ _ _ _ _ wk
    | running => exact h3.elim
    | finished => exact h3.elim
  cases ds with
  | nil =>
    refine next_sg OK.hd I.nolimit hd x.isg h1 go fun e s1 he => ?_
    obtain ⟨hr, F', ρ', H2, q, _⟩ := he
    refine ⟨by rcases hr with rfl | rfl <;> rfl, .inr ⟨hr, fun h' hk => ⟨rfl, ?_⟩⟩⟩
    obtain ⟨J, S', l, lr⟩ := back q
    exact ⟨H2, F', ρ', (inv_wG J (allBare_setGen (x := .finished) J.bare rfl)).kept (h' := h') (t' := s1.toks) hk, S', l, lr⟩
  | cons d ds =>
    refine wpAny_mono (GenW.wpAny_gsz (n := g + 1) hgl (next_sg (Q := fun r s2 => g < s2.gens.size → NextP B (gdOf B N env) a g pins σ Z F ρ μ δ s.gens (d :: ds) r s2) OK.hd I.nolimit hd x.isg h1 go fun e s1 he => ?_)) (fun r s2 hq => hq) fun _ _ z => z
    obtain ⟨v, l, k, c, p, fs, δ', y, F', ρ', H2, σ', lk', hs', rfl, hq, q, sl, rv, rp, pk, hh, pr⟩ := he
    refine ⟨hq, .inl ⟨v, l, k, c, p, fs, rfl, fun hsz => ?_⟩⟩
    have hsz1 : g < s1.gens.size := by rw [GenW.setGen_size] at hsz; exact hsz
    obtain ⟨J, S', le, lr⟩ := back q
    have hb : (End.susp v false l k c p fs).genState.bare = true := End.bare_of_quiet hq
    have nA : a ∉ env.locals :: hs := x.ne
    have fa := fp a List.mem_cons_self
    obtain ⟨oa, nm, qn, hoa, ra⟩ := id x.isg
    have aK : s1.heap.get? a = some oa := q.un.keep a oa hoa fa.1 (fun z => by
      rcases List.mem_cons.mp (I.stkSub a z) with z | z
      · exact fa.2.1 z
      · exact fa.2.2.1 z) nA
    refine ⟨v, y, H2, F', ρ', hs', rfl, rv, rp, inv_wG J (allBare_setGen J.bare hb), S', le, lr, ⟨⟨oa, nm, qn, aK, ra⟩, fun hm => ?_, _, δ', σ', lk', setGen_at hsz1, pk, ?_, fun _ => ?_⟩, fun p hp => ?_, sle sl⟩
    · rcases List.mem_cons.mp hm with z | z
      · exact nA (by rw [z]; exact List.mem_cons_self)
      · rcases (hh a z).2 with z | z
        · exact nA (List.mem_cons_of_mem _ z)
        · rw [show s.heap.get? a = none from z] at hoa; cases hoa
    · exact pr
    · rfl
    · rcases List.mem_cons.mp hp with z | hp
      · rw [z]
        exact ⟨q.un.free a oa hoa fa.1 nA, fa.2⟩
      · rcases List.mem_cons.mp hp with z | hp
        · rw [z]
          exact ⟨q.hL, (fp env.locals (List.mem_cons_of_mem _ List.mem_cons_self)).2⟩
        · obtain ⟨n2, z⟩ := hh p hp
          rcases z with z | z
          · exact ⟨n2, (fp p (List.mem_cons_of_mem _ (List.mem_cons_of_mem _ z))).2⟩
          · exact Inv.newY I (show s.heap.get? p = none from z) n2
end FL
namespace FL
open PySem PySem.Spec PyProof.Rows L2
structure GYB (P : Program) (w : World) (K : PySem.W.Frag) (mg : Str → Option Value) (base : Heap) (k : Nat) (N : List Str) (sc : Scope) (B : GB) (m : GM) : Prop where
  pre : ∀ (X : Cx) (W : WX), X.prog = P → X.w = w → X.K = K → X.mg = mg → X.base = base → Cd X W k N sc → JSs X W B.pre m.pre
  test : ∀ (X : Cx) (W : WX), X.prog = P → X.w = w → X.K = K → X.mg = mg → X.base = base → Cd X W k N sc → JT X W B.test m.test
  ba : ∀ (X : Cx) (W : WX), X.prog = P → X.w = w → X.K = K → X.mg = mg → X.base = base → Cd X W k N sc → JSs X W B.ba m.ba
  ye : ∀ (X : Cx) (W : WX), X.prog = P → X.w = w → X.K = K → X.mg = mg → X.base = base → Cd X W k N sc → JE X W B.ye m.ye
  bb : ∀ (X : Cx) (W : WX), X.prog = P → X.w = w → X.K = K → X.mg = mg → X.base = base → Cd X W k N sc → JSs X W B.bb m.bb
theorem cells_nil : ∀ (names : List (Str × NameKind)) (n : Nat) (acc : List (Str × Addr)), (∀ y ∈ names, y.2 ≠ .cell) → cellsFrom n names acc = acc
  | [], _, _, _ => rfl
  | (x, k) :: r, n, acc, h => by
    have hk : (k == NameKind.cell) = false := by
      have := h (x, k) List.mem_cons_self
      cases k <;> first | rfl | exact absurd rfl this
    unfold cellsFrom
    rw [hk]
    exact cells_nil r n acc fun y hy => h y (List.mem_cons_of_mem _ hy)
theorem startD_own {n : Nat} {ds : List D} {i : Nat} {c : Own} : (startD n ds)[i]? ≠ some (some (.own c)) := by
  intro h
  unfold startD at h
  by_cases hi : i < ds.length
  · rw [List.getElem?_append_left (by simpa using hi), List.getElem?_map, List.getElem?_eq_getElem hi] at h
    cases h
  · rw [List.getElem?_append_right (by simpa using hi), List.getElem?_replicate] at h
    split at h <;> cases h
def MadeY (X : Cx) (pins : List (Addr × Obj)) (σ : L2.St) (H F : Hp) (ρ : List Addr) (N : List Str) (ds : List D) (u : Value) (s' : Shared) : Prop :=
  ∃ a g env, u = .ref a ∧ Inv X pins σ H s' ∧ (gdOf X N env).Ok ∧ Asl (gdOf X N env) a g ds false F ρ [] s' ∧ ∀ p ∈ [a, env.locals], FpOk X pins H p
section
variable {X : Cx} {W : WX} {pins : List (Addr × Obj)} {σ : L2.St} {H Z F : Hp} {ρ : List Addr} {μ : Mem} {δ : Loc} {s : Shared} {E : Value → Shared → Prop} {f : Addr} {x qual : Str} {st : Stmt} {fd : FuncData} {dV : Value} {N ps : List Str} {sc : Scope} {B : GB} {m : GM} {us : List Value} {vs : List V} {ds items : List D} {k : Nat}
theorem gj_of (J : GYB X.prog X.w X.K X.mg X.base k N sc B m) (S : GScope N ps sc) (hr : RmG (k + 2) X.A) {env : Env} (he : env.scope = sc) : GJ (gdOf X N env) B m := by
  have cd : ∀ s0 H0, Cd (slX ((gdOf X N env).X s0 H0)) W0 k N sc := fun s0 H0 => by
    have no : ∀ (u : Value) (s : Shared), ¬ (slX ((gdOf X N env).X s0 H0)).xe u s := fun u s ⟨h1, h2⟩ => h2 _ h1
    have rm : RmG k (X.A.in1.deeper env) := (RmG.in1 hr).deeper env
    exact ⟨⟨rfl, rm, fun u s' q => by obtain ⟨_, _, _, _, _, _, _, _, _, _, _, _, _, _, _, _, z⟩ := q; exact z.elim, rfl, he, S.nd⟩, fun u s h => absurd h (no u s), fun _ _ => rfl⟩
  exact ⟨fun s0 H0 => J.pre _ _ rfl rfl rfl rfl rfl (cd s0 H0), fun s0 H0 => J.test _ _ rfl rfl rfl rfl rfl (cd s0 H0), fun s0 H0 => J.ba _ _ rfl rfl rfl rfl rfl (cd s0 H0), fun s0 H0 => J.ye _ _ rfl rfl rfl rfl rfl (cd s0 H0), fun s0 H0 => J.bb _ _ rfl rfl rfl rfl rfl (cd s0 H0),
    by show env.scope.isCoroutine = false; rw [he]; exact S.co, by
      show (env.scope.kind == .module && _) = false
      rw [he, S.kind]
      rfl⟩
theorem gy_call (Fd0 : Fd X.K x qual st f fd dV) (hsc : defScope st = sc) (hbd : defBody st = B.body) (S : GScope N ps sc) (hnc : ∀ y ∈ sc.names, y.2 ≠ .cell) (J : GYB X.prog X.w X.K X.mg X.base k N sc B m) (hr : RmG (k + 2) X.A) (hb : Binds X.K fd ps [])
    (I : Inv X pins σ H s) (S0 : Sim X.K X.mg Z F ρ μ δ σ H) (rv : Vals vs us) (rd : RepL X.K X.mg F ρ vs ds) (hl : vs.length = ps.length) (hg : GS0 m items (startD N.length ds)) :
    wpAny (model X.prog X.w) X.A (call (.ref f) us) (fun u s' => MadeY X pins σ H F ρ N items u s') E s := by
  obtain ⟨oc, od, kV, doc, pm, an, cdv, ct, osl, rfl, lk, hcd⟩ := Fd0.ex
  subst hsc
  have hl2 : us.length = ps.length := by rw [← rv.length]; exact hl
  have KX : X.K.In s.heap := I.kIn
  have kinds : ∀ y ∈ ps.zip us, (defScope st).names.lookup y.1 = some .local ∨ ((defScope st).names.lookup y.1 = some .cell ∧ ((cellsFrom (s.heap.objs.size + 1) (defScope st).names []).lookup y.1).isSome = true) := by
    rintro ⟨n, v⟩ hy
    rcases S.par n (List.of_mem_zip hy).1 with q | q
    · exact Or.inl q
    · exact absurd rfl (hnc _ (PySem.mem_of_lookup q))
  have hbT := hb s us KX (by rw [List.append_nil]; exact hl2)
  rw [List.append_nil] at hbT
  refine wpAny_call (codeAny_mono (codeAny_call_generator (R := fun r s' => match r with | .ok (.ret u) => MadeY X pins σ H F ρ N items u s' | _ => False) hr.r.depth (KX _ _ lk) rfl S.co S.gen rfl (PySem.W.codeRec_of KX hcd) (hbT _ _ _ _ ?_)) fun r s' hq => ?_)
  · refine wpAny_newFunctionEnv_cells S.kind kinds fun env he s1 xx => ?_
    subst he
    have kp1 : ∀ b o, s.heap.get? b = some o → s1.heap.get? b = some o := xx.toInCall.keep
    refine ⟨I.nolimit.keeps kp1, ?_⟩
    obtain ⟨h1, tk, es1, hk1⟩ := xx.done
    have e0 := I.env0
    have I1 := inv_startG (E := fun _ _ _ => False) (qual := qual) (f := f) (cd := cdv) S hr.r.hd e0 hl rv xx
    have SB := (S0.enter).begin (N := N) rd
    have os1 : s1.os = s.os := by rw [es1]
    have gen1 : s1.gens = s.gens := by rw [es1]
    have lt1 : s.heap.objs.size < s1.heap.objs.size := xx.toInCall.ns.lt
    have main : ∀ (go : Obj) (nm qn : Value) (tk2 : Nat), go.cls = .type "generator" → go.data = .fields #[.int s1.gens.size 0, nm, qn] → go.slots = #[] → (∀ h : Heap, (h.push go).get? h.objs.size = some go) →
        MadeY X pins σ H F ρ N items (.ref s1.heap.objs.size) { s1 with gens := s1.gens.push (.fresh (.func (defBody st) (envOfC qual (defScope st) s.heap.objs.size f cdv))), toks := tk2, heap := s1.heap.push go } := by
      intro go nm qn tk2 hc hdat hsl hp
      have kp2 : ∀ b o, s1.heap.get? b = some o → (s1.heap.push go).get? b = some o := fun b o e => Heap.get?_push_of_some _ e
      have kp : ∀ b o, s.heap.get? b = some o → (s1.heap.push go).get? b = some o := fun b o e => kp2 b o (kp1 b o e)
      have Is : Inv X pins σ H { s1 with gens := s1.gens.push (.fresh (.func (defBody st) (envOfC qual (defScope st) s.heap.objs.size f cdv))), toks := tk2, heap := s1.heap.push go } :=
        I.call' (ch := []) os1 (Un.kept kp) (I.hok.kept kp) (AllBare.push (by rw [gen1]; exact I.bare) rfl) fun b z => by simp at z
      have ok : (gdOf X N (envOfC qual (defScope st) s.heap.objs.size f cdv)).Ok := by
        refine ⟨S.kind, rfl, rfl, fun y c e => ?_, fun y => ⟨fun e => ?_, fun e => ?_⟩, rfl, Nat.le_trans I.ok.bsz I.sz, fun b hb => ?_, hr.r.hd⟩
        · have e1 : (cellsFrom (s.heap.objs.size + 1) (defScope st).names []).lookup y = some c := e
          rw [cells_nil _ _ _ hnc] at e1
          cases e1
        · exact hnc _ (PySem.mem_of_lookup (show (defScope st).names.lookup y = some .cell from e)) rfl
        · exact S.nofree _ (PySem.mem_of_lookup (show (defScope st).names.lookup y = some .free from e)) rfl
        · obtain ⟨_, o, ho, _⟩ := I.stack.mem hb
          exact Heap.lt_size ho
      refine ⟨s1.heap.objs.size, s1.gens.size, _, rfl, Is, ok, ⟨⟨go, nm, qn, hp _, hc, hdat, hsl⟩, fun z => ?_, .fresh (.func (defBody st) (envOfC qual (defScope st) s.heap.objs.size f cdv)), startD N.length ds, L2.start N vs, fun _ => none, Array.getElem?_push_size .., ⟨SB.len, I1.len, fun i d e => ?_, fun i o e => absurd e startD_own, fun i j p t t' e => absurd e startD_own, fun p ws e => (by cases e), fun p hp => (by simp at hp), ?_⟩, ?_, fun z => (by cases z)⟩, fun p hp => ?_⟩
      · rcases List.mem_cons.mp z with z | z
        · exact absurd z (Nat.ne_of_gt lt1)
        · simp at z
      · obtain ⟨v, e1, r⟩ := SB.slot i _ e
        exact ⟨v, e1, r⟩
      · obtain ⟨mm, hn, q⟩ := I1.loc
        refine ⟨mm, hn.at' fun o e => kp2 _ o e, fun i y v e1 e2 e3 => ?_⟩
        obtain ⟨u, r, z⟩ := q i y v e1 e2 e3
        exact ⟨u, r, look_to ok z⟩
      · show Prom _ items ((model X.prog X.w).den (.func (defBody st) _)) (.func (defBody st) _) [] _
        rw [hbd]
        exact prom_start ok (gj_of J S hr rfl) hg
      · rcases List.mem_cons.mp hp with z | hp
        · rw [z]
          exact I.fpOk (Nat.le_of_lt lt1) (I.hok.fresh (Nat.le_of_lt lt1))
        · rcases List.mem_cons.mp hp with z | hp
          · rw [z]
            exact I.fpOk (Nat.le_refl _) (I.hok.fresh (Nat.le_refl _))
          · simp at hp
    exact main _ _ _ _ rfl rfl rfl fun h => Heap.get?_push_size _ rfl
  · cases r with
    | error e => exact hq.elim
    | ok fl =>
      cases fl with
      | ret u => exact hq
      | next => exact hq.elim
      | brk => exact hq.elim
      | cont => exact hq.elim
end
def JIY (X : Cx) (W : WX) (e : Expr) (mi : MM (List D)) : Prop :=
  ∀ (pins : List (Addr × Obj)) (s : Shared) (σ : L2.St) (H Z F : Hp) (ρ : List Addr) (μ : Mem) (δ : Loc) (R : List D → Loc → Mem → Hp → List Addr → Hp → Prop), Inv X pins σ H s → Sim X.K X.mg Z F ρ μ δ σ H → FinE X W Z F ρ σ R (mi δ μ) →
    wpAny (model X.prog X.w) X.A (eval e X.env) (fun u s1 => ∃ ds δ1 μ1 H1 F1 ρ1 N, Sim X.K X.mg Z F1 ρ1 μ1 δ1 σ H1 ∧ Le Z F F1 ∧ LeR Z ρ ρ1 ∧ R ds δ1 μ1 F1 ρ1 H1 ∧ MadeY X pins σ H1 F1 ρ1 N ds u s1) X.xe s
def GenY (P : Program) (w : World) (K : PySem.W.Frag) (mg : Str → Option Value) (base : Heap) (k : Nat) (gt : String → String → Option (GM × Nat)) : Prop :=
  ∀ c f m n, gt c f = some (m, n) → ∀ C, mg (Str.ofString c) = some (.ref C) → Cls K C ∧ ∃ (g : Addr) (x qual : Str) (st : Stmt) (fd : FuncData) (dV : Value) (N : List Str) (nm : Str) (sc : Scope) (B : GB),
    Meth K C (Str.ofString f) g ∧ Fd K x qual st g fd dV ∧ defScope st = sc ∧ defBody st = B.body ∧ GScope N [nm] sc ∧ (∀ y ∈ sc.names, y.2 ≠ .cell) ∧ GYB P w K mg base k N sc B m ∧ Binds K fd [nm] [] ∧ N.length = n
open Classical in
noncomputable def mItY (gt : String → String → Option (GM × Nat)) (f : String) (o : Opn) : MM (List D) := fun δ μ => (o.ev δ μ).bind fun r δ1 μ1 => match r.self δ1 with
  | some d => (match insOf μ1 d with
    | some (c, ks, vs) => if getF ks vs f = none then (match gt c f with
      | some (m, n) => if h : ∃ ds, GS0 m ds (startD n [d]) then .ok (Classical.choose h) δ1 μ1 else .bad
      | none => .bad) else .bad
    | none => .bad)
  | none => .bad
section
variable {X : Cx} {W : WX} {k : Nat} {o : Expr} {pos p apos pos' : Pos} {N : List Str} {sc : Scope}
theorem jiy_meth {gt : String → String → Option (GM × Nat)} {f : String} {oo : Opn} {pl : Sem Bool} (hr : RmG (k + 2) X.A) (P : GenY X.prog X.w X.K X.mg X.base k gt) (ho : JO X W o oo)
    (ht : eval (.Call (.Attribute o (Str.ofString f) apos) [] [] pos') X.env = (do
      let ov ← eval o X.env
      standAt apos.atName
      let (f, first) ← holding [ov] (getMethod ov (Str.ofString f) pl)
      callWith pos' f first (backTo pos' (starEach [] X.env)) (backToKw pos' (keywordEach [] X.env))) := by rfl) : JIY X W (.Call (.Attribute o (Str.ofString f) apos) [] [] pos') (mItY gt f oo) := by
  intro pins s σ H Z F ρ μ δ R I S q
  refine PySem.W.methodCall_KW (pl := pl) (thn (ho.run pins s σ H (fun x H1 => ∃ r δ1 μ1 F1 ρ1, Sim X.K X.mg Z F1 ρ1 μ1 δ1 σ H1 ∧ Le Z F F1 ∧ LeR Z ρ ρ1 ∧ OrR X.K X.mg F1 ρ1 σ x r ∧ FinE X W Z F1 ρ1 σ R (match r.self δ1 with
      | some d => (match insOf μ1 d with
        | some (c, ks, vs) => if getF ks vs f = none then (match gt c f with
          | some (m, n) => (open Classical in if h : ∃ ds, GS0 m ds (startD n [d]) then .ok (Classical.choose h) δ1 μ1 else .bad)
          | none => .bad) else .bad
        | none => .bad)
      | none => .bad)) I ⟨Z, F, ρ, μ, δ, S, (FinE.bind q).imp fun r δ1 μ1 H1 F1 ρ1 l lr S1 z v hv => ⟨r, δ1, μ1, F1, ρ1, S1, l, lr, hv, z.2.2.2⟩⟩) ?_) ht
  rintro u s1 ⟨x, H1, I1, rx, r, δ1, μ1, F1, ρ1, S1, l, lr, hv, z⟩
  cases e1 : r.self δ1 with
  | none => simp only [e1] at z; exact z.elim
  | some d =>
    simp only [e1] at z
    cases e2 : insOf μ1 d with
    | none => simp only [e2] at z; exact z.elim
    | some t =>
      obtain ⟨c, ks, ds⟩ := t
      simp only [e2] at z
      by_cases e0 : getF ks ds f = none
      · rw [if_pos e0] at z
        cases e3 : gt c f with
        | none => simp only [e3] at z; exact z.elim
        | some mn =>
          obtain ⟨m, n⟩ := mn
          simp only [e3] at z
          by_cases h : ∃ its, GS0 m its (startD n [d])
          · rw [dif_pos h] at z
            have rep := OR.self_rep S1 hv e1
            obtain ⟨a, C, dx, vs, rfl, hc, hH, nl, rl⟩ := ins_at S1 rep e2
            obtain ⟨cl, g, x, qual, st, fd, dV, N, nm, sc, B, hm, hF, hsc, hbd, hS, hnc, J, hb, hn⟩ := P c f m n e3 C hc
            cases (show u = Value.ref a from rx)
            refine getmeth_ok I1 hH cl hm (getF_none rl nl e0) (PySem.W.callWith_K0 (first := [.ref a]) I1.kIn hm.kp ?_)
            subst hn
            refine wpAny_mono (gy_call (E := X.xe) hF hsc hbd hS hnc J hr hb I1 S1 (vs := [.ref a]) (us := [.ref a]) (ds := [d]) (.cons rfl .nil) (.cons rep .nil) rfl (Classical.choose_spec h)) (fun u s' hq => ?_) fun _ _ q => q
            exact ⟨_, δ1, μ1, H1, F1, ρ1, N, S1, l, lr, z H1 F1 ρ1 .refl .refl S1, hq⟩
          · rw [dif_neg h] at z; exact z.elim
      · rw [if_neg e0] at z; exact z.elim
end
end FL
namespace FL
open PySem PySem.Spec PyProof.Rows L2
def lcDY (nb : Nat) (f : TgF) (tests : MT) (elt : ME) (vs : List Nat) : List D → List D → ME
  | [], acc => fun δ μ => if tabLow nb μ = true then .ok (.own (.lst acc)) δ μ else .bad
  | d :: ds, acc => fun δ μ => if tabLow nb μ = true then (match f d δ with
    | none => .bad
    | some δ' => (tests δ' μ).cut.bind fun b δ2 μ2 => if b = true then (elt δ2 μ2).cut.bind fun s δ3 μ3 => if acc.length < 16777216 then lcDY nb f tests elt vs ds (acc ++ [s.d]) (wipeD δ3 vs) μ3 else .bad
      else lcDY nb f tests elt vs ds acc (wipeD δ2 vs) μ2) else .bad
def mLcY (nb : Nat) (mi : MM (List D)) (f : TgF) (tests : MT) (elt : ME) (vs : List Nat) : ME := fun δ μ => (mi δ μ).bind fun ds δ1 μ1 => lcDY nb f tests elt vs ds [] (wipeD δ1 vs) μ1
theorem wipeD_own {δ : Loc} {i : Nat} {s : Slot} : ∀ {vs : List Nat}, (wipeD δ vs)[i]? = some (some s) → δ[i]? = some (some s)
  | [], h => h
  | v :: vs, h => by
    have hn := wipeD_in h
    unfold wipeD at h
    rw [List.getElem?_set_ne (fun z => hn (by simp [z]))] at h
    exact wipeD_own h
theorem sl_no {B : Cx} (hx : ∀ u s, ¬ B.xe u s) {M : Model} {A : Around} {α : Type} {t : Sem α} {Q : α → Shared → Prop} {E : Value → Shared → Prop} {s : Shared} (h : wpAny M A t Q B.xe (wG s (s.gens.map poi))) :
    wpAny M A t (fun x s2 => ∃ s' b, s2 = wG s' b ∧ (AllBare s'.gens → AllBare b) ∧ Slp s.gens b ∧ Q x s') E s := by
  refine wpAny_mono (wpAny_sleep h) (fun x s2 hq => ?_) fun x s2 hq => ?_
  · obtain ⟨s', b, e, r, k, q⟩ := hq
    exact ⟨s', b, e, rel_bare r, k, q⟩
  · obtain ⟨s', b, e, r, k, q⟩ := hq
    exact absurd q (hx _ _)
section
variable {B : Cx} {pins : List (Addr × Obj)} {σ : L2.St} {H : Hp} {s : Shared} {E : Value → Shared → Prop}
theorem inv_poi (I : Inv B pins σ H s) : Inv B pins σ H (wG s (s.gens.map poi)) := inv_wG I (poi_bare I.bare)
theorem pg_sl (hx : ∀ u s, ¬ B.xe u s) {e : Expr} {t : TG} (h : PG B e t) {x : V} {u : Value} {Q : L2.St → Hp → Prop} (I : Inv B pins σ H s) (r : RelV x u) (ht : t x σ H Q) :
    wpAny (model B.prog B.w) B.A (assign e B.env u) (fun _ s' => (∃ σ' H', Inv B pins σ' H' s' ∧ Q σ' H') ∧ Slp s.gens s'.gens) E s := by
  refine wpAny_mono (sl_no (E := E) hx (h.run pins _ σ H x u Q (inv_poi I) r ht)) (fun v s2 hv => ?_) fun _ _ z => z
  obtain ⟨s', b, rfl, hb, k, σ', H', J, q⟩ := hv
  exact ⟨⟨σ', H', inv_wG J (hb J.bare), q⟩, k⟩
theorem pts_sl (hx : ∀ u s, ¬ B.xe u s) {e : List Expr} {t : TT} (h : PTs B e t) {Q : Bool → Hp → Prop} (I : Inv B pins σ H s) (ht : t σ H Q) :
    wpAny (model B.prog B.w) B.A (forIn e true fun c r => if r = true then do let ok ← isTrue c B.env (eval c B.env); pure (ForInStep.yield ok) else pure (ForInStep.yield r)) (fun b s' => (∃ H', Inv B pins σ H' s' ∧ Q b H') ∧ Slp s.gens s'.gens) E s := by
  refine wpAny_mono (sl_no (E := E) hx (h.run pins _ σ H Q (inv_poi I) ht)) (fun v s2 hv => ?_) fun _ _ z => z
  obtain ⟨s', b, rfl, hb, k, H', J, q⟩ := hv
  exact ⟨⟨H', inv_wG J (hb J.bare), q⟩, k⟩
theorem pe_sl (hx : ∀ u s, ¬ B.xe u s) {e : Expr} {t : TE} (h : PE B e t) {Q : VK} (I : Inv B pins σ H s) (ht : t σ H Q) :
    wpAny (model B.prog B.w) B.A (eval e B.env) (fun v s' => (∃ x H', Inv B pins σ H' s' ∧ RelV x v ∧ Q x H') ∧ Slp s.gens s'.gens) E s := by
  refine wpAny_mono (sl_no (E := E) hx (h.run pins _ σ H Q (inv_poi I) ht)) (fun v s2 hv => ?_) fun _ _ z => z
  obtain ⟨s', b, rfl, hb, k, x, H', J, r, q⟩ := hv
  exact ⟨⟨x, H', inv_wG J (hb J.bare), r, q⟩, k⟩
theorem app_sl {D : Addr} {xs : List V} {y : V} {v : Value} {Q : Value → Shared → Prop} (I : Inv B pins σ H s) (hD : H D = some (.lst xs)) (hz : xs.length < sizeLine) (r : RelV y v)
    (h : ∀ h', Inv B pins σ (upd H D (.lst (xs ++ [y]))) { s with heap := h' } → Q .none { s with heap := h' }) : wpAny (model B.prog B.w) B.A (call (.builtin "list.append") [.ref D, v]) Q E s := by
  obtain ⟨_, its, n, ri, e⟩ := I.hok D _ hD
  have hl := ri.length
  refine append_at (hsz := (by rw [List.size_toArray]; omega)) e fun h1 sb ho => h h1 ?_
  refine I.write (t' := s.toks) (by rw [hD]; trivial) (.inl rfl) (fun b u hb q => (sb.2 b hb).trans q) ⟨_, ho⟩ ⟨?_, its ++ [v], n + 1, ri.append (.cons r .nil), ?_⟩
  · rw [List.length_append]
    exact hz
  · rw [ho]
    simp
theorem Asl.obj {G : GD} {a : Addr} {g : Nat} {ds : List D} {b : Bool} {F : Hp} {ρ : List Addr} {hs : List Addr} (x : Asl G a g ds b F ρ hs s) : ∀ p ∈ a :: G.env.locals :: hs, ∃ o, s.heap.get? p = some o ∧ ∀ v, o.data ≠ .cell v := by
  obtain ⟨o, nm, qn, ho, hc, hd, _⟩ := x.isg
  obtain ⟨gs, δ, σ, lk, _, pk, _⟩ := x.ex
  intro p hp
  rcases List.mem_cons.mp hp with z | hp
  · rw [z]
    exact ⟨o, ho, fun v q => by rw [hd] at q; cases q⟩
  · rcases List.mem_cons.mp hp with z | hp
    · rw [z]
      obtain ⟨m, ⟨o, es, ep, ho, hd, _⟩, _⟩ := pk.loc
      exact ⟨o, ho, fun v q => by rw [hd] at q; cases q⟩
    · obtain ⟨_, _, _, vs, hv⟩ := pk.hsk p hp
      obtain ⟨_, _, its, n, _, e⟩ := pk.lks p vs hv
      exact ⟨_, e, fun v q => by cases q⟩
theorem Inv.pinY {fp : List Addr} (I : Inv B pins σ H s) (hf : ∀ b ∈ fp, FpY B pins H b) (ho : ∀ b ∈ fp, ∃ o, s.heap.get? b = some o ∧ ∀ v, o.data ≠ .cell v) : Inv B (pins ++ pinsAt fp s.heap) σ H s := by
  refine I.pins_of fun p hp => ?_
  rcases List.mem_append.mp hp with z | z
  · exact I.pin p (List.mem_append_right _ z)
  · obtain ⟨hb, e⟩ := of_pinsAt z
    obtain ⟨f0, f1, f2, _⟩ := hf p.1 hb
    obtain ⟨o, e1, d⟩ := ho p.1 hb
    rw [e] at e1; cases e1
    exact ⟨e, f0, f1, f2, d⟩
end
def HdY (X B : Cx) (W : WX) (G : GD) (a : Addr) (g : Nat) (nb : Nat) (f : TgF) (tests : MT) (elt : ME) (vs : List Nat) (σ : L2.St) (Z : Hp) (Dl : Addr) (P : Slot → Loc → Mem → Hp → List Addr → Hp → Prop) (n : Nat) (s : Shared) : Prop :=
  ∃ ds δ μ H F ρ hs b vals acc, n = ds.length ∧ Inv B [] (L2.wipe σ vs) H s ∧ Sim X.K X.mg Z F ρ μ (wipeD δ vs) (L2.wipe σ vs) H ∧ Free Z F ρ Dl ∧ (∀ (i : Nat) o, (wipeD δ vs)[i]? = some (some (.own o)) → (L2.wipe σ vs)[i]? ≠ some (some (.ref Dl))) ∧
    H Dl = some (.lst vals) ∧ RepL X.K X.mg F ρ vals acc ∧ Asl G a g ds b F ρ hs s ∧ (∀ p ∈ a :: G.env.locals :: hs, FpY B [] H p) ∧ FinE X W Z F ρ σ P (lcDY nb f tests elt vs ds acc (wipeD δ vs) μ)
theorem tabLow_le {n m : Nat} {μ : Mem} (h : tabLow n μ = true) (l : n ≤ m) : tabLow m μ = true := by
  refine List.all_eq_true.mpr fun o ho => ?_
  have := List.all_eq_true.mp h o ho
  cases o with
  | tab P q => exact decide_eq_true (Nat.lt_of_lt_of_le (of_decide_eq_true this) l)
  | _ => rfl
section
variable {X : Cx} {W : WX} {pos : Pos}
theorem je_lcY {elt tg iter : Expr} {ifs : List Expr} {scope : Scope} {own : List (Str × Nat)} {mi : MM (List D)} {f : TgF} {is : List Nat} {tests : MT} {m : ME} {nb : Nat} (hnb : nb ≤ X.base.objs.size) (hd : X.A.depth < recursionLimit) (hN : X.N.Nodup) (hi : JIY X W iter mi) (ok : BlkOk X.N X.env.scope scope own)
    (hg : ∀ (s : Shared) (H : Hp) (C : Addr) (cl : List (Str × Addr)) (fp : List Addr), JG (X.blk s H scope (compEnvC scope cl C X.env) fp) tg f is) (ht : ∀ (s : Shared) (H : Hp) (C : Addr) (cl : List (Str × Addr)) (fp : List Addr), JTs (X.blk s H scope (compEnvC scope cl C X.env) fp) W0 ifs tests)
    (he : ∀ (s : Shared) (H : Hp) (C : Addr) (cl : List (Str × Addr)) (fp : List Addr), JE (X.blk s H scope (compEnvC scope cl C X.env) fp) W0 elt m) (hsub : ∀ j ∈ is, j ∈ own.map (·.2)) (hs : ∀ x, foldedSetIterable iter X.env x = pure x := by intro _; rfl) :
    JE X W (.ListComp elt [⟨tg, iter, ifs, 0⟩] scope pos) (mLcY nb mi f tests m (own.map (·.2))) := by
  refine ⟨fun pins s σ H Q I h => ?_⟩
  obtain ⟨Z, F, ρ, μ, δ, S, q⟩ := h
  rw [eval_ListComp]
  have free : ∀ y ∈ scope.names, y.2 = .free → ∃ c, X.env.cells.lookup y.1 = some c := fun y hy e => (ok.free y hy e).elim (fun k => I.ok.has _ (Or.inl k)) fun k => I.ok.has _ (Or.inr k)
  refine wpAny_comprehension_free (use := none) rfl hs (closure_ok free) ok.kind (fun y hy e => by rw [ok.uniq y hy, e]) (thn (hi pins s σ H Z F ρ μ δ _ I S (FinE.bind q)) fun xv s1 hx => ?_)
  obtain ⟨ds, δ1, μ1, H2, F1, ρ1, Ng, S1, l, lr, ⟨_, _, _, qd⟩, a, g, env, rfl, I2, OK, asl, fpk⟩ := hx
  refine wpAny_pyIter_gen asl.isg ?_
  refine wpAny_newObj_type (newEnv_comp ?_) (by show 0 ≤ sizeLine; decide)
  generalize hDl : s1.heap.objs.size = Dl
  have hDn : H2 Dl = none := I2.hok.fresh (Nat.le_of_eq hDl)
  obtain ⟨n1, n2, n3, n4⟩ := S1.notIn hDn
  generalize hs3 : ({ s1 with heap := s1.heap.push { cls := .type "list", data := .seq ([] : List Value).toArray } } : Shared) = s3
  have h3 : s3.heap = s1.heap.push { cls := .type "list", data := .seq ([] : List Value).toArray } := by rw [← hs3]
  have g3 : s3.gens = s1.gens := by rw [← hs3]
  have k3 : ∀ b o, s1.heap.get? b = some o → s3.heap.get? b = some o := fun b o e => by rw [h3]; exact Heap.get?_push_of_some _ e
  have I3 : Inv X pins σ (upd H2 Dl (.lst [])) s3 := by
    rw [← hs3]
    refine I2.laid (t' := s1.toks) (fun b o e => Heap.get?_push_of_some _ e) (Nat.le_of_eq hDl) ⟨Nat.zero_le _, [], 0, .nil, ?_⟩
    rw [← hDl]
    exact Heap.get?_push_size _ rfl
  have f3 : ∀ b ∈ [a, env.locals], FpOk X pins (upd H2 Dl (.lst [])) b ∧ b < s3.heap.objs.size := fun b hb => by
    obtain ⟨o, ho, _⟩ := asl.obj b hb
    have hlt := Heap.lt_size ho
    refine ⟨⟨?_, (fpk b hb).2⟩, by rw [h3, Heap.size_push]; exact Nat.lt_succ_of_lt hlt⟩
    rw [upd_ne (by rw [← hDl]; exact Nat.ne_of_lt hlt)]
    exact (fpk b hb).1
  have I4 := block_start I3 ok hN f3
  have pg := hg s3 (upd H2 Dl (.lst [])) s3.heap.objs.size (cellsFrom (s3.heap.objs.size + 1) scope.names (cloFrom X.env.cells scope.names [])) [a, env.locals]
  have pt := ht s3 (upd H2 Dl (.lst [])) s3.heap.objs.size (cellsFrom (s3.heap.objs.size + 1) scope.names (cloFrom X.env.cells scope.names [])) [a, env.locals]
  have pe := he s3 (upd H2 Dl (.lst [])) s3.heap.objs.size (cellsFrom (s3.heap.objs.size + 1) scope.names (cloFrom X.env.cells scope.names [])) [a, env.locals]
  show codeAny _ _ (.compStart (.ListComp elt [⟨tg, iter, ifs, 0⟩] scope pos) 0 (.ref a) (.ref Dl) (compEnvC scope (cellsFrom (s3.heap.objs.size + 1) scope.names (cloFrom X.env.cells scope.names [])) s3.heap.objs.size X.env)) (compPost (model X.prog X.w) X.A X.xe none (EP X pins σ Q) (.ref Dl) s3.heap.objs.size) { s3 with heap := pushCells (s3.heap.push { cls := .type "dict", data := .dict #[] }) scope.names }
  generalize hce : compEnvC scope (cellsFrom (s3.heap.objs.size + 1) scope.names (cloFrom X.env.cells scope.names [])) s3.heap.objs.size X.env = ce at I4 pg pt pe ⊢
  have cL : ce.locals = s3.heap.objs.size := by subst hce; rfl
  have k4 : ∀ b o, s3.heap.get? b = some o → (pushCells (s3.heap.push { cls := .type "dict", data := .dict #[] }) scope.names).get? b = some o := fun b o e => pushCells_keeps _ _ _ _ (Heap.get?_push_of_some _ e)
  generalize hs4 : ({ s3 with heap := pushCells (s3.heap.push { cls := .type "dict", data := .dict #[] }) scope.names } : Shared) = s4 at I4 ⊢
  have k4' : ∀ b o, s3.heap.get? b = some o → s4.heap.get? b = some o := fun b o e => by rw [← hs4]; exact k4 b o e
  have g4 : s4.gens = s1.gens := by rw [← hs4]; exact g3
  generalize hB : X.blk s3 (upd H2 Dl (.lst [])) scope ce [a, env.locals] = Bx at I4 pg pt pe
  have hxe : ∀ u s, ¬ Bx.xe u s := fun u s => by rw [← hB]; exact id
  have bP : Bx.prog = X.prog := by rw [← hB]
  have bw : Bx.w = X.w := by rw [← hB]
  have bK : Bx.K = X.K := by rw [← hB]
  have bm : Bx.mg = X.mg := by rw [← hB]
  have bA : Bx.A = X.A := by rw [← hB]
  have bE : Bx.env = ce := by rw [← hB]
  have bB : Bx.base = X.base := by rw [← hB]
  have bG : gdOf Bx Ng env = gdOf X Ng env := by rw [← hB]; rfl
  let P : Slot → Loc → Mem → Hp → List Addr → Hp → Prop := fun s δ' _ F' ρ' H' => ∀ v, VR X.K X.mg Z F' ρ' δ' σ H' v s → Q v H'
  have wout : ∀ {δ : Loc} {t : Slot} (i : Nat), (wipeD δ (own.map (·.2)))[i]? = some (some t) → (L2.wipe σ (own.map (·.2)))[i]? = σ[i]? := fun i h => wipe_out (wipeD_in h)
  have Sw := (S1.laid (o := .lst []) hDn).wipe (own.map (·.2))
  have asl4 : Asl (gdOf X Ng env) a g ds false F1 ρ1 [] s4 := asl.stay OK (fun _ _ h => h) (fun _ _ h => h) (fun p _ o e => k4' p o (k3 p o e)) fun gs e _ => by rw [g4]; exact e
  have notOwn : ∀ {δ : Loc} {σ' : L2.St} {H' F' Z' : Hp} {ρ' : List Addr} {μ' : Mem}, Sim X.K X.mg Z' F' ρ' μ' δ σ' H' → L2.wipe σ' (own.map (·.2)) = L2.wipe σ (own.map (·.2)) → (∀ (i : Nat) o, δ[i]? = some (some (.own o)) → σ'[i]? ≠ some (some (.ref Dl))) →
      ∀ (i : Nat) o, (wipeD δ (own.map (·.2)))[i]? = some (some (.own o)) → (L2.wipe σ (own.map (·.2)))[i]? ≠ some (some (.ref Dl)) := fun {δ σ' H' F' Z' ρ' μ'} SS hw hn i o e1 e2 => by
    rw [← hw] at e2
    have e4 : (L2.wipe σ' (own.map (·.2)))[i]? = σ'[i]? := wipe_out (wipeD_in e1)
    rw [e2] at e4
    exact hn i o (wipeD_own e1) e4.symm
  have fp4 : ∀ p ∈ a :: (gdOf X Ng env).env.locals :: [], FpY Bx [] (upd H2 Dl (.lst [])) p := fun p hp => by
    obtain ⟨⟨q0, q1, q2, q3, q4, q5⟩, q6⟩ := f3 p hp
    have pin : p ∈ Bx.ex := by rw [← hB]; exact hp
    exact ⟨q0, (I4.ok.exf p pin).1, I4.ok.exfs p pin, .inl pin, (I4.ok.exf p pin).2, fun r hr => by
      rw [← hB] at hr
      exact absurd (show r ∈ ([] : List (Addr × Obj)) ++ [] from hr) (by simp)⟩
  have start : HdY X Bx W (gdOf X Ng env) a g nb f tests m (own.map (·.2)) σ Z Dl P ds.length s4 :=
    ⟨ds, δ1, μ1, _, F1, ρ1, [], false, [], [], rfl, I4, Sw, ⟨n1, n2, n3⟩, notOwn (S1.laid (o := .lst []) hDn) rfl n4, upd_same, .nil, asl4, fp4, qd⟩
  have loop : codeAny (model X.prog X.w) X.A (.compLoop (.ListComp elt [⟨tg, iter, ifs, 0⟩] scope pos) 0 (.ref a) (.ref Dl) ce) (compPost (model X.prog X.w) X.A X.xe none (EP X pins σ Q) (.ref Dl) s3.heap.objs.size) s4 := by
    refine compLoop_any (HdY X Bx W (gdOf X Ng env) a g nb f tests m (own.map (·.2)) σ Z Dl P) ?_ ds.length start
    rintro n s5 ⟨ds, δ5, μ5, H5, F5, ρ5, hs5, b5, vals, acc, rfl, I5, S5, fD, nD, hL, rL, x5, fp5, q5⟩
    have tb : tabLow nb μ5 = true := by
      cases ds with
      | nil =>
        unfold lcDY at q5
        by_cases ht : tabLow nb μ5 = true
        · exact ht
        · rw [if_neg ht] at q5; exact q5.elim
      | cons d ds =>
        unfold lcDY at q5
        by_cases ht : tabLow nb μ5 = true
        · exact ht
        · rw [if_neg ht] at q5; exact q5.elim
    have SG := S5.guard hL fD nD
    have nx : ∀ E, wpAny (model X.prog X.w) X.A (pyNext (.ref a)) (NextP Bx (gdOf X Ng env) a g [] (L2.wipe σ (own.map (·.2))) (upd Z Dl (.lst vals)) F5 ρ5 μ5 (wipeD δ5 (own.map (·.2))) s5.gens ds) E s5 := fun E => by
      have := next_asl (B := Bx) (N := Ng) (env := env) (E := E) (by rw [bG]; exact OK) (by rw [bA]; exact hd) I5 (by rw [bK, bm]; exact SG) (by rw [bG]; exact x5) fp5 (by rw [bB]; exact tabLow_le tb hnb)
      rw [bG, bP, bw, bA] at this
      exact this
    cases ds with
    | nil =>
      refine wpAny_mono (nx _) (fun r s6 hr => ?_) fun _ _ z => z
      obtain ⟨rfl, H6, F6, ρ6, I6, S6, l6, lr6⟩ := hr
      rw [bK, bm] at S6
      -- back in the def's own context
      subst hB
      have I7 : Inv X pins σ H6 s6 := inv_ran I3 (ch := [a, env.locals]) (fun b hb => by
        obtain ⟨_, q1, _, q3, q4, q5⟩ := FpY.of (f3 b hb).1
        exact ⟨q3, q1, q4, q5⟩) I6.os I6.base I6.hok I6.bare
      have nC : H6 s3.heap.objs.size = none := by
        have z : H6 ce.locals = none := I6.free
        rw [cL] at z
        exact z
      obtain ⟨mm, hn, _⟩ := I6.loc
      have hn : s6.heap.Ns ce.locals mm := hn
      rw [cL] at hn
      obtain ⟨f0, f1, f2, f3', f4, f5⟩ := I3.fpOk (Nat.le_refl _) nC
      refine ⟨mm, hn, fun h'' sb => ⟨.ref Dl, H6, I7.turned (t' := s6.toks) (fun b o hb e => (sb.2 b hb).trans e) f0 f1 f3' f4 f5, rfl, ?_⟩⟩
      unfold lcDY at q5
      rw [if_pos tb] at q5
      have fD6 : Free Z F6 ρ6 Dl := fD.on l6 lr6
      have S7 := S6.unguard fD.z
      have S8 : Sim X.K X.mg Z F6 ρ6 μ5 (wipeD δ5 (own.map (·.2))) σ H6 := S7.agree (wipe_length _ _).symm fun i s e => (wout i e).symm
      exact q5 H6 F6 ρ6 l6.unguard lr6.unguard S8 (.ref Dl) ⟨⟨Dl, rfl, fD6, vals, S6.guarded, rL.up l6.to lr6.to⟩, fun o p z1 z2 i o' e1 e2 => by
        cases z2
        exact nD i o' e1 (by rw [wout i e1]; exact e2)⟩
    | cons d ds =>
      refine wpAny_mono (nx _) (fun r s6 hr => ?_) fun _ _ z => z
      obtain ⟨u, x, H6, F6, ρ6, hs6, rfl, rx, rp, I6, S6, l6, lr6, x6, fp6, _⟩ := hr
      rw [bK, bm] at S6 rp
      obtain ⟨oa, nm, qn, hoa, hca, hda, _⟩ := x6.isg
      refine go_of hoa hca hda (by decide) ?_
      have I6' := FL.Inv.pinY I6 fp6 x6.obj
      unfold lcDY at q5
      rw [if_pos tb] at q5
      cases ef : f d (wipeD δ5 (own.map (·.2))) with
      | none => simp only [ef] at q5; exact q5.elim
      | some δ6 =>
        simp only [ef] at q5
        rw [← bP, ← bw, ← bA, ← bE]
        refine wpAny_mono (pg_sl hxe pg I6' rx (Q := fun σ7 H7 => L2.wipe σ7 (own.map (·.2)) = L2.wipe σ (own.map (·.2)) ∧ H7 = H6 ∧ Sim X.K X.mg (upd Z Dl (.lst vals)) F6 ρ6 μ5 δ6 σ7 H6) ⟨_, F6, ρ6, μ5, _, d, by rw [bK, bm]; exact S6, by rw [bK, bm]; exact rp, δ6, ef, fun σ7 hσ hl7 S7 => ⟨?_, rfl, by rw [bK, bm] at S7; exact S7⟩⟩) (fun _ s7 h7 => ?_) fun _ _ z => z
        · have e1 := wipe_same (σ := L2.wipe σ (own.map (·.2))) (σ' := σ7) hl7 (vs := own.map (·.2)) fun j hj => hσ j fun z => hj (hsub j z)
          rw [e1]
          exact wipe_same (wipe_length _ _) fun j hj => wipe_out hj
        obtain ⟨⟨σ7, H7, I7, hw7, rfl, S7⟩, sl7⟩ := h7
        -- the turn's end
        have fin : ∀ {F8 : Hp} {ρ8 : List Addr} {μ8 : Mem} {δ8 : Loc} {H8 H9 : Hp} {vals' : List V} {acc' : List D} {s9 : Shared}, Inv Bx ([] ++ pinsAt (a :: (gdOf X Ng env).env.locals :: hs6) s6.heap) σ7 H9 s9 → Slp s6.gens s9.gens → Sim X.K X.mg (upd Z Dl (.lst vals)) F8 ρ8 μ8 δ8 σ7 H8 → Le (upd Z Dl (.lst vals)) F6 F8 → LeR (upd Z Dl (.lst vals)) ρ6 ρ8 →
            (∀ b, b ≠ Dl → H9 b = H8 b) → H9 Dl = some (.lst vals') → RepL X.K X.mg F8 ρ8 vals' acc' → FinE X W Z F8 ρ8 σ P (lcDY nb f tests m (own.map (·.2)) ds acc' (wipeD δ8 (own.map (·.2))) μ8) → ∃ k, k < (d :: ds).length ∧ HdY X Bx W (gdOf X Ng env) a g nb f tests m (own.map (·.2)) σ Z Dl P k s9 := by
          intro F8 ρ8 μ8 δ8 H8 H9 vals' acc' s9 I9 sl9 S8 l8 lr8 hne hD9 rL' q8
          have fD8 : Free Z F8 ρ8 Dl := (fD.on l6 lr6).on l8 lr8
          have S9 := (S8.unguard fD.z).heap hne fD8.f fD8.z fD8.r S8.guardNo
          have S10 := S9.wipe (own.map (·.2))
          rw [hw7] at S10
          have pin' : ∀ p ∈ a :: (gdOf X Ng env).env.locals :: hs6, ∀ o, s6.heap.get? p = some o → s9.heap.get? p = some o ∧ H9 p = none := fun p hp o e =>
            let z := I9.pin (p, o) (List.mem_append_right _ (List.mem_append_right _ (mem_pinsAt hp e)))
            ⟨z.1, z.2.1⟩
          have hl : (L2.wipe σ (own.map (·.2))).length = σ7.length := by rw [← hw7, wipe_length]
          refine ⟨ds.length, Nat.lt_succ_self _, ds, δ8, μ8, H9, F8, ρ8, hs6, true, vals', acc', rfl, (I9.unpinned (pins := [])).weak hl (fun j v e => ?_), S10, fD8, notOwn S8 hw7 S8.guardNo, hD9, rL', x6.slept OK l8.to lr8.to (fun p hp o e => (pin' p hp o e).1) sl9, fun p hp => ?_, q8⟩
          · rw [← hw7] at e
            exact (wipe_some e).1
          · obtain ⟨o, e, _⟩ := x6.obj p hp
            exact ⟨(pin' p hp o e).2, (fp6 p hp).2⟩
        refine wpAny_mono (pts_sl hxe pt I7 (Q := fun b H8 => ∃ δ8 μ8 F8 ρ8, Sim X.K X.mg (upd Z Dl (.lst vals)) F8 ρ8 μ8 δ8 σ7 H8 ∧ Le (upd Z Dl (.lst vals)) F6 F8 ∧ LeR (upd Z Dl (.lst vals)) ρ6 ρ8 ∧ FinE X W Z F8 ρ8 σ P (if b = true then (m δ8 μ8).cut.bind fun s δ3 μ3 => if acc.length < 16777216 then lcDY nb f tests m (own.map (·.2)) ds (acc ++ [s.d]) (wipeD δ3 (own.map (·.2))) μ3 else .bad
            else lcDY nb f tests m (own.map (·.2)) ds acc (wipeD δ8 (own.map (·.2))) μ8)) ⟨_, F6, ρ6, μ5, δ6, by rw [bK, bm]; exact S7, ?_⟩) (fun b s8 h8 => ?_) fun _ _ z => z
        · refine (FinE.cut (Y := Bx) (p := Dl) (o := .lst vals) (σ' := σ7) bK bm (q5.mono l6.unguard lr6.unguard)).imp fun b δ8 μ8 H8 F8 ρ8 l8 lr8 _ ⟨S8, l8', lr8', q8⟩ => ⟨δ8, μ8, F8, ρ8, S8, l8', lr8', q8⟩
        obtain ⟨⟨H8, I8, δ8, μ8, F8, ρ8, S8, l8, lr8, q8⟩, sl8⟩ := h8
        cases b with
        | false =>
          simp only [Bool.false_eq_true, if_false] at q8 ⊢
          exact fin I8 (sl7.trans sl8) S8 l8 lr8 (fun _ _ => rfl) S8.guarded (rL.up (fun p o h => l8.to p o (l6.to p o h)) fun k p h => lr8.to k p (lr6.to k p h)) q8
        | true =>
          simp only [if_true] at q8 ⊢
          refine wpAny_mono (pe_sl hxe pe I8 (Q := fun v H9 => ∃ t δ9 μ9 F9 ρ9, Sim X.K X.mg (upd Z Dl (.lst vals)) F9 ρ9 μ9 δ9 σ7 H9 ∧ Le (upd Z Dl (.lst vals)) F8 F9 ∧ LeR (upd Z Dl (.lst vals)) ρ8 ρ9 ∧ VR X.K X.mg (upd Z Dl (.lst vals)) F9 ρ9 δ9 σ7 H9 v t ∧ FinE X W Z F9 ρ9 σ P (if acc.length < 16777216 then lcDY nb f tests m (own.map (·.2)) ds (acc ++ [t.d]) (wipeD δ9 (own.map (·.2))) μ9 else .bad)) ⟨_, F8, ρ8, μ8, δ8, by rw [bK, bm]; exact S8, ?_⟩) (fun v s9 h9 => ?_) fun _ _ z => z
          · refine (FinE.cut (Y := Bx) (p := Dl) (o := .lst vals) (σ' := σ7) bK bm q8).imp fun t δ9 μ9 H9 F9 ρ9 l9 lr9 _ ⟨S9, l9', lr9', q9⟩ v vr => ⟨t, δ9, μ9, F9, ρ9, S9, l9', lr9', by rw [bK, bm] at vr; exact vr, q9⟩
          obtain ⟨⟨y, H9, I9, ry, t, δ9, μ9, F9, ρ9, S9, l9, lr9, vr, q9⟩, sl9⟩ := h9
          obtain ⟨Fa, la, Sa, ra⟩ := S9.lock vr
          by_cases hz : acc.length < 16777216
          · rw [if_pos hz] at q9
            have rLa := rL.up (fun p o h => la.to p o (l9.to p o (l8.to p o (l6.to p o h)))) fun k p h => lr9.to k p (lr8.to k p (lr6.to k p h))
            refine app_sl I9 Sa.guarded (by rw [rL.len, line_eq]; exact hz) ry fun h' Ia => ?_
            exact fin Ia ((sl7.trans sl8).trans sl9) Sa (l8.trans (l9.trans la)) (lr8.trans lr9) (fun b ne => upd_ne ne) upd_same (rLa.app (.cons ra .nil)) (q9.mono la.unguard .refl)
          · rw [if_neg hz] at q9; exact q9.elim
  exact codeAny_compStart_list loop (wpAny_pyIter_gen (asl4.isg) loop)
end
end FL
namespace FL
open PySem PySem.Spec PyProof.Rows L2
def gbOf : List Stmt → GB
  | [p, .While t [a, .Expr (.Yield (some e) yp) yq, b] [] wp] => ⟨[p], t, [a], e, yp, yq, [b], wp⟩
  | _ => ⟨[], default, [], default, default, default, [], default⟩
def genYT (cs : List String) (f : String) (m : GM) (n : Nat) : String → String → Option (GM × Nat) := fun c g => if c ∈ cs ∧ g = f then some (m, n) else none
theorem genY_of {P : Program} {w : World} {K : PySem.W.Frag} {mg : Str → Option Value} {base : Heap} {k n : Nat} {cs : List String} {b f : String} {m : GM} {fd : FuncData} {x qual : Str} {st : Stmt} {dV : Value} {N : List Str} {nm : Str} {sc : Scope} {B : GB} (M : MthB K mg cs (Str.ofString b) (Str.ofString f)) (F : Fd K x qual st (fAdF K (pM b f)) fd dV)
    (hsc : defScope st = sc) (hb : defBody st = B.body) (S : GScope N [nm] sc) (hnc : sc.names.all (fun y => y.2 != .cell) = true) (J : GYB P w K mg base k N sc B m) (hbd : Binds K fd [nm] []) (hn : N.length = n) : GenY P w K mg base k (genYT cs f m n) := by
  intro c g m' n' h C hC
  unfold genYT at h
  by_cases hc : c ∈ cs ∧ g = f
  · rw [if_pos hc] at h
    cases h
    obtain ⟨h1, rfl⟩ := hc
    obtain ⟨cl, me⟩ := M c h1 C hC
    have hn2 : ∀ y ∈ sc.names, y.2 ≠ .cell := fun y hy e => by
      have h9 := List.all_eq_true.mp hnc y hy
      rw [e] at h9
      cases h9
    exact ⟨cl, _, x, qual, st, fd, dV, N, nm, sc, B, me, F, hsc, hb, S, hn2, J, hbd, hn⟩
  · rw [if_neg hc] at h
    cases h
section
variable {X : Cx} {W : WX} {k j : Nat} {N : List Str} {sc : Scope} {o : Expr} {pos p apos pos' : Pos}
theorem Cs.itY {gt : String → String → Option (GM × Nat)} {f : String} {oo : Opn} {pl : Sem Bool} (C : Cs X W k N sc) (P : GenY X.prog X.w X.K X.mg X.base j gt) (hjk : j + 2 ≤ k) (ho : JO X W o oo)
    (ht : eval (.Call (.Attribute o (Str.ofString f) apos) [] [] pos') X.env = (do
      let ov ← eval o X.env
      standAt apos.atName
      let (f, first) ← holding [ov] (getMethod ov (Str.ofString f) pl)
      callWith pos' f first (backTo pos' (starEach [] X.env)) (backToKw pos' (keywordEach [] X.env))) := by rfl) : JIY X W (.Call (.Attribute o (Str.ofString f) apos) [] [] pos') (mItY gt f oo) := jiy_meth (pl := pl) (C.rm.mono hjk) P ho ht
theorem Cs.lcY {elt tg iter : Expr} {ifs : List Expr} {scope : Scope} {mi : MM (List D)} {f : TgF} {is : List Nat} {tests : MT} {m : ME} {Tx : Program → World → PySem.W.Frag → (Str → Option Value) → Heap → Prop} (C : Cs X W k N sc) (T : Tx X.prog X.w X.K X.mg X.base) (own : List (Str × Nat)) (nb : Nat) (hnb : nb ≤ X.base.objs.size) (hi : JIY X W iter mi) (ok : blkC N sc scope own = true)
    (hb : ∀ (Y : Cx), Tx Y.prog Y.w Y.K Y.mg Y.base → Cs Y W0 k N (relS scope sc) → JG Y tg f is ∧ JTs Y W0 ifs tests ∧ JE Y W0 elt m) (hsub : (is.all fun j => (own.map (·.2)).contains j) = true) (hs : ∀ x, foldedSetIterable iter X.env x = pure x := by intro _; rfl) :
    JE X W (.ListComp elt [⟨tg, iter, ifs, 0⟩] scope pos) (mLcY nb mi f tests m (own.map (·.2))) :=
  je_lcY hnb C.rm.r.depth (by rw [C.hN]; exact C.nd) hi (by rw [C.hN, C.hsc]; exact blkOk_by ok) (fun s H c cl fp => (hb (X.blk s H scope (compEnvC scope cl c X.env) fp) T (C.blk scope s H c cl fp)).1) (fun s H c cl fp => (hb (X.blk s H scope (compEnvC scope cl c X.env) fp) T (C.blk scope s H c cl fp)).2.1) (fun s H c cl fp => (hb (X.blk s H scope (compEnvC scope cl c X.env) fp) T (C.blk scope s H c cl fp)).2.2)
    (fun j hj => by simpa using List.all_eq_true.mp hsub j hj) hs
end
theorem mItY_ok {gt : String → String → Option (GM × Nat)} {f : String} {o : Opn} {δ δ1 : Loc} {μ μ1 : Mem} {r : OR} {d : D} {c : String} {ks : List String} {vs : List D} {m : GM} {n : Nat} {ds : List D} (h1 : o.ev δ μ = .ok r δ1 μ1) (h2 : r.self δ1 = some d) (h3 : insOf μ1 d = some (c, ks, vs)) (h4 : getF ks vs f = none) (h5 : gt c f = some (m, n)) (h6 : GS0 m ds (startD n [d])) :
    mItY gt f o δ μ = .ok ds δ1 μ1 := by
  unfold mItY
  rw [h1]
  show (match r.self δ1 with | some d => _ | none => _) = _
  rw [h2]
  simp only [h3]
  rw [if_pos h4]
  simp only [h5]
  rw [dif_pos ⟨ds, h6⟩]
  rw [GS0.one (Classical.choose_spec (⟨ds, h6⟩ : ∃ ds, GS0 m ds (startD n [d]))) h6]
end FL
namespace FL
open PySem L2
section
variable {α β : Type} {δ : FL.Loc} {μ : Mem} {o : Opn} {os : List Opn} {m : ME} {ms mks : List ME} {f c : String} {at_ : String → String → Att} {d : D} {ds vs dds : List D} {k : Nat} {ks : List String}
@[simp] theorem ec_sf1 : (OR.d d).self δ = some d := rfl
@[simp] theorem ec_sf2 {j : Nat} : (OR.i j).self δ = (match δ[j]? with | some (some (.fr x)) => some x | _ => none) := rfl
@[simp] theorem ec_in1 : insOf μ (.ins c ks vs) = some (c, ks, vs) := rfl
@[simp] theorem ec_in2 : insOf μ (.obj k) = (match μ[k]? with | some (.ins c _ ks vs) => some (c, ks, vs) | _ => none) := rfl
@[simp] theorem ec_in3 {i : Int} : insOf μ (.int i) = none := rfl
@[simp] theorem ec_in4 {x : Tx} : insOf μ (.str x) = none := rfl
@[simp] theorem ec_in5 {b : Bool} : insOf μ (.bl b) = none := rfl
@[simp] theorem ec_in6 : insOf μ .non = none := rfl
@[simp] theorem ec_in7 {xs : List D} : insOf μ (.lst xs) = none := rfl
@[simp] theorem ec_in8 {xs : List D} : insOf μ (.tup xs) = none := rfl
@[simp] theorem ec_in9 {xs : List DK} : insOf μ (.dct xs ds) = none := rfl
@[simp] theorem ec_g0 : getF [] ds f = none := by cases ds <;> rfl
@[simp] theorem ec_g1 {q : String} : getF (q :: ks) (d :: ds) f = if q = f then some d else getF ks ds f := rfl
@[simp] theorem ec_pk0 : putNm [] f = [f] := rfl
@[simp] theorem ec_pk1 {q : String} : putNm (q :: ks) f = if q = f then q :: ks else q :: putNm ks f := rfl
@[simp] theorem ec_pv0 : putVs [] ds f d = [d] := by cases ds <;> rfl
@[simp] theorem ec_pv1 {q : String} {e : D} : putVs (q :: ks) (d :: ds) f e = if q = f then e :: ds else d :: putVs ks ds f e := rfl
@[simp] theorem ec_if1 : Att.fld.isF = true := rfl
@[simp] theorem ec_if2 : (Att.con d).isF = false := rfl
@[simp] theorem ec_At : mAt at_ f o δ μ = (o.ev δ μ).bind fun r δ1 μ1 => match (r.self δ1).bind (insOf μ1) with
  | some (c, ks, ds) => (match at_ c f with
    | .fld => lift ((getF ks ds f).map .fr) δ1 μ1
    | .con d => if getF ks ds f = none then .ok (.fr d) δ1 μ1 else .bad
    | .no => .bad)
  | none => .bad := rfl
@[simp] theorem ec_StF : mStF at_ f o m δ μ = (m δ μ).thn fun s δ1 μ1 => (o.ev δ1 μ1).thn fun r δ2 μ2 => match r.self δ2 with
  | some (.obj k) => (match μ2[k]? with
    | some (.ins c kd ks vs) => if (at_ c f).isF = true ∧ ks.length < 1000 then .nx δ2 (μ2.set k (.ins c kd (putNm ks f) (putVs ks vs f s.d))) else .bad
    | _ => .bad)
  | _ => .bad := rfl
@[simp] theorem ec_Super {mi : MF} : mSuper c mi ms δ μ = (match δ[0]? with
  | some (some (FL.Slot.fr d)) => (match insOf μ d with
    | some (c', _, _) => if c' = c then (evA ms δ μ).thn fun ds δ1 μ1 => (match mi (d :: ds) μ1 with
      | .ok _ μ2 => .nx δ1 μ2
      | .exc x μ2 => .exc x δ1 μ2
      | .bad => .bad) else .bad
    | none => .bad)
  | _ => .bad) := rfl
@[simp] theorem ec_CallK {mf : MF} {sel : List Sel} : mCallK mf sel ms mks dds δ μ = (evA ms δ μ).bind fun ds δ1 μ1 => (evA mks δ1 μ1).bind fun zs δ2 μ2 => match mf (pickS sel ds dds zs) μ2 with
  | .ok s μ3 => .ok s δ2 μ3
  | .exc x μ3 => .exc x δ2 μ3
  | .bad => .bad := rfl
@[simp] theorem ec_Prop {pt : String → String → Option MF} : mProp pt f o δ μ = (o.ev δ μ).bind fun r δ1 μ1 => match r.self δ1 with
  | some d => (match insOf μ1 d with
    | some (c, _, _) => (match pt c f with
      | some m => (match m [d] μ1 with
        | .ok s μ2 => .ok s δ1 μ2
        | _ => .bad)
      | none => .bad)
    | none => .bad)
  | none => .bad := rfl
@[simp] theorem ec_IsC {isa isb : String → String → Option Bool} : mIsC isa isb f o δ μ = (o.ev δ μ).bind fun r δ1 μ1 => match isD isa isb f δ1 μ1 r with
  | some b => .ok (.fr (.bl b)) δ1 μ1
  | none => .bad := rfl
@[simp] theorem ec_Fmt : mFmt m δ μ = (m δ μ).bind fun s δ1 μ1 => match s.d with
  | .str y => if y.length ≤ 16777216 then .ok (.fr (.str y)) δ1 μ1 else .bad
  | .int i => if i.natAbs.log2 < 1920 then .ok (.fr (.str (intT i))) δ1 μ1 else .bad
  | _ => .bad := rfl
@[simp] theorem ec_Joined : mJoined ms δ μ = joinM ms [] δ μ := rfl
@[simp] theorem ec_join0 {acc : Tx} : joinM [] acc δ μ = .ok (.fr (.str acc)) δ μ := rfl
@[simp] theorem ec_join1 {acc : Tx} : joinM (m :: ms) acc δ μ = (m δ μ).bind fun s δ1 μ1 => match s.d with
    | .str y => if (acc ++ y).length ≤ 16777216 then joinM ms (acc ++ y) δ1 μ1 else .bad
    | _ => .bad := rfl
theorem keeps_app {xs : List Own} : Keeps μ (μ ++ xs) := fun j u e => by
  rw [List.getElem?_append_left (List.getElem?_eq_some_iff.mp e).1]
  exact e
abbrev newM (μ : Mem) (c : String) (ks : List String) (vs : List D) : Mem := μ ++ [.ins c (μ.length + 1) ks vs, .idc μ.length]
theorem mkF_ok {mi : MF} {ks : List String} {vs : List D} (h : mi (.obj μ.length :: ds) (newM μ c [] []) = .ok (.fr .non) (newM μ c ks vs)) (hb : D.lowbs μ.length vs = true) : mkF c mi ds μ = .ok (.fr (.ins c ks vs)) μ := by
  rw [mkF_eq]
  unfold mkF0
  rw [h]
  unfold lockI
  simp only [ec_end0, ec_end1]
  rw [if_pos ⟨⟨rfl, rfl, rfl⟩, keeps_app, hb⟩]
theorem mkF_exc {mi : MF} {x : Exc} {xs : List Own} (h : mi (.obj μ.length :: ds) (newM μ c [] []) = .exc x (μ ++ xs)) (hb : D.lowb μ.length x.arg = true) : mkF c mi ds μ = .exc x μ := by
  rw [mkF_eq]
  unfold mkF0
  rw [h]
  unfold lockI
  dsimp only
  rw [if_pos ⟨keeps_app, hb⟩]
end
section
variable {k : Nat}
@[simp] theorem lb_non : D.lowb k .non = true := by simp [D.lowb]
@[simp] theorem lb_bl {b : Bool} : D.lowb k (.bl b) = true := by simp [D.lowb]
@[simp] theorem lb_int {i : Int} : D.lowb k (.int i) = true := by simp [D.lowb]
@[simp] theorem lb_str {x : Tx} : D.lowb k (.str x) = true := by simp [D.lowb]
@[simp] theorem lb_tup {xs : List D} : D.lowb k (.tup xs) = D.lowbs k xs := by simp [D.lowb]
@[simp] theorem lb_lst {xs : List D} : D.lowb k (.lst xs) = D.lowbs k xs := by simp [D.lowb]
@[simp] theorem lb_dct {q : List DK} {xs : List D} : D.lowb k (.dct q xs) = D.lowbs k xs := by simp [D.lowb]
@[simp] theorem lb_ins {c : String} {q : List String} {xs : List D} : D.lowb k (.ins c q xs) = D.lowbs k xs := by simp [D.lowb]
@[simp] theorem lb_nil : D.lowbs k [] = true := by simp [D.lowbs]
@[simp] theorem lb_cons {d : D} {ds : List D} : D.lowbs k (d :: ds) = (D.lowb k d && D.lowbs k ds) := by simp [D.lowbs]
theorem lb_strs (xs : List Tx) : D.lowbs k (xs.map D.str) = true := by
  induction xs with
  | nil => simp
  | cons x xs ih => simp [ih]
end
end FL
namespace FL.S
noncomputable def b_is_integer (δ : FL.Loc) (μ : Mem) : OutS := (mSeq (mIfS (mOr (mNot (mTb (mC gIsi [(.v 0), (.e (mD (.ty "int")))]))) (mTb (mC gIsi [(.v 0), (.e (mD (.ty "bool")))]))) (mRet (mD (.bl false)))
    mPass)
    (mRet (mAndV (mOrV (m2 (gIsN false) (.v 1) (.e (mD .non))) (m2 gLe (.v 1) (.v 0))) (mOrV (m2 (gIsN false) (.v 2) (.e (mD .non))) (m2 gLe (.v 0) (.v 2)))))) δ μ
noncomputable def m_is_integer : MF := mFn 3 (b_is_integer)
noncomputable def b_is_field_name (δ : FL.Loc) (μ : Mem) : OutS := (mRet (mCall m_is_made_of [(mV 0), (mD (.str (lit "abcdefghijklmnopqrstuvwxyz"))), (mD (.int 12))] [])) δ μ
noncomputable def m_is_field_name : MF := mFn 1 (b_is_field_name)
noncomputable def b_need_field (δ : FL.Loc) (μ : Mem) : OutS := (mIfS (mNot (mTb (mCall m_is_field_name [(mV 0)] []))) (mRaise "BadQuery" "reason" (mD (.str (lit "not a field name"))))
    mPass) δ μ
noncomputable def m_need_field : MF := mFn 1 (b_need_field)
noncomputable def b_need_word (δ : FL.Loc) (μ : Mem) : OutS := (mIfS (mNot (mTb (mCall m_is_word [(mV 0)] []))) (mRaise "BadQuery" "reason" (mD (.str (lit "not a word"))))
    mPass) δ μ
noncomputable def m_need_word : MF := mFn 1 (b_need_word)
noncomputable def f1_fields_of (at_ : String → String → Att) (δ : FL.Loc) (μ : Mem) : OutS := (mSet 3 (m2 gAdd (.v 3) (.e (mC gList [(.e (mAt at_ "own_fields" (.v 4)))])))) δ μ
noncomputable def b_fields_of (at_ : String → String → Att) (δ : FL.Loc) (μ : Mem) : OutS := (mSeq (mSet 3 (mIf (mTb (m2 (gIn false) (.v 0) (.e (mD (.tup ([lit "term", lit "phrase", lit "prefix", lit "range"].map .str)))))) (mLst [(m2 gIxL (.v 1) (.e (mD (.int 0))))]) (mLst [])))
    (mSeq (mFor (mIt (mV 2)) (tgV 4) (f1_fields_of at_))
    (mRet (mC gTuple [(.e (mC gSS [(.v 3)]))])))) δ μ
noncomputable def m_fields_of (at_ : String → String → Att) : MF := mFn 5 ((b_fields_of at_))
noncomputable def e1_iQuery (at_ : String → String → Att) (δ : FL.Loc) (μ : Mem) : Out FL.Slot := (mAt at_ "own_size" (.v 4)) δ μ
noncomputable def e2_iQuery (at_ : String → String → Att) (δ : FL.Loc) (μ : Mem) : Out FL.Slot := (mAt at_ "own_levels" (.v 4)) δ μ
noncomputable def e3_iQuery (at_ : String → String → Att) (δ : FL.Loc) (μ : Mem) : Out FL.Slot := (mAt at_ "own_key" (.v 4)) δ μ
noncomputable def b_iQuery (at_ : String → String → Att) (δ : FL.Loc) (μ : Mem) : OutS := (mSeq (mStF at_ "own_parts" (.v 0) (mV 1))
    (mSeq (mStF at_ "own_size" (.v 0) (m2 gAdd (.e (mD (.int 1))) (.e (mC gSum [(.e (mLc (mIt (mV 1)) (tgV 4) mYes (e1_iQuery at_) [4]))]))))
    (mSeq (mStF at_ "own_levels" (.v 0) (mIf (mTb (m2 (gEqM true) (.v 1) (.e (mTup [])))) (m2 gAdd (.e (mD (.int 1))) (.e (mC gMaxL [(.e (mLc (mIt (mV 1)) (tgV 4) mYes (e2_iQuery at_) [4]))]))) (mD (.int 0))))
    (mSeq (mIfS (mOr (mTb (m2 gGt (.e (mAt at_ "own_size" (.v 0))) (.e (mD (.int 60))))) (mTb (m2 gGt (.e (mAt at_ "own_levels" (.v 0))) (.e (mD (.int 8)))))) (mRaise "BadQuery" "reason" (mD (.str (lit "the query is too large or too deep"))))
    mPass)
    (mSeq (mStF at_ "own_key" (.v 0) (mTup [(mAt at_ "KIND" (.v 0)), (mV 2), (mC gTuple [(.e (mLc (mIt (mV 1)) (tgV 4) mYes (e3_iQuery at_) [4]))])]))
    (mSeq (mStF at_ "own_fields" (.v 0) (mCall (m_fields_of at_) [(mAt at_ "KIND" (.v 0)), (mV 2), (mV 1)] []))
    (mStF at_ "own_text" (.v 0) (mV 3)))))))) δ μ
noncomputable def m_iQuery (at_ : String → String → Att) : MF := mFn 5 (b_iQuery at_)
noncomputable def b_Query_parts (at_ : String → String → Att) (δ : FL.Loc) (μ : Mem) : OutS := (mRet (mAt at_ "own_parts" (.v 0))) δ μ
noncomputable def m_Query_parts (at_ : String → String → Att) : MF := mFn 1 (b_Query_parts at_)
noncomputable def b_Query_size (at_ : String → String → Att) (δ : FL.Loc) (μ : Mem) : OutS := (mRet (mAt at_ "own_size" (.v 0))) δ μ
noncomputable def m_Query_size (at_ : String → String → Att) : MF := mFn 1 (b_Query_size at_)
noncomputable def b_Query_levels (at_ : String → String → Att) (δ : FL.Loc) (μ : Mem) : OutS := (mRet (mAt at_ "own_levels" (.v 0))) δ μ
noncomputable def m_Query_levels (at_ : String → String → Att) : MF := mFn 1 (b_Query_levels at_)
noncomputable def b_bound_text (δ : FL.Loc) (μ : Mem) : OutS := (mRet (mIf (mTb (m2 (gIsN false) (.v 0) (.e (mD .non)))) (mD (.str (lit ""))) (mC gStrI [(.v 0)]))) δ μ
noncomputable def m_bound_text : MF := mFn 1 (b_bound_text)
noncomputable def b_iTerm (at_ : String → String → Att) (δ : FL.Loc) (μ : Mem) : OutS := (mSeq (mEx (mCall m_need_field [(mV 1)] []))
    (mSeq (mEx (mCall m_need_word [(mV 2)] []))
    (mSeq (mSuper "Term" (m_iQuery at_) [(mTup []), (mTup [(mV 1), (mV 2)]), (mJoined [(mFmt (mV 1)), (mD (.str (lit ":"))), (mFmt (mV 2))])])
    (mSeq (mStF at_ "field" (.v 0) (mV 1))
    (mStF at_ "word" (.v 0) (mV 2)))))) δ μ
noncomputable def m_iTerm (at_ : String → String → Att) : MF := mFn 3 (b_iTerm at_)
noncomputable def b_iPrefix (at_ : String → String → Att) (δ : FL.Loc) (μ : Mem) : OutS := (mSeq (mEx (mCall m_need_field [(mV 1)] []))
    (mSeq (mEx (mCall m_need_word [(mV 2)] []))
    (mSeq (mSuper "Prefix" (m_iQuery at_) [(mTup []), (mTup [(mV 1), (mV 2)]), (mJoined [(mFmt (mV 1)), (mD (.str (lit ":"))), (mFmt (mV 2)), (mD (.str (lit "*")))])])
    (mSeq (mStF at_ "field" (.v 0) (mV 1))
    (mStF at_ "start" (.v 0) (mV 2)))))) δ μ
noncomputable def m_iPrefix (at_ : String → String → Att) : MF := mFn 3 (b_iPrefix at_)
noncomputable def f1_iRange (δ : FL.Loc) (μ : Mem) : OutS := (mIfS (mAnd (mTb (m2 (gIsN true) (.v 4) (.e (mD .non)))) (mNot (mTb (mCall m_is_integer [(mV 4), (m2 gSub (.e (mD (.int 0))) (.e (mD (.int 1000000000)))), (mD (.int 1000000000))] [])))) (mRaise "BadQuery" "reason" (mD (.str (lit "a bound is neither None nor an integer of at most ten digits"))))
    mPass) δ μ
noncomputable def b_iRange (at_ : String → String → Att) (δ : FL.Loc) (μ : Mem) : OutS := (mSeq (mEx (mCall m_need_field [(mV 1)] []))
    (mSeq (mFor (mIt (mTup [(mV 2), (mV 3)])) (tgV 4) f1_iRange)
    (mSeq (mSuper "Range" (m_iQuery at_) [(mTup []), (mTup [(mV 1), (mV 2), (mV 3)]), (mJoined [(mFmt (mV 1)), (mD (.str (lit ":["))), (mFmt (mCall m_bound_text [(mV 2)] [])), (mD (.str (lit ","))), (mFmt (mCall m_bound_text [(mV 3)] [])), (mD (.str (lit "]")))])])
    (mSeq (mStF at_ "field" (.v 0) (mV 1))
    (mSeq (mStF at_ "low" (.v 0) (mV 2))
    (mStF at_ "high" (.v 0) (mV 3))))))) δ μ
noncomputable def m_iRange (at_ : String → String → Att) : MF := mFn 5 (b_iRange at_)
noncomputable def b_iEverything (at_ : String → String → Att) (δ : FL.Loc) (μ : Mem) : OutS := (mSeq (mSuper "Everything" (m_iQuery at_) [(mTup []), (mTup []), (mD (.str (lit "#")))])
    mPass) δ μ
noncomputable def m_iEverything (at_ : String → String → Att) : MF := mFn 1 (b_iEverything at_)
end FL.S
namespace FL
open PySem L2
def flatD : D → Bool
  | .non | .bl _ | .int _ | .str _ | .lst _ | .tup _ | .dct _ _ => true
  | _ => false
def isIntD : D → Bool
  | .int _ | .bl _ => true
  | _ => false
def isBlD : D → Bool
  | .bl _ => true
  | _ => false
def isStrD : D → Bool
  | .str _ => true
  | _ => false
theorem kb_i : kitB "NoneType" "int" = some false ∧ kitB "bool" "int" = some true ∧ kitB "int" "int" = some true ∧ kitB "list" "int" = some false ∧ kitB "tuple" "int" = some false ∧ kitB "dict" "int" = some false ∧ kitB "str" "int" = some false := by
  refine ⟨?_, ?_, ?_, ?_, ?_, ?_, ?_⟩ <;> kernel_rfl
theorem kb_b : kitB "NoneType" "bool" = some false ∧ kitB "bool" "bool" = some true ∧ kitB "int" "bool" = some false ∧ kitB "list" "bool" = some false ∧ kitB "tuple" "bool" = some false ∧ kitB "dict" "bool" = some false ∧ kitB "str" "bool" = some false := by
  refine ⟨?_, ?_, ?_, ?_, ?_, ?_, ?_⟩ <;> kernel_rfl
theorem isi_int {d : D} (h : flatD d = true) : gIsi [d, .ty "int"] = some (tb (isIntD d)) := by
  obtain ⟨h1, h2, h3, h4, h5, h6, h7⟩ := kb_i
  cases d <;> first | (cases h; done) | simp [gIsi, tyN, isIntD, h1, h2, h3, h4, h5, h6, h7]
theorem isi_bl {d : D} (h : flatD d = true) : gIsi [d, .ty "bool"] = some (tb (isBlD d)) := by
  obtain ⟨h1, h2, h3, h4, h5, h6, h7⟩ := kb_b
  cases d <;> first | (cases h; done) | simp [gIsi, tyN, isBlD, h1, h2, h3, h4, h5, h6, h7]
theorem isi_st {d : D} (h : flatD d = true) : gIsi [d, .ty "str"] = some (tb (isStrD d)) := by
  cases d <;> first | (cases h; done) | exact isi_str | exact isi_no rfl
theorem look_flatD {μ : Mem} {d : D} (h : flatD d = true) : look μ d = some d := by
  cases d <;> first | (cases h; done) | rfl
abbrev LT : Tx := lit "abcdefghijklmnopqrstuvwxyz"
abbrev Nm (x : Tx) : Prop := Made x LT 12
def isWd : D → Bool
  | .str x => decide (Wd x)
  | _ => false
def isNm : D → Bool
  | .str x => decide (Nm x)
  | _ => false
def shortD : D → Bool
  | .str x => decide (x.length < 16777216)
  | d => flatD d
theorem shortD.flat {d : D} (h : shortD d = true) : flatD d = true := by
  cases d <;> first | rfl | exact h
section
variable {μ : Mem}
theorem word_sp {d : D} (h : shortD d = true) : S.m_is_word [d] μ = .ok (.fr (.bl (isWd d))) μ := by
  cases d <;> first | (cases h; done) | exact word_no rfl | exact word_str (of_decide_eq_true h)
theorem name_no {d : D} (h : noStr d = true) : S.m_is_field_name [d] μ = .ok (.fr (.bl false)) μ := by
  have e := made_no (μ := μ) (s := LT) (n := 12) h
  simp [S.m_is_field_name, S.b_is_field_name, startD, e]
theorem name_sp {d : D} (h : shortD d = true) : S.m_is_field_name [d] μ = .ok (.fr (.bl (isNm d))) μ := by
  cases d <;> first | (cases h; done) | exact name_no rfl | skip
  rename_i x
  have e := made_str (μ := μ) (x := x) (s := LT) (n := 12) (of_decide_eq_true h)
  simp [S.m_is_field_name, S.b_is_field_name, startD, e, isNm]
theorem need_word_sp {d : D} (h : shortD d = true) : S.m_need_word [d] μ = if isWd d = true then .ok (.fr .non) μ else .exc ⟨"BadQuery", "reason", .str (lit "not a word")⟩ μ := by
  have e := word_sp (μ := μ) h
  cases hw : isWd d <;> rw [hw] at e <;> simp [S.m_need_word, S.b_need_word, startD, e]
theorem need_field_sp {d : D} (h : shortD d = true) : S.m_need_field [d] μ = if isNm d = true then .ok (.fr .non) μ else .exc ⟨"BadQuery", "reason", .str (lit "not a field name")⟩ μ := by
  have e := name_sp (μ := μ) h
  cases hw : isNm d <;> rw [hw] at e <;> simp [S.m_need_field, S.b_need_field, startD, e]
def inI (lo hi : Int) : D → Bool
  | .int i => decide (lo ≤ i ∧ i ≤ hi)
  | _ => false
theorem int_sp {d : D} {lo hi : Int} (h : flatD d = true) : S.m_is_integer [d, .int lo, .int hi] μ = .ok (.fr (.bl (inI lo hi d))) μ := by
  have e1 := isi_int h
  have e2 := isi_bl h
  cases d <;> first | (cases h; done) | skip
  case int i =>
    by_cases h1 : lo ≤ i <;> by_cases h2 : i ≤ hi <;> simp [S.m_is_integer, S.b_is_integer, startD, e1, e2, isIntD, isBlD, inI, h1, h2]
  all_goals simp [S.m_is_integer, S.b_is_integer, startD, e1, e2, isIntD, isBlD, inI]
structure QAt (at_ : String → String → Att) (c kind : String) : Prop where
  p : at_ c "own_parts" = .fld
  s : at_ c "own_size" = .fld
  l : at_ c "own_levels" = .fld
  k : at_ c "own_key" = .fld
  f : at_ c "own_fields" = .fld
  t : at_ c "own_text" = .fld
  kd : at_ c "KIND" = .con (.str (lit kind))
abbrev ks6 : List String := ["own_parts", "own_size", "own_levels", "own_key", "own_fields", "own_text"]
abbrev qD (c : String) (ps : List D) (s l : Int) (key : D) (fs : List Tx) (t : Tx) (ks : List String) (vs : List D) : D := .ins c (ks6 ++ ks) ([.tup ps, .int s, .int l, key, .tup (fs.map .str), .str t] ++ vs)
def dF (at_ : String → String → Att) (f : String) : D → Option D
  | .ins c ks vs => (match at_ c f with
    | .fld => getF ks vs f
    | _ => none)
  | _ => none
theorem lc_at {at_ : String → String → Att} {f : String} {e : ME} (he : ∀ δ μ, e δ μ = mAt at_ f (.v 4) δ μ) {ps : List D} {a b c d : Option FL.Slot} (ha : ∀ p ∈ ps, (dF at_ f p).isSome = true) (hl : ps.length < 16777216) :
    lcD (tgV 4) mYes e [4] ps [] [a, b, c, d, none] μ = .ok (.own (.lst (ps.filterMap (dF at_ f)))) [a, b, c, d, none] μ := by
  have h := lcD_pure (f := tgV 4) (t := mYes) (m := e) (vs := [4]) (δ := [a, b, c, d, none]) (μ := μ) (dF at_ f) (ds := ps) (acc := []) (fun p hp => by
    obtain ⟨x, hx⟩ := Option.isSome_iff_exists.mp (ha p hp)
    rw [hx]
    cases p <;> first | (cases hx; done) | skip
    rename_i c' ks vs
    unfold dF at hx
    dsimp only at hx
    cases hat : at_ c' f with
    | fld =>
      rw [hat] at hx
      dsimp only at hx
      simp [lc1, he, hat, hx]
    | con _ => rw [hat] at hx; cases hx
    | no => rw [hat] at hx; cases hx) (by simp; omega)
  rw [h, List.nil_append]
end
section
variable {μ : Mem} {at_ : String → String → Att} {c kind : String}
def kinds4 : List Tx := [lit "term", lit "phrase", lit "prefix", lit "range"]
theorem fields_sp {vals ps : List D} {isF : Bool} {init : List Tx} {fss : List (List Tx)} (hin : gIn false (.str (lit kind)) (.tup (kinds4.map .str)) = some (tb isF)) (hv : if isF = true then L2.atI vals 0 = some (.str (init.headD [])) ∧ init.length = 1 else init = [])
    (hf : ps.filterMap (dF at_ "own_fields") = fss.map fun f => .tup (f.map .str)) (ha : ∀ p ∈ ps, (dF at_ "own_fields" p).isSome = true) (hl : (init ++ fss.flatten).length < 4000) :
    S.m_fields_of at_ [.str (lit kind), .tup vals, .tup ps] μ = .ok (.fr (.tup ((sortT (init ++ fss.flatten)).map .str))) μ := by
  have h0 : mSet 3 (mIf (mTb (m2 (gIn false) (.v 0) (.e (mD (.tup (kinds4.map .str)))))) (mLst [(m2 gIxL (.v 1) (.e (mD (.int 0))))]) (mLst [])) (startD 5 [.str (lit kind), .tup vals, .tup ps]) μ = .nx [some (.fr (.str (lit kind))), some (.fr (.tup vals)), some (.fr (.tup ps)), some (.own (.lst (init.map .str))), none] μ := by
    generalize kinds4.map D.str = L at hin ⊢
    cases isF with
    | false =>
      have hv : init = [] := by simpa using hv
      subst hv
      simp [startD, hin]
    | true =>
      obtain ⟨h1, h2⟩ : L2.atI vals 0 = some (.str (init.headD [])) ∧ init.length = 1 := by simpa using hv
      match init, h2 with
      | [y], _ =>
        have h1 : L2.atI vals 0 = some (.str y) := h1
        simp [startD, hin, h1]
  have hlen : ps.length = fss.length := by
    have e := congrArg List.length hf
    rw [List.length_map] at e
    rw [← e]
    clear hf hl e h0
    induction ps with
    | nil => rfl
    | cons p ps ih =>
      obtain ⟨x, hx⟩ := Option.isSome_iff_exists.mp (ha p (List.mem_cons_self ..))
      rw [List.filterMap_cons_some hx, List.length_cons, List.length_cons, ih fun p hp => ha p (List.mem_cons_of_mem _ hp)]
  have hat : ∀ (i : Nat) (p : D), ps[i]? = some p → ∃ f, fss[i]? = some f ∧ dF at_ "own_fields" p = some (.tup (f.map .str)) := by
    clear hl h0 hin hv
    induction ps generalizing fss with
    | nil => intro i p e; simp at e
    | cons q ps ih =>
      intro i p e
      obtain ⟨x, hx⟩ := Option.isSome_iff_exists.mp (ha q (List.mem_cons_self ..))
      rw [List.filterMap_cons_some hx] at hf
      cases fss with
      | nil => simp at hf
      | cons f fss =>
        rw [List.map_cons] at hf
        injection hf with hf1 hf2
        cases i with
        | zero =>
          simp at e
          subst e
          exact ⟨f, rfl, by rw [hx, hf1]⟩
        | succ i =>
          exact ih hf2 (fun p hp => ha p (List.mem_cons_of_mem _ hp)) (by simpa using hlen) i p (by simpa using e)
  obtain ⟨δ, μ1, e, ⟨s4, rfl⟩, rfl⟩ := forNx (g := turnD (tgV 4) (S.f1_fields_of at_)) (fun i δ μ' => (∃ s4, δ = [some (.fr (.str (lit kind))), some (.fr (.tup vals)), some (.fr (.tup ps)), some (.own (.lst ((init ++ (fss.take i).flatten).map .str))), s4]) ∧ μ' = μ) (ds := ps)
    (δ := [some (.fr (.str (lit kind))), some (.fr (.tup vals)), some (.fr (.tup ps)), some (.own (.lst (init.map .str))), none]) (μ := μ) ⟨⟨none, by simp⟩, rfl⟩ fun i p δ μ' hd ⟨⟨s4, hδ⟩, hμ⟩ => by
      subst hδ hμ
      obtain ⟨f, h1, h2⟩ := hat i p hd
      have hi : i < fss.length := (List.getElem?_eq_some_iff.mp h1).1
      have ht : fss.take (i + 1) = fss.take i ++ [f] := by
        rw [List.take_succ_eq_append_getElem hi]
        rw [List.getElem?_eq_getElem hi] at h1
        cases h1
        rfl
      have hb : (init ++ (fss.take i).flatten).length + f.length ≤ 16777216 := by
        have e1 : fss = fss.take (i + 1) ++ fss.drop (i + 1) := (List.take_append_drop _ _).symm
        rw [e1, ht] at hl
        simp only [List.flatten_append, List.length_append, List.flatten_cons, List.flatten_nil, List.append_nil] at hl
        simp only [List.length_append]
        omega
      cases p <;> first | (cases h2; done) | skip
      rename_i c' ks vs
      unfold dF at h2
      dsimp only at h2
      have hA : (init ++ (fss.take i).flatten ++ f).map D.str = (init ++ (fss.take i).flatten).map D.str ++ f.map D.str := List.map_append ..
      have hB : init ++ (fss.take (i + 1)).flatten = init ++ (fss.take i).flatten ++ f := by rw [ht]; simp
      rw [hB, hA]
      have hb' : ((init ++ (fss.take i).flatten).map D.str).length + (f.map D.str).length ≤ 16777216 := by simpa only [List.length_map] using hb
      generalize (init ++ (fss.take i).flatten).map D.str = L1 at hb' ⊢
      generalize f.map D.str = L2' at hb' h2 ⊢
      cases hat2 : at_ c' "own_fields" with
      | fld =>
        rw [hat2] at h2
        dsimp only at h2
        simp [S.f1_fields_of, hat2, h2, gList, hb']
      | con _ => rw [hat2] at h2; cases h2
      | no => rw [hat2] at h2; cases h2
  rw [hlen, List.take_length] at e
  have hs : gSS [.lst ((init ++ fss.flatten).map D.str)] = some (.own (.lst ((sortT (init ++ fss.flatten)).map .str))) := by
    have h1 : ((init ++ fss.flatten).map D.str).all isTx = true := by
      rw [List.all_eq_true]
      intro x hx
      obtain ⟨y, _, rfl⟩ := List.mem_map.mp hx
      rfl
    have h2 : ((init ++ fss.flatten).map D.str).map txOf = init ++ fss.flatten := by
      rw [List.map_map]
      exact List.map_id'' (fun _ => rfl) _
    simp only [gSS, h1, h2, true_and, List.length_map]
    rw [if_pos hl]
  generalize hL : (init ++ fss.flatten).map D.str = L at e hs
  unfold S.m_fields_of
  rw [ev_Fn]
  unfold S.b_fields_of
  rw [ev_Seq]
  rw [show mSet 3 (mIf (mTb (m2 (gIn false) (.v 0) (.e (mD (.tup ([lit "term", lit "phrase", lit "prefix", lit "range"].map .str)))))) (mLst [(m2 gIxL (.v 1) (.e (mD (.int 0))))]) (mLst [])) (startD 5 [.str (lit kind), .tup vals, .tup ps]) μ1 = _ from h0]
  simp [e, hs]
theorem iQuery_sp {k kd : Nat} {ps vals keys : List D} {ss ls : List Int} {isF : Bool} {init : List Tx} {fss : List (List Tx)} {text : Tx} (A : QAt at_ c kind) (hk : μ[k]? = some (.ins c kd [] []))
    (hin : gIn false (.str (lit kind)) (.tup (kinds4.map .str)) = some (tb isF)) (hv : if isF = true then L2.atI vals 0 = some (.str (init.headD [])) ∧ init.length = 1 else init = [])
    (h1 : ps.filterMap (dF at_ "own_size") = ss.map .int) (h2 : ps.filterMap (dF at_ "own_levels") = ls.map .int) (h3 : ps.filterMap (dF at_ "own_key") = keys) (h4 : ps.filterMap (dF at_ "own_fields") = fss.map fun f => .tup (f.map .str))
    (a1 : ∀ p ∈ ps, (dF at_ "own_size" p).isSome = true) (a2 : ∀ p ∈ ps, (dF at_ "own_levels" p).isSome = true) (a3 : ∀ p ∈ ps, (dF at_ "own_key" p).isSome = true) (a4 : ∀ p ∈ ps, (dF at_ "own_fields" p).isSome = true)
    (hl : (init ++ fss.flatten).length < 4000) (hp : ps.length < 1000) (hls : ps ≠ [] → ls ≠ [])
    (hs60 : 1 + ss.sum ≤ 60) (hl8 : (if ps = [] then 0 else 1 + maxI ls) ≤ 8) :
    S.m_iQuery at_ [.obj k, .tup ps, .tup vals, .str text] μ = .ok (.fr .non) (μ.set k (.ins c kd ks6 [.tup ps, .int (1 + ss.sum), .int (if ps = [] then 0 else 1 + maxI ls), .tup [.str (lit kind), .tup vals, .tup keys], .tup ((sortT (init ++ fss.flatten)).map .str), .str text])) := by
  have hlt : k < μ.length := (List.getElem?_eq_some_iff.mp hk).1
  have hs : ∀ x : Own, (μ.set k x)[k]? = some x := fun x => List.getElem?_set_self hlt
  have l1 := fun (μ : Mem) => lc_at (μ := μ) (at_ := at_) (f := "own_size") (e := S.e1_iQuery at_) (fun _ _ => rfl) (ps := ps) (a := some (.fr (.obj k))) (b := some (.fr (.tup ps))) (c := some (.fr (.tup vals))) (d := some (.fr (.str text))) a1 (by omega)
  have l2 := fun (μ : Mem) => lc_at (μ := μ) (at_ := at_) (f := "own_levels") (e := S.e2_iQuery at_) (fun _ _ => rfl) (ps := ps) (a := some (.fr (.obj k))) (b := some (.fr (.tup ps))) (c := some (.fr (.tup vals))) (d := some (.fr (.str text))) a2 (by omega)
  have l3 := fun (μ : Mem) => lc_at (μ := μ) (at_ := at_) (f := "own_key") (e := S.e3_iQuery at_) (fun _ _ => rfl) (ps := ps) (a := some (.fr (.obj k))) (b := some (.fr (.tup ps))) (c := some (.fr (.tup vals))) (d := some (.fr (.str text))) a3 (by omega)
  rw [h1] at l1
  rw [h2] at l2
  rw [h3] at l3
  have hF := fun (μ : Mem) => fields_sp (μ := μ) (at_ := at_) (kind := kind) hin hv h4 a4 hl
  have gs : gSum [.lst (ss.map D.int)] = some (.fr (.int ss.sum)) := by simp [gSum, intsD_of]
  have gm : ps ≠ [] → gMaxL [.lst (ls.map D.int)] = some (.fr (.int (maxI ls))) := fun n => by
    have := hls n
    cases ls with
    | nil => exact absurd rfl this
    | cons y ys => simp only [gMaxL, intsD_of]
  have he : gEqM true (.tup ps) (.tup []) = some (tb (decide (ps = []) != true)) := rfl
  generalize ss.sum = n at *
  generalize ss.map D.int = SS at *
  generalize ls.map D.int = LS at *
  generalize (sortT (init ++ fss.flatten)).map D.str = FS at *
  have c1 : ¬ (60 : Int) < 1 + n := by omega
  by_cases e : ps = []
  · rw [if_pos e] at hl8 ⊢
    rw [decide_eq_true e] at he
    simp only [bne_self_eq_false] at he
    simp [S.m_iQuery, S.b_iQuery, startD, A.p, A.s, A.l, A.k, A.f, A.t, A.kd, hs, hk, l1, l3, gs, he, c1, hF]
  · rw [if_neg e] at hl8 ⊢
    rw [decide_eq_false e] at he
    simp only [show (false != true) = true from rfl] at he
    have gm := gm e
    generalize maxI ls = M at *
    have c2 : ¬ (8 : Int) < 1 + M := by omega
    simp [S.m_iQuery, S.b_iQuery, startD, A.p, A.s, A.l, A.k, A.f, A.t, A.kd, hs, hk, l1, l2, l3, gs, gm, he, c1, c2, hF]
theorem iQuery_leaf {k kd : Nat} {vals : List D} {isF : Bool} {init : List Tx} {text : Tx} (A : QAt at_ c kind) (hk : μ[k]? = some (.ins c kd [] []))
    (hin : gIn false (.str (lit kind)) (.tup (kinds4.map .str)) = some (tb isF)) (hv : if isF = true then L2.atI vals 0 = some (.str (init.headD [])) ∧ init.length = 1 else init = []) :
    S.m_iQuery at_ [.obj k, .tup [], .tup vals, .str text] μ = .ok (.fr .non) (μ.set k (.ins c kd ks6 [.tup [], .int 1, .int 0, .tup [.str (lit kind), .tup vals, .tup []], .tup (init.map .str), .str text])) := by
  have hb : init.length < 4000 := by
    cases isF with
    | false => have hv : init = [] := by simpa using hv
               rw [hv]; decide
    | true => have hv : init.length = 1 := by
                have := hv
                simp at this
                exact this.2
              omega
  have hso : sortT init = init := by
    cases isF with
    | false => have hv : init = [] := by simpa using hv
               rw [hv]; simp [sortT]
    | true => have hv : init.length = 1 := by
                have := hv
                simp at this
                exact this.2
              match init, hv with
              | [y], _ => simp [sortT, insT]
  have h := iQuery_sp (μ := μ) (k := k) (kd := kd) (ps := []) (vals := vals) (keys := []) (ss := []) (ls := []) (fss := []) (text := text) A hk hin hv rfl rfl rfl rfl (by simp) (by simp) (by simp) (by simp) (by simpa using hb) (by simp) (by simp) (by simp) (by simp)
  simpa [hso] using h
theorem in_term : gIn false (.str (lit "term")) (.tup (kinds4.map .str)) = some (tb true) := by kernel_rfl
theorem in_prefix : gIn false (.str (lit "prefix")) (.tup (kinds4.map .str)) = some (tb true) := by kernel_rfl
theorem in_range : gIn false (.str (lit "range")) (.tup (kinds4.map .str)) = some (tb true) := by kernel_rfl
theorem in_every : gIn false (.str (lit "everything")) (.tup (kinds4.map .str)) = some (tb false) := by kernel_rfl
end
end FL
namespace FL
open PySem L2
abbrev BQ (t : Tx) : Exc := ⟨"BadQuery", "reason", .str t⟩
theorem intT_small : ∀ k : Fin 21, (intT (k.val : Nat)).length ≤ 2 := by decide +kernel
theorem len20 {ws : List Tx} (h : ∀ w ∈ ws, w.length ≤ 20) : (ws.map List.length).sum ≤ 20 * ws.length := by
  induction ws with
  | nil => simp
  | cons w ws ih =>
    have h1 := h w (List.mem_cons_self ..)
    have h2 := ih fun v hv => h v (List.mem_cons_of_mem _ hv)
    simp only [List.map_cons, List.sum_cons, List.length_cons]
    omega
def phT (f : Tx) (ws : List Tx) (g : Int) : Tx := if g = 0 then f ++ lit ":\"" ++ joinT (lit " ") ws ++ lit "\"" else f ++ lit ":\"" ++ joinT (lit " ") ws ++ lit "\"" ++ lit "~" ++ intT g
def bdT : Option Int → Tx
  | none => []
  | some i => intT i
def bdD : Option Int → D
  | none => .non
  | some i => .int i
abbrev termD (f w : Tx) : D := qD "Term" [] 1 0 (.tup [.str (lit "term"), .tup [.str f, .str w], .tup []]) [f] (f ++ lit ":" ++ w) ["field", "word"] [.str f, .str w]
abbrev prefD (f w : Tx) : D := qD "Prefix" [] 1 0 (.tup [.str (lit "prefix"), .tup [.str f, .str w], .tup []]) [f] (f ++ lit ":" ++ w ++ lit "*") ["field", "start"] [.str f, .str w]
abbrev phraD (f : Tx) (ws : List Tx) (g : Int) : D := qD "Phrase" [] 1 0 (.tup [.str (lit "phrase"), .tup [.str f, .tup (ws.map .str), .int g], .tup []]) [f] (phT f ws g) ["field", "words", "distance"] [.str f, .tup (ws.map .str), .int g]
abbrev rangD (f : Tx) (a b : Option Int) : D := qD "Range" [] 1 0 (.tup [.str (lit "range"), .tup [.str f, bdD a, bdD b], .tup []]) [f] (f ++ lit ":[" ++ bdT a ++ lit "," ++ bdT b ++ lit "]") ["field", "low", "high"] [.str f, bdD a, bdD b]
abbrev everD : D := qD "Everything" [] 1 0 (.tup [.str (lit "everything"), .tup [], .tup []]) [] (lit "#") [] []
section
variable {μ : Mem} {at_ : String → String → Att} {k kd : Nat}
theorem wd_short {w : Tx} (h : Wd w) : shortD (.str w) = true := decide_eq_true (by have := h.2.1; omega)
theorem nm_short {w : Tx} (h : Nm w) : shortD (.str w) = true := decide_eq_true (by have := h.2.1; omega)
theorem need_word_ok {w : Tx} (h : Wd w) : S.m_need_word [.str w] μ = .ok (.fr .non) μ := by
  rw [need_word_sp (wd_short h), if_pos (show isWd (.str w) = true from decide_eq_true h)]
theorem need_field_ok {w : Tx} (h : Nm w) : S.m_need_field [.str w] μ = .ok (.fr .non) μ := by
  rw [need_field_sp (nm_short h), if_pos (show isNm (.str w) = true from decide_eq_true h)]
theorem need_word_no {d : D} (h : shortD d = true) (n : isWd d = false) : S.m_need_word [d] μ = .exc (BQ (lit "not a word")) μ := by
  rw [need_word_sp h, n]; rfl
theorem need_field_no {d : D} (h : shortD d = true) (n : isNm d = false) : S.m_need_field [d] μ = .exc (BQ (lit "not a field name")) μ := by
  rw [need_field_sp h, n]; rfl
def shortW : D → Prop
  | .tup xs => ∀ x ∈ xs, shortD x = true
  | d => flatD d = true
theorem shortW.flat {d : D} (h : shortW d) : flatD d = true := by
  cases d <;> first | rfl | exact h
structure PhAt (at_ : String → String → Att) : Prop where
  q : QAt at_ "Phrase" "phrase"
  f : at_ "Phrase" "field" = .fld
  w : at_ "Phrase" "words" = .fld
  d : at_ "Phrase" "distance" = .fld
end
end FL
namespace FL
open PySem L2
section
variable {d n : Nat}
theorem Sh.shaped {x : D} (h : Sh d n x) (hd : d ≤ 64) : ∃ q, D.py x = some q ∧ SeqAt.shaped q = true := by
  obtain ⟨q, a, b, c, l, g, k⟩ := h
  refine ⟨q, a, ?_⟩
  unfold SeqAt.shaped
  rw [l, decide_eq_true (show q.depth ≤ 64 by omega)]
  rfl
end
end FL
namespace FL
open PySem L2
theorem Nx.seq {m n : MS} {δ : FL.Loc} {μ : Mem} {P Q : FL.Loc → Mem → Prop} (h : Nx (m δ μ) P) (k : ∀ δ μ, P δ μ → Nx (n δ μ) Q) : Nx (mSeq m n δ μ) Q := by
  obtain ⟨δ1, μ1, e, p⟩ := h
  show Nx ((m δ μ).seq n) Q
  rw [e]
  exact k δ1 μ1 p
end FL
namespace FL
open PySem L2
theorem sources_sp {ns : List Int} {μ : Mem} {rest : FL.Loc} {c : Nat} {n : Int} {e : ME} (hl : ns.length ≤ 63) (hc : c < rest.length) (hn : 1 ≤ n) (hn4 : n ≤ 10) (he : ∀ δ μ, e δ μ = mCall mSource [(mV 0), (mV (c + 1))] [] δ μ) :
    ∃ (K : Nat) (μ1 : Mem), 1 ≤ K ∧ K ≤ 10 ∧ mIt (mLc (mRange1 (.e (mC gMax2 [(.e (mD (.int 1))), (.e (mC gMin2 [(.e (mD (.int n))), (.e (mC gLen [(.v 0)]))]))]))) (tgV (c + 1)) mYes e [c + 1]) (some (.fr (.ro (ns.map .int))) :: rest) μ
      = .ok ((List.range K).map fun i => D.obj (μ.length + i)) (some (.fr (.ro (ns.map .int))) :: rest.set c none) μ1 ∧ (∀ i : Nat, i < K → Src μ1 (μ.length + i) 1000) ∧ (∀ i : Nat, i < μ.length → μ1[i]? = μ[i]?) ∧ μ1.length = μ.length + K := by
  have hb : ∀ L : Int, 0 ≤ L → 1 ≤ (if 1 < (if L < n then L else n) then (if L < n then L else n) else 1) ∧ (if 1 < (if L < n then L else n) then (if L < n then L else n) else 1) ≤ 10 := by
    intro L h
    by_cases h4 : L < n
    · rw [if_pos h4]; split <;> omega
    · rw [if_neg h4]; split <;> omega
  have hb := hb ns.length (by omega)
  have e1 : mC gMin2 [(.e (mD (.int n))), (.e (mC gLen [(.v 0)]))] (some (.fr (.ro (ns.map .int))) :: rest) μ = .ok (.fr (.int (if (ns.length : Int) < n then (ns.length : Int) else n))) (some (.fr (.ro (ns.map .int))) :: rest) μ := by
    simp only [ev_C, ev_evs1, ev_evs0, ev_e, ev_D, ev_b1, ev_v, List.getElem?_cons_zero, ev_ats1, ev_ats0, ev_at2, ev_at1, ev_dfr, ev_lk8, ev_lk2, ev_lenR, List.length_map, ev_lift1, ev_min2]
  generalize (if (ns.length : Int) < n then (ns.length : Int) else n) = L at e1 hb
  have e2 : mC gMax2 [(.e (mD (.int 1))), (.e (mC gMin2 [(.e (mD (.int n))), (.e (mC gLen [(.v 0)]))]))] (some (.fr (.ro (ns.map .int))) :: rest) μ = .ok (.fr (.int (if 1 < L then L else 1))) (some (.fr (.ro (ns.map .int))) :: rest) μ := by
    rw [ev_C, ev_evs1, ev_e, ev_D, ev_b1, ev_b1, ev_evs1, ev_e, e1]
    rfl
  generalize (if 1 < L then L else 1) = K at e2 hb
  have e3 : mRange1 (.e (mC gMax2 [(.e (mD (.int 1))), (.e (mC gMin2 [(.e (mD (.int n))), (.e (mC gLen [(.v 0)]))]))])) (some (.fr (.ro (ns.map .int))) :: rest) μ = .ok (rangeD 0 K.toNat) (some (.fr (.ro (ns.map .int))) :: rest) μ := by
    rw [ev_R1, ev_evs1, ev_e, e2]
    exact r1K_ok (by omega) (by omega)
  obtain ⟨s, δ', μ1, e4, acc, rfl, rfl, hacc, hlen, hsrc, hkeep⟩ := lcD_inv (f := tgV (c + 1)) (t := mYes) (m := e) (vs := [c + 1]) (fun i acc δ μ' => δ = some (.fr (.ro (ns.map .int))) :: rest.set c none ∧ acc = (List.range i).map (fun i => D.obj (μ.length + i)) ∧ μ'.length = μ.length + i ∧ (∀ i' : Nat, i' < i → Src μ' (μ.length + i') 1000) ∧ ∀ i : Nat, i < μ.length → μ'[i]? = μ[i]?)
    (rangeD 0 K.toNat) 0 [] (some (.fr (.ro (ns.map .int))) :: rest.set c none) μ ⟨rfl, rfl, rfl, fun i' h => absurd h (Nat.not_lt_zero _), fun _ _ => rfl⟩ (by rw [range_len]; simp; omega) (fun i d acc δ μ' hd ⟨hδ, hacc, hlen, hsrc, hkeep⟩ => by
      rw [Nat.zero_add] at hacc hlen hsrc ⊢
      obtain ⟨rfl, hi⟩ := range_at hd
      obtain ⟨μ2, e5, s2, t2⟩ := source_src (μ := μ') (k := (i : Nat)) hl (by omega) (by omega)
      have hg : (rest.set c (some (FL.Slot.fr (D.int (i : Nat)))))[c]? = some (some (.fr (.int (i : Nat)))) := List.getElem?_set_self hc
      refine ⟨some (.obj μ'.length), some (.fr (.ro (ns.map .int))) :: rest.set c none, μ2, ?_, rfl, ?_, ?_, ?_, ?_⟩
      · subst hδ
        have hg2 : ((rest.set c (some (FL.Slot.fr (D.int (i : Nat))))).set c (some (FL.Slot.fr (D.int (i : Nat)))))[c]? = some (some (.fr (.int (i : Nat)))) := by rw [List.set_set]; exact hg
        simp [lc1, he, e5, hg, List.set_set]
      · rw [hacc, hlen, List.range_succ, List.map_append]
        rfl
      · have h1 : μ2[μ'.length]? ≠ none := by
          obtain ⟨_, _, _, h, _⟩ := s2
          rw [h]; simp
        obtain ⟨cc, g, _, e6⟩ := source_spec (μ := μ') (k := (i : Nat)) hl (by omega) (by omega)
        rw [e5] at e6
        have e7 : μ2 = μ' ++ [.lst [.int cc, .int (3 * (i : Nat)), .int g]] := by injection e6
        rw [e7, List.length_append, hlen]
        simp
        omega
      · intro i' h'
        by_cases h2 : i' < i
        · obtain ⟨x1, x2, x3, x4, x5⟩ := hsrc i' h2
          exact ⟨x1, x2, x3, by rw [t2 _ (by omega)]; exact x4, x5⟩
        · have : i' = i := by omega
          subst this
          rw [hlen] at s2
          exact s2.mono (by omega)
      · intro i' h'
        rw [t2 _ (by omega)]
        exact hkeep i' h')
  rw [range_len, Nat.zero_add] at hacc hlen hsrc
  refine ⟨K.toNat, μ1, by omega, by omega, ?_, hsrc, hkeep, hlen⟩
  rw [ev_It, ev_Lc, e3, ev_b1, ev_wp1, ev_wp0, List.set_cons_succ, e4, ev_b1]
  simp [hacc]
end FL
namespace FL
open PySem L2
def Fw (j : Nat) (μ μ' : Mem) : Prop := μ.length ≤ μ'.length ∧ ∀ k : Nat, k < μ.length → k ≠ j → μ'[k]? = μ[k]?
theorem Fr.w {j : Nat} {μ μ' : Mem} (h : Fr j μ μ') : Fw j μ μ' := ⟨Nat.le_of_eq h.1.symm, fun k _ hk => h.2 k hk⟩
theorem Fw.refl {j : Nat} {μ : Mem} : Fw j μ μ := ⟨Nat.le_refl _, fun _ _ _ => rfl⟩
theorem Fw.trans {j : Nat} {μ μ1 μ2 : Mem} (a : Fw j μ μ1) (b : Fw j μ1 μ2) : Fw j μ μ2 := ⟨Nat.le_trans a.1 b.1, fun k hk hj => (b.2 k (by have := a.1; omega) hj).trans (a.2 k hk hj)⟩
end FL
namespace FL.S
noncomputable def b_factor_text (δ : FL.Loc) (μ : Mem) : OutS := (mRet (mIf (mTb (m2 (gEq false) (.e (m2 gIxL (.v 0) (.e (mD (.int 1))))) (.e (mD (.int 1))))) (mJoined [(mD (.str (lit "^"))), (mFmt (m2 gIxL (.v 0) (.e (mD (.int 0)))))]) (mJoined [(mD (.str (lit "^"))), (mFmt (m2 gIxL (.v 0) (.e (mD (.int 0))))), (mD (.str (lit "/"))), (mFmt (m2 gIxL (.v 0) (.e (mD (.int 1)))))]))) δ μ
noncomputable def m_factor_text : MF := mFn 1 (b_factor_text)
noncomputable def b_Query___eq__ (at_ : String → String → Att) (isa : String → String → Option Bool) (isb : String → String → Option Bool) (δ : FL.Loc) (μ : Mem) : OutS := (mRet (mAndV (mIsC isa isb "Query" (.v 1)) (m2 (gEq false) (.e (mAt at_ "own_key" (.v 0))) (.e (mAt at_ "own_key" (.v 1)))))) δ μ
noncomputable def m_Query___eq__ (at_ : String → String → Att) (isa : String → String → Option Bool) (isb : String → String → Option Bool) : MF := mFn 2 (b_Query___eq__ at_ isa isb)
end FL.S
namespace FL
open PySem L2
abbrev kinds9 : List String := ["term", "phrase", "prefix", "range", "everything", "all", "some", "without", "weighted"]
def QV (at_ : String → String → Att) (isa : String → String → Option Bool) (d : D) : Prop :=
  ∃ (c kd : String) (ks : List String) (vs ps : List D) (s l : Int) (key : List D) (fs : List Tx) (t : Tx) (i : Int), d = .ins c ks vs ∧ isa c "Query" = some true ∧ QAt at_ c kd ∧ kd ∈ kinds9 ∧ getF ks vs "KIND" = none ∧ getF ks vs "own_parts" = some (.tup ps) ∧ getF ks vs "own_size" = some (.int s) ∧
    getF ks vs "own_levels" = some (.int l) ∧ getF ks vs "own_key" = some (.tup key) ∧ getF ks vs "own_fields" = some (.tup (fs.map .str)) ∧ getF ks vs "own_text" = some (.str t) ∧ (kd = "some" → at_ c "least" = .fld ∧ getF ks vs "least" = some (.int i)) ∧ ∀ k, D.lowb k d = true
def szD (at_ : String → String → Att) (d : D) : Int := match dF at_ "own_size" d with
  | some (.int s) => s
  | _ => 0
def lvD (at_ : String → String → Att) (d : D) : Int := match dF at_ "own_levels" d with
  | some (.int s) => s
  | _ => 0
def qkD (at_ : String → String → Att) (d : D) : D := (dF at_ "own_key" d).getD .non
def fsD (at_ : String → String → Att) (d : D) : List Tx := match dF at_ "own_fields" d with
  | some (.tup xs) => xs.map txOf
  | _ => []
def tD (at_ : String → String → Att) (d : D) : Tx := match dF at_ "own_text" d with
  | some (.str s) => s
  | _ => []
def psD (at_ : String → String → Att) (d : D) : List D := match dF at_ "own_parts" d with
  | some (.tup s) => s
  | _ => []
def lsD (at_ : String → String → Att) (d : D) : Int := match dF at_ "least" d with
  | some (.int s) => s
  | _ => 0
def kdD (at_ : String → String → Att) : D → Tx
  | .ins c _ _ => (match at_ c "KIND" with
    | .con (.str k) => k
    | _ => [])
  | _ => []
def isQ : D → Bool
  | .ins _ _ _ => true
  | _ => false
def closedD (at_ : String → String → Att) (d : D) : Bool := decide ((psD at_ d).length = 1) || (decide (kdD at_ d = lit "some") && decide (lsD at_ d ≠ 1))
def kinds3 : List Tx := [lit "all", lit "some", lit "without"]
def grT (at_ : String → String → Att) (b : Bool) (d : D) : Tx :=
  if (kdD at_ d ∈ kinds3 ∧ (kdD at_ d = lit "without" ∨ closedD at_ d = false)) ∨ (b = true ∧ kdD at_ d = lit "weighted") then lit "(" ++ tD at_ d ++ lit ")" else tD at_ d
section
variable {at_ : String → String → Att} {isa isb : String → String → Option Bool} {d : D} {μ : Mem}
theorem QV.q (h : QV at_ isa d) : isQ d = true := by
  obtain ⟨c, kd, ks, vs, ps, s, l, key, fs, t, i, rfl, _⟩ := h
  rfl
theorem txOf_map (fs : List Tx) : (fs.map D.str).map txOf = fs := by
  rw [List.map_map]
  exact List.map_id'' (fun _ => rfl) _
theorem QV.fs (h : QV at_ isa d) : dF at_ "own_fields" d = some (.tup ((fsD at_ d).map .str)) := by
  obtain ⟨c, kd, ks, vs, ps, s, l, key, fs, t, i, rfl, _, A, _, _, g1, g2, g3, g4, g5, g6, _⟩ := h
  simp only [fsD, dF, A.f, g5, txOf_map]
theorem QV.ps (h : QV at_ isa d) : dF at_ "own_parts" d = some (.tup (psD at_ d)) := by
  obtain ⟨c, kd, ks, vs, ps, s, l, key, fs, t, i, rfl, _, A, _, _, g1, g2, g3, g4, g5, g6, _⟩ := h
  simp [psD, dF, A.p, g1]
theorem QV.lb (h : QV at_ isa d) (k : Nat) : D.lowb k d = true := by
  obtain ⟨c, kd, ks, vs, ps, s, l, key, fs, t, i, rfl, _, A, _, _, g1, g2, g3, g4, g5, g6, _, z⟩ := h
  exact z k
theorem lowb_get {k : Nat} {f : String} {x : D} : ∀ {ks : List String} {vs : List D}, D.lowbs k vs = true → getF ks vs f = some x → D.lowb k x = true
  | [], vs, _, e => by cases vs <;> cases e
  | q :: ks, [], _, e => by cases e
  | q :: ks, v :: vs, h, e => by
    rw [lb_cons, Bool.and_eq_true] at h
    rw [ec_g1] at e
    split at e
    · cases e; exact h.1
    · exact lowb_get h.2 e
theorem QV.lbk (h : QV at_ isa d) (k : Nat) : D.lowb k (qkD at_ d) = true := by
  obtain ⟨c, kd, ks, vs, ps, s, l, key, fs, t, i, rfl, _, A, _, _, g1, g2, g3, g4, g5, g6, _, z⟩ := h
  have z := z k
  rw [lb_ins] at z
  have : qkD at_ (.ins c ks vs) = .tup key := by simp [qkD, dF, A.k, g4]
  rw [this]
  exact lowb_get z g4
theorem grT_len (b : Bool) : (grT at_ b d).length ≤ (tD at_ d).length + 2 := by
  have l1 : (lit "(").length = 1 := by decide
  have l2 : (lit ")").length = 1 := by decide
  unfold grT
  split
  · simp only [List.length_append]; omega
  · omega
end
end FL
namespace FL
open PySem L2
abbrev tys7 : List String := ["int", "bool", "str", "NoneType", "list", "tuple", "dict"]
def NQ (isb : String → String → Option Bool) : Prop := ∀ t ∈ tys7, isb t "Query" = some false
section
variable {at_ : String → String → Att} {isa isb : String → String → Option Bool} {d : D} {μ : Mem} {k kd : Nat}
theorem sum_le {xs : List Tx} {n : Nat} (h : ∀ x ∈ xs, x.length ≤ n) : (xs.map List.length).sum ≤ n * xs.length := by
  induction xs with
  | nil => simp
  | cons x xs ih =>
    have h1 := h x (List.mem_cons_self ..)
    have h2 := ih fun v hv => h v (List.mem_cons_of_mem _ hv)
    simp only [List.map_cons, List.sum_cons, List.length_cons, Nat.mul_add, Nat.mul_one]
    omega
def grpV (at_ : String → String → Att) (kind : String) (ps vals : List D) (text : Tx) : List D :=
  [.tup ps, .int (1 + (ps.map (szD at_)).sum), .int (1 + maxI (ps.map (lvD at_))), .tup [.str (lit kind), .tup vals, .tup (ps.map (qkD at_))], .tup ((sortT (ps.map (fsD at_)).flatten).map .str), .str text]
def grpD (at_ : String → String → Att) (c kind : String) (ps vals : List D) (text : Tx) (ks : List String) (vs : List D) : D := .ins c (ks6 ++ ks) (grpV at_ kind ps vals text ++ vs)
structure Fit (at_ : String → String → Att) (isa : String → String → Option Bool) (ps : List D) : Prop where
  n : 1 ≤ ps.length
  n8 : ps.length ≤ 8
  q : ∀ p ∈ ps, QV at_ isa p
  t : ∀ p ∈ ps, (tD at_ p).length ≤ 1000000
  s : 1 + (ps.map (szD at_)).sum ≤ 60
  l : 1 + maxI (ps.map (lvD at_)) ≤ 8
  f : ((ps.map (fsD at_)).flatten).length < 4000
theorem Fit.ne {ps : List D} (F : Fit at_ isa ps) : ps ≠ [] := fun e => by have := F.n; rw [e] at this; simp at this
theorem lbs_of {k : Nat} : ∀ {xs : List D}, (∀ x ∈ xs, D.lowb k x = true) → D.lowbs k xs = true
  | [], _ => lb_nil
  | x :: xs, h => by rw [lb_cons, h x (List.mem_cons_self ..), lbs_of fun y hy => h y (List.mem_cons_of_mem _ hy)]; rfl
theorem grpV_lb {k : Nat} {kind : String} {ps vals : List D} {text : Tx} (F : Fit at_ isa ps) (hv : D.lowbs k vals = true) : D.lowbs k (grpV at_ kind ps vals text) = true := by
  have h1 : D.lowbs k ps = true := lbs_of fun p hp => (F.q p hp).lb k
  have h2 : D.lowbs k (ps.map (qkD at_)) = true := lbs_of fun x hx => by
    obtain ⟨p, hp, rfl⟩ := List.mem_map.mp hx
    exact (F.q p hp).lbk k
  simp [grpV, h1, h2, hv, lb_strs]
theorem lbs_app {k : Nat} : ∀ {xs ys : List D}, D.lowbs k (xs ++ ys) = (D.lowbs k xs && D.lowbs k ys)
  | [], ys => by simp
  | x :: xs, ys => by simp [lbs_app (xs := xs) (ys := ys), Bool.and_assoc]
theorem grp_qv {c kind : String} {ps vals : List D} {text : Tx} {ks : List String} {vs : List D} {i : Int} (A : QAt at_ c kind) (hq : isa c "Query" = some true) (hkd : kind ∈ kinds9) (F : Fit at_ isa ps) (hv : ∀ k, D.lowbs k vals = true) (hvs : ∀ k, D.lowbs k vs = true)
    (hK : getF ks vs "KIND" = none) (hl : kind = "some" → at_ c "least" = .fld ∧ getF ks vs "least" = some (.int i)) : QV at_ isa (grpD at_ c kind ps vals text ks vs) := by
  refine ⟨c, kind, _, _, ps, _, _, _, _, text, i, rfl, hq, A, hkd, ?_, rfl, rfl, rfl, rfl, rfl, rfl, fun h => ⟨(hl h).1, ?_⟩, fun k => ?_⟩
  · exact hK
  · exact (hl h).2
  · show D.lowb k (.ins c (ks6 ++ ks) (grpV at_ kind ps vals text ++ vs)) = true
    rw [lb_ins, lbs_app, grpV_lb F (hv k), hvs k]
    rfl
def allT (at_ : String → String → Att) (ps : List D) : Tx := match ps with
  | [p] => lit "&(" ++ tD at_ p ++ lit ")"
  | ps => joinT (lit " & ") (ps.map (grT at_ false))
abbrev allD (at_ : String → String → Att) (ps : List D) : D := grpD at_ "All" "all" ps [] (allT at_ ps) [] []
end
end FL
namespace FL
open PySem L2
def stT (xs : List Tx) (t0 : Tx) (m : Int) (po : Bool) : Tx :=
  if 1 < xs.length then (if m = 1 then joinT (lit " | ") xs else lit "(" ++ joinT (lit " | ") xs ++ lit ")@" ++ intT m)
  else if m = 1 then lit "|(" ++ t0 ++ lit ")" else if po = true then lit "((" ++ t0 ++ lit "))@" ++ intT m else lit "(" ++ t0 ++ lit ")@" ++ intT m
section
variable {at_ : String → String → Att} {isa isb : String → String → Option Bool} {d : D} {μ : Mem} {k kd : Nat}
theorem int8 {m : Int} (h0 : 0 ≤ m) (h8 : m ≤ 8) : (intT m).length ≤ 2 ∧ m.natAbs.log2 < 1920 := by
  constructor
  · have := intT_small ⟨m.toNat, by omega⟩
    have e : ((m.toNat : Nat) : Int) = m := by omega
    simpa only [e] using this
  · by_cases hz : m.natAbs = 0
    · rw [hz]; decide
    · exact (Nat.log2_lt hz).mpr (by have : m.natAbs < 2 ^ 6 := by omega
                                     exact Nat.lt_of_lt_of_le this (Nat.pow_le_pow_right (by decide) (by decide)))
def poD (at_ : String → String → Att) (p : D) : Bool := decide (kdD at_ p = lit "some") && !closedD at_ p
def someT (at_ : String → String → Att) (ps : List D) (m : Int) : Tx := stT (ps.map (grT at_ false)) (tD at_ (ps.headD .non)) m (poD at_ (ps.headD .non))
abbrev someD (at_ : String → String → Att) (ps : List D) (m : Int) : D := grpD at_ "Some" "some" ps [.int m] (someT at_ ps m) ["least"] [.int m]
def witT (at_ : String → String → Att) (a b : D) : Tx := grT at_ false a ++ lit " ! " ++ grT at_ false b
abbrev witD (at_ : String → String → Att) (a b : D) : D := grpD at_ "Without" "without" [a, b] [] (witT at_ a b) ["base", "excluded"] [a, b]
def goodF : D → Bool
  | .tup [.int a, .int b] => decide (1 ≤ a ∧ a ≤ 999999) && decide (1 ≤ b ∧ b ≤ 999999) && decide (Nat.gcd b.natAbs a.natAbs = 1)
  | _ => false
def flatF : D → Prop
  | .tup xs => ∀ x ∈ xs, flatD x = true
  | d => flatD d = true
theorem flatF.flat {d : D} (h : flatF d) : flatD d = true := by
  cases d <;> first | rfl | exact h
theorem int_text {i : Int} (h0 : 0 ≤ i) (h : i ≤ 1000000000) : (intT i).length ≤ 11 ∧ i.natAbs.log2 < 1920 := by
  constructor
  · have := int_len (i := i) (k := 10) (by decide) (by omega)
    have e : (intT i).length = (PyData.shown (.int i)).length := by
      rw [← toS_len, intT_toS]
      rfl
    omega
  · by_cases hz : i.natAbs = 0
    · rw [hz]; decide
    · exact (Nat.log2_lt hz).mpr (by have : i.natAbs < 2 ^ 31 := by omega
                                     exact Nat.lt_of_lt_of_le this (Nat.pow_le_pow_right (by decide) (by decide)))
def facT (a b : Int) : Tx := if b = 1 then lit "^" ++ intT a else lit "^" ++ intT a ++ lit "/" ++ intT b
theorem facT_sp {a b : Int} (a0 : 1 ≤ a) (a1 : a ≤ 999999) (b0 : 1 ≤ b) (b1 : b ≤ 999999) : S.m_factor_text [.tup [.int a, .int b]] μ = .ok (.fr (.str (facT a b))) μ ∧ (facT a b).length ≤ 30 := by
  obtain ⟨i1, i2⟩ := int_text (i := a) (by omega) (by omega)
  obtain ⟨i3, i4⟩ := int_text (i := b) (by omega) (by omega)
  have l1 : (lit "^").length = 1 := by decide
  have l2 : (lit "/").length = 1 := by decide
  have x0 : L2.atI [D.int a, .int b] 0 = some (.int a) := rfl
  have x1 : L2.atI [D.int a, .int b] 1 = some (.int b) := rfl
  rw [show S.m_factor_text = mFn 1 S.b_factor_text from rfl, ev_Fn]
  unfold S.b_factor_text facT
  generalize lit "^" = o1 at *
  generalize lit "/" = o2 at *
  have q0 : o1.length ≤ 16777216 := by omega
  have q1 : o1.length + (intT a).length ≤ 16777216 := by omega
  have q2 : o1.length + (intT a).length + o2.length ≤ 16777216 := by omega
  have q3 : o1.length + (intT a).length + o2.length + (intT b).length ≤ 16777216 := by omega
  by_cases hb : b = 1
  · subst hb
    exact ⟨by simp [startD, x0, x1, q0, q1, i2], by simp only [if_pos, List.length_append]; omega⟩
  · exact ⟨by simp [startD, x0, x1, q0, q1, q2, q3, i2, i4, hb, -List.append_assoc], by simp only [if_neg hb, List.length_append]; omega⟩
def weiT (at_ : String → String → Att) (p : D) (a b : Int) : Tx := grT at_ true p ++ facT a b
abbrev weiD (at_ : String → String → Att) (p : D) (a b : Int) : D := grpD at_ "Weighted" "weighted" [p] [.tup [.int a, .int b]] (weiT at_ p a b) ["base", "factor"] [p, .tup [.int a, .int b]]
theorem eq_sp {a b : D} {r : Bool} (ha : QV at_ isa a) (hb : QV at_ isa b) (hr : gEq false (qkD at_ a) (qkD at_ b) = some (tb r)) : S.m_Query___eq__ at_ isa isb [a, b] μ = .ok (.fr (.bl r)) μ := by
  obtain ⟨c, kd, ks, vs, ps, s, l, key, fs, t, i, rfl, hq, A, _, _, _, _, _, g1, _⟩ := ha
  obtain ⟨c', kd', ks', vs', ps', s', l', key', fs', t', i', rfl, hq', A', _, _, _, _, _, g2, _⟩ := hb
  have k1 : qkD at_ (.ins c ks vs) = .tup key := by simp [qkD, dF, A.k, g1]
  have k2 : qkD at_ (.ins c' ks' vs') = .tup key' := by simp [qkD, dF, A'.k, g2]
  rw [k1, k2] at hr
  simp [S.m_Query___eq__, S.b_Query___eq__, startD, isD, hq', A.k, A'.k, g1, g2, hr]
end
end FL
namespace FL
open PySem L2
section
variable {at_ : String → String → Att} {isa isb : String → String → Option Bool} {d : D} {μ : Mem} {k kd : Nat}
theorem iTerm_ok {f w : Tx} (A : QAt at_ "Term" "term") (A1 : at_ "Term" "field" = .fld) (A2 : at_ "Term" "word" = .fld) (hk : μ[k]? = some (.ins "Term" kd [] [])) (hf : Nm f) (hw : Wd w) :
    S.m_iTerm at_ [.obj k, .str f, .str w] μ = .ok (.fr .non) (μ.set k (.ins "Term" kd (ks6 ++ ["field", "word"]) ([.tup [], .int 1, .int 0, .tup [.str (lit "term"), .tup [.str f, .str w], .tup []], .tup [.str f], .str (f ++ lit ":" ++ w)] ++ [.str f, .str w]))) := by
  have hlt : k < μ.length := (List.getElem?_eq_some_iff.mp hk).1
  have hs : ∀ x : Own, (μ.set k x)[k]? = some x := fun x => List.getElem?_set_self hlt
  have e1 := need_field_ok (μ := μ) hf
  have e2 := need_word_ok (μ := μ) hw
  have f2 := hf.2.1
  have w2 := hw.2.1
  have l1 : (lit ":").length = 1 := by decide
  have e7 := iQuery_leaf (μ := μ) (k := k) (kd := kd) (vals := [.str f, .str w]) (init := [f]) (text := f ++ lit ":" ++ w) A hk in_term (by simp; rfl)
  simp only [List.map_cons, List.map_nil] at e7
  rw [show S.m_iTerm at_ = mFn 3 (S.b_iTerm at_) from rfl, ev_Fn]
  unfold S.b_iTerm
  generalize lit ":" = o1 at *
  have q1 : f.length ≤ 16777216 := by omega
  have q2 : w.length ≤ 16777216 := by omega
  have q3 : f.length + o1.length ≤ 16777216 := by omega
  have q4 : f.length + o1.length + w.length ≤ 16777216 := by omega
  simp [startD, e1, e2, e7, hk, hs, A1, A2, q1, q2, q3, q4, -List.append_assoc]
theorem term_ok {f w : Tx} (A : QAt at_ "Term" "term") (A1 : at_ "Term" "field" = .fld) (A2 : at_ "Term" "word" = .fld) (hf : Nm f) (hw : Wd w) : mkF "Term" (S.m_iTerm at_) [.str f, .str w] μ = .ok (.fr (termD f w)) μ := by
  refine mkF_ok (ks := ks6 ++ ["field", "word"]) ?_ (by simp)
  rw [iTerm_ok (kd := μ.length + 1) A A1 A2 ec_end0 hf hw, ec_set0]
  rfl
theorem iPrefix_ok {f w : Tx} (A : QAt at_ "Prefix" "prefix") (A1 : at_ "Prefix" "field" = .fld) (A2 : at_ "Prefix" "start" = .fld) (hk : μ[k]? = some (.ins "Prefix" kd [] [])) (hf : Nm f) (hw : Wd w) :
    S.m_iPrefix at_ [.obj k, .str f, .str w] μ = .ok (.fr .non) (μ.set k (.ins "Prefix" kd (ks6 ++ ["field", "start"]) ([.tup [], .int 1, .int 0, .tup [.str (lit "prefix"), .tup [.str f, .str w], .tup []], .tup [.str f], .str (f ++ lit ":" ++ w ++ lit "*")] ++ [.str f, .str w]))) := by
  have hlt : k < μ.length := (List.getElem?_eq_some_iff.mp hk).1
  have hs : ∀ x : Own, (μ.set k x)[k]? = some x := fun x => List.getElem?_set_self hlt
  have e1 := need_field_ok (μ := μ) hf
  have e2 := need_word_ok (μ := μ) hw
  have f2 := hf.2.1
  have w2 := hw.2.1
  have l1 : (lit ":").length = 1 := by decide
  have l2 : (lit "*").length = 1 := by decide
  have e7 := iQuery_leaf (μ := μ) (k := k) (kd := kd) (vals := [.str f, .str w]) (init := [f]) (text := f ++ lit ":" ++ w ++ lit "*") A hk in_prefix (by simp; rfl)
  simp only [List.map_cons, List.map_nil] at e7
  rw [show S.m_iPrefix at_ = mFn 3 (S.b_iPrefix at_) from rfl, ev_Fn]
  unfold S.b_iPrefix
  generalize lit ":" = o1 at *
  generalize lit "*" = o2 at *
  have q1 : f.length ≤ 16777216 := by omega
  have q2 : w.length ≤ 16777216 := by omega
  have q3 : f.length + o1.length ≤ 16777216 := by omega
  have q4 : f.length + o1.length + w.length ≤ 16777216 := by omega
  have q5 : f.length + o1.length + w.length + o2.length ≤ 16777216 := by omega
  simp [startD, e1, e2, e7, hk, hs, A1, A2, q1, q2, q3, q4, q5, -List.append_assoc]
theorem pref_ok {f w : Tx} (A : QAt at_ "Prefix" "prefix") (A1 : at_ "Prefix" "field" = .fld) (A2 : at_ "Prefix" "start" = .fld) (hf : Nm f) (hw : Wd w) : mkF "Prefix" (S.m_iPrefix at_) [.str f, .str w] μ = .ok (.fr (prefD f w)) μ := by
  refine mkF_ok (ks := ks6 ++ ["field", "start"]) ?_ (by simp)
  rw [iPrefix_ok (kd := μ.length + 1) A A1 A2 ec_end0 hf hw, ec_set0]
  rfl
def Bd : Option Int → Prop
  | none => True
  | some i => -1000000000 ≤ i ∧ i ≤ 1000000000
theorem int_text2 {i : Int} (h0 : -1000000000 ≤ i) (h : i ≤ 1000000000) : (intT i).length ≤ 11 ∧ i.natAbs.log2 < 1920 := by
  constructor
  · have := int_len (i := i) (k := 10) (by decide) (by omega)
    have e : (intT i).length = (PyData.shown (.int i)).length := by
      rw [← toS_len, intT_toS]
      rfl
    omega
  · by_cases hz : i.natAbs = 0
    · rw [hz]; decide
    · exact (Nat.log2_lt hz).mpr (by have : i.natAbs < 2 ^ 31 := by omega
                                     exact Nat.lt_of_lt_of_le this (Nat.pow_le_pow_right (by decide) (by decide)))
theorem bound_sp {b : Option Int} (h : Bd b) : S.m_bound_text [bdD b] μ = .ok (.fr (.str (bdT b))) μ ∧ (bdT b).length ≤ 11 := by
  cases b with
  | none => exact ⟨by simp [S.m_bound_text, S.b_bound_text, startD, bdD, bdT]; rfl, by simp [bdT]⟩
  | some i =>
    obtain ⟨h1, h2⟩ := int_text2 h.1 h.2
    exact ⟨by simp [S.m_bound_text, S.b_bound_text, startD, bdD, bdT, gStrI, h2], h1⟩
theorem range1 {b : Option Int} {a0 a1 a2 a3 a4 : Option FL.Slot} (h : Bd b) : (turnD (tgV 4) S.f1_iRange) (bdD b) [a0, a1, a2, a3, a4] μ = .nx [a0, a1, a2, a3, some (.fr (bdD b))] μ := by
  cases b with
  | none => simp [bdD, S.f1_iRange]
  | some i =>
    have e := int_sp (μ := μ) (d := .int i) (lo := -1000000000) (hi := 1000000000) rfl
    rw [show inI (-1000000000) 1000000000 (.int i) = true from decide_eq_true h] at e
    simp [bdD, S.f1_iRange, e]
theorem iRange_ok {f : Tx} {a b : Option Int} (A : QAt at_ "Range" "range") (A1 : at_ "Range" "field" = .fld) (A2 : at_ "Range" "low" = .fld) (A3 : at_ "Range" "high" = .fld) (hk : μ[k]? = some (.ins "Range" kd [] [])) (hf : Nm f) (ha : Bd a) (hb : Bd b) :
    S.m_iRange at_ [.obj k, .str f, bdD a, bdD b] μ = .ok (.fr .non) (μ.set k (.ins "Range" kd (ks6 ++ ["field", "low", "high"]) ([.tup [], .int 1, .int 0, .tup [.str (lit "range"), .tup [.str f, bdD a, bdD b], .tup []], .tup [.str f], .str (f ++ lit ":[" ++ bdT a ++ lit "," ++ bdT b ++ lit "]")] ++ [.str f, bdD a, bdD b]))) := by
  have hlt : k < μ.length := (List.getElem?_eq_some_iff.mp hk).1
  have hs : ∀ x : Own, (μ.set k x)[k]? = some x := fun x => List.getElem?_set_self hlt
  have e1 := need_field_ok (μ := μ) hf
  have f2 := hf.2.1
  obtain ⟨t1, t2⟩ := bound_sp (μ := μ) ha
  obtain ⟨t3, t4⟩ := bound_sp (μ := μ) hb
  have l1 : (lit ":[").length = 2 := by decide
  have l2 : (lit ",").length = 1 := by decide
  have l3 : (lit "]").length = 1 := by decide
  have e7 := iQuery_leaf (μ := μ) (k := k) (kd := kd) (vals := [.str f, bdD a, bdD b]) (init := [f]) (text := f ++ lit ":[" ++ bdT a ++ lit "," ++ bdT b ++ lit "]") A hk in_range (by simp; rfl)
  simp only [List.map_cons, List.map_nil] at e7
  have r1 := fun a4 : Option FL.Slot => range1 (μ := μ) (a0 := some (.fr (.obj k))) (a1 := some (.fr (.str f))) (a2 := some (.fr (bdD a))) (a3 := some (.fr (bdD b))) (a4 := a4) ha
  have r2 := fun a4 : Option FL.Slot => range1 (μ := μ) (a0 := some (.fr (.obj k))) (a1 := some (.fr (.str f))) (a2 := some (.fr (bdD a))) (a3 := some (.fr (bdD b))) (a4 := a4) hb
  have hr : forD (turnD (tgV 4) S.f1_iRange) [bdD a, bdD b] [some (.fr (.obj k)), some (.fr (.str f)), some (.fr (bdD a)), some (.fr (bdD b)), none] μ = .nx [some (.fr (.obj k)), some (.fr (.str f)), some (.fr (bdD a)), some (.fr (bdD b)), some (.fr (bdD b))] μ := by
    show ((turnD (tgV 4) S.f1_iRange) (bdD a) _ μ).loop _ = _
    rw [r1, ev_l1]
    show ((turnD (tgV 4) S.f1_iRange) (bdD b) _ μ).loop _ = _
    rw [r2, ev_l1]
    rfl
  rw [show S.m_iRange at_ = mFn 5 (S.b_iRange at_) from rfl, ev_Fn]
  unfold S.b_iRange
  generalize lit ":[" = o1 at *
  generalize lit "," = o2 at *
  generalize lit "]" = o3 at *
  clear r1 r2
  generalize bdT a = ta at *
  generalize bdT b = tb' at *
  generalize bdD a = da at *
  generalize bdD b = db at *
  have q1 : f.length ≤ 16777216 := by omega
  have q2 : ta.length ≤ 16777216 := by omega
  have q3 : tb'.length ≤ 16777216 := by omega
  have p1 : f.length + o1.length ≤ 16777216 := by omega
  have p2 : f.length + o1.length + ta.length ≤ 16777216 := by omega
  have p3 : f.length + o1.length + ta.length + o2.length ≤ 16777216 := by omega
  have p4 : f.length + o1.length + ta.length + o2.length + tb'.length ≤ 16777216 := by omega
  have p5 : f.length + o1.length + ta.length + o2.length + tb'.length + o3.length ≤ 16777216 := by omega
  simp [startD, e1, e7, hr, t1, t3, hk, hs, A1, A2, A3, q1, q2, q3, p1, p2, p3, p4, p5, -List.append_assoc]
theorem bd_lb {b : Option Int} {k : Nat} : D.lowb k (bdD b) = true := by cases b <;> simp [bdD]
theorem range_ok {f : Tx} {a b : Option Int} (A : QAt at_ "Range" "range") (A1 : at_ "Range" "field" = .fld) (A2 : at_ "Range" "low" = .fld) (A3 : at_ "Range" "high" = .fld) (hf : Nm f) (ha : Bd a) (hb : Bd b) : mkF "Range" (S.m_iRange at_) [.str f, bdD a, bdD b] μ = .ok (.fr (rangD f a b)) μ := by
  refine mkF_ok (ks := ks6 ++ ["field", "low", "high"]) ?_ (by simp [bd_lb])
  rw [iRange_ok (kd := μ.length + 1) A A1 A2 A3 ec_end0 hf ha hb, ec_set0]
  rfl
theorem every_ok (A : QAt at_ "Everything" "everything") : mkF "Everything" (S.m_iEverything at_) [] μ = .ok (.fr everD) μ := by
  refine mkF_ok (ks := ks6 ++ []) ?_ (by simp)
  have e7 := iQuery_leaf (μ := newM μ "Everything" [] []) (k := μ.length) (kd := μ.length + 1) (vals := []) (init := []) (text := lit "#") A ec_end0 in_every (by simp)
  rw [ec_set0] at e7
  simp only [List.map_nil] at e7
  have hk : (newM μ "Everything" [] [])[μ.length]? = some (.ins "Everything" (μ.length + 1) [] []) := ec_end0
  generalize newM μ "Everything" [] [] = μ1 at *
  simp [S.m_iEverything, S.b_iEverything, startD, e7, hk]
theorem leaf_qv {c kind : String} {vals : List D} {fs : List Tx} {t : Tx} {ks : List String} {vs : List D} (A : QAt at_ c kind) (hq : isa c "Query" = some true) (hk : kind ∈ kinds9) (hn : kind ≠ "some") (hv : ∀ k, D.lowbs k vals = true) (hvs : ∀ k, D.lowbs k vs = true) (hK : getF ks vs "KIND" = none) :
    QV at_ isa (qD c [] 1 0 (.tup [.str (lit kind), .tup vals, .tup []]) fs t ks vs) :=
  ⟨c, kind, _, _, [], _, _, _, fs, t, 0, rfl, hq, A, hk, hK, rfl, rfl, rfl, rfl, rfl, rfl, fun h => absurd h hn, fun k => by
    rw [lb_ins, lbs_app, hvs k]
    simp [hv k, lb_strs]⟩
end
end FL
namespace FL
open PySem L2
inductive Frm where
  | term (f w : Tx)
  | phra (f : Tx) (ws : List Tx) (g : Int)
  | pref (f w : Tx)
  | rang (f : Tx) (a b : Option Int)
  | ever
  | all (ps : List Frm)
  | some (ps : List Frm) (m : Int)
  | weig (b : Frm) (x y : Int)
  | wout (b e : Frm)
mutual
/-- the query of a plain form -/
def qF (at_ : String → String → Att) : Frm → D
  | .term f w => termD f w
  | .phra f ws g => phraD f ws g
  | .pref f w => prefD f w
  | .rang f a b => rangD f a b
  | .ever => everD
  | .all ps => allD at_ (qFs at_ ps)
  | .some ps m => someD at_ (qFs at_ ps) m
  | .weig b x y => weiD at_ (qF at_ b) x y
  | .wout b e => witD at_ (qF at_ b) (qF at_ e)
def qFs (at_ : String → String → Att) : List Frm → List D
  | [] => []
  | p :: ps => qF at_ p :: qFs at_ ps
end
theorem qFs_map (at_ : String → String → Att) : ∀ ps : List Frm, qFs at_ ps = ps.map (qF at_)
  | [] => by simp [qFs]
  | p :: ps => by simp [qFs, qFs_map at_ ps]
def Vd (W : Nat) : Nat → Frm → Prop
  | _, .term f w => Nm f ∧ Wd w
  | _, .phra f ws g => Nm f ∧ (∀ w ∈ ws, Wd w) ∧ (2 ≤ ws.length ∧ ws.length ≤ 6) ∧ 0 ≤ g ∧ g ≤ 20
  | _, .pref f w => Nm f ∧ Wd w
  | _, .rang f a b => Nm f ∧ Bd a ∧ Bd b
  | _, .ever => True
  | n + 1, .all ps => (1 ≤ ps.length ∧ ps.length ≤ W) ∧ ∀ p ∈ ps, Vd W n p
  | n + 1, .some ps m => (1 ≤ ps.length ∧ ps.length ≤ W) ∧ (∀ p ∈ ps, Vd W n p) ∧ 0 ≤ m ∧ m ≤ 8
  | n + 1, .weig b x y => Vd W n b ∧ goodF (.tup [.int x, .int y]) = true
  | n + 1, .wout b e => Vd W n b ∧ Vd W n e
  | 0, _ => False
def sB (W : Nat) : Nat → Nat
  | 0 => 1
  | n + 1 => 1 + W * sB W n
def tB (W : Nat) : Nat → Nat
  | 0 => 400
  | n + 1 => 100 + W * (tB W n + 10)
structure QW (at_ : String → String → Att) (isa isb : String → String → Option Bool) : Prop where
  t : QAt at_ "Term" "term"
  p : QAt at_ "Prefix" "prefix"
  r : QAt at_ "Range" "range"
  e : QAt at_ "Everything" "everything"
  a : QAt at_ "All" "all"
  s : QAt at_ "Some" "some"
  w : QAt at_ "Without" "without"
  g : QAt at_ "Weighted" "weighted"
  h : PhAt at_
  t1 : at_ "Term" "field" = .fld
  t2 : at_ "Term" "word" = .fld
  p1 : at_ "Prefix" "field" = .fld
  p2 : at_ "Prefix" "start" = .fld
  r1 : at_ "Range" "field" = .fld
  r2 : at_ "Range" "low" = .fld
  r3 : at_ "Range" "high" = .fld
  s1 : at_ "Some" "least" = .fld
  w1 : at_ "Without" "base" = .fld
  w2 : at_ "Without" "excluded" = .fld
  g1 : at_ "Weighted" "base" = .fld
  g2 : at_ "Weighted" "factor" = .fld
  i : ∀ c ∈ ["Term", "Phrase", "Prefix", "Range", "Everything", "All", "Some", "Without", "Weighted"], isa c "Query" = some true
  n : NQ isb
structure Md (at_ : String → String → Att) (isa : String → String → Option Bool) (W n : Nat) (d : D) : Prop where
  q : QV at_ isa d
  s : szD at_ d ≤ sB W n
  l : lvD at_ d ≤ n
  t : (tD at_ d).length ≤ tB W n
  f : (fsD at_ d).length ≤ sB W n
section
variable {at_ : String → String → Att} {isa isb : String → String → Option Bool} {W n : Nat}
theorem max_le' {ns : List Int} {m : Int} (h0 : 0 ≤ m) (h : ∀ n ∈ ns, n ≤ m) : maxI ns ≤ m := by
  cases ns with
  | nil => exact h0
  | cons n ns =>
    rcases (foldl_max ns n).1 with e | e
    · show ns.foldl max n ≤ m
      rw [e]; exact h n (List.mem_cons_self ..)
    · exact h _ (List.mem_cons_of_mem _ e)
theorem md_sums {ps : List D} {m : Nat} (hs : ∀ p ∈ ps, szD at_ p ≤ m) (hf : ∀ p ∈ ps, (fsD at_ p).length ≤ m) : (ps.map (szD at_)).sum ≤ m * ps.length ∧ ((ps.map (fsD at_)).flatten).length ≤ m * ps.length := by
  induction ps with
  | nil => simp
  | cons p ps ih =>
    obtain ⟨h1, h2⟩ := ih (fun q hq => hs q (List.mem_cons_of_mem _ hq)) fun q hq => hf q (List.mem_cons_of_mem _ hq)
    have a := hs p (List.mem_cons_self ..)
    have b := hf p (List.mem_cons_self ..)
    simp only [List.map_cons, List.sum_cons, List.flatten_cons, List.length_append, List.length_cons, Nat.mul_add, Nat.mul_one]
    constructor
    · push_cast at h1 ⊢
      rw [Int.mul_add]
      omega
    · omega
theorem md_fit {ps : List D} (hW : W ≤ 8) (h1 : 1 ≤ ps.length) (h8 : ps.length ≤ W) (hS : sB W (n + 1) ≤ 60) (hn : n + 1 ≤ 8) (hT : tB W n ≤ 1000000) (h : ∀ p ∈ ps, Md at_ isa W n p) : Fit at_ isa ps := by
  obtain ⟨a, b⟩ := md_sums (at_ := at_) (m := sB W n) (ps := ps) (fun p hp => (h p hp).s) (fun p hp => (h p hp).f)
  have hb : sB W n * ps.length ≤ sB W n * W := Nat.mul_le_mul_left _ h8
  have hc : sB W (n + 1) = 1 + sB W n * W := by show 1 + W * sB W n = _; rw [Nat.mul_comm]
  refine ⟨h1, by omega, fun p hp => (h p hp).q, fun p hp => Nat.le_trans (h p hp).t hT, ?_, ?_, by omega⟩
  · have : ((sB W n * ps.length : Nat) : Int) ≤ ((sB W n * W : Nat) : Int) := Int.ofNat_le.mpr hb
    push_cast at this a ⊢
    omega
  · have := max_le' (ns := ps.map (lvD at_)) (m := n) (by omega) fun m hm => by
      obtain ⟨p, hp, rfl⟩ := List.mem_map.mp hm
      exact (h p hp).l
    omega
end
end FL
namespace FL
open PySem L2
theorem ins_len : ∀ (xs acc : List Tx), (xs.foldl insT acc).length ≤ acc.length + xs.length
  | [], acc => by simp
  | x :: xs, acc => by
    have := ins_len xs (insT acc x)
    rw [List.foldl_cons, List.length_cons]
    have h : (insT acc x).length ≤ acc.length + 1 := by
      unfold insT
      split <;> simp
    omega
theorem sort_len (xs : List Tx) : (sortT xs).length ≤ xs.length := by
  unfold sortT
  rw [List.length_mergeSort]
  have := ins_len xs []
  simpa using this
theorem sB_pos (W : Nat) : ∀ n, 1 ≤ sB W n
  | 0 => Nat.le_refl _
  | n + 1 => by show 1 ≤ 1 + W * sB W n; omega
theorem tB_pos (W : Nat) : ∀ n, W ≥ 1 → 400 ≤ tB W n
  | 0, _ => Nat.le_refl _
  | n + 1, h => by
    show 400 ≤ 100 + W * (tB W n + 10)
    have := tB_pos W n h
    have h2 : 1 * (tB W n + 10) ≤ W * (tB W n + 10) := Nat.mul_le_mul_right _ h
    omega
section
variable {at_ : String → String → Att} {isa isb : String → String → Option Bool} {W n : Nat} {μ : Mem}
theorem leaf_md {c kind : String} {key : List D} {fs : List Tx} {t : Tx} {ks : List String} {vs : List D} (hW : 1 ≤ W) (A : QAt at_ c kind) (q : QV at_ isa (qD c [] 1 0 (.tup key) fs t ks vs)) (ht : t.length ≤ 400) (hf : fs.length ≤ 1) : Md at_ isa W n (qD c [] 1 0 (.tup key) fs t ks vs) := by
  have h1 := sB_pos W n
  have h2 := tB_pos W n hW
  refine ⟨q, ?_, ?_, ?_, ?_⟩
  · rw [show szD at_ (qD c [] 1 0 (.tup key) fs t ks vs) = 1 by simp [szD, dF, A.s]]; omega
  · rw [show lvD at_ (qD c [] 1 0 (.tup key) fs t ks vs) = 0 by simp [lvD, dF, A.l]]; omega
  · rw [show tD at_ (qD c [] 1 0 (.tup key) fs t ks vs) = t by simp [tD, dF, A.t]]; omega
  · have g : getF (ks6 ++ ks) ([.tup [], .int 1, .int 0, .tup key, .tup (fs.map .str), .str t] ++ vs) "own_fields" = some (.tup (fs.map .str)) := rfl
    rw [show fsD at_ (qD c [] 1 0 (.tup key) fs t ks vs) = fs by simp only [fsD, dF, A.f, g, txOf_map]]
    omega
theorem grp_md {c kind : String} {ps vals : List D} {text : Tx} {ks : List String} {vs : List D} (A : QAt at_ c kind) (hn : ps.length ≤ W) (h : ∀ p ∈ ps, Md at_ isa W n p) (q : QV at_ isa (grpD at_ c kind ps vals text ks vs)) (ht : text.length ≤ tB W (n + 1)) : Md at_ isa W (n + 1) (grpD at_ c kind ps vals text ks vs) := by
  obtain ⟨a, b⟩ := md_sums (at_ := at_) (m := sB W n) (ps := ps) (fun p hp => (h p hp).s) (fun p hp => (h p hp).f)
  have hb : sB W n * ps.length ≤ sB W n * W := Nat.mul_le_mul_left _ hn
  have hc : sB W (n + 1) = 1 + sB W n * W := by show 1 + W * sB W n = _; rw [Nat.mul_comm]
  have hm := max_le' (ns := ps.map (lvD at_)) (m := n) (by omega) fun m hm => by
    obtain ⟨p, hp, rfl⟩ := List.mem_map.mp hm
    exact (h p hp).l
  refine ⟨q, ?_, ?_, ?_, ?_⟩
  · rw [show szD at_ (grpD at_ c kind ps vals text ks vs) = 1 + (ps.map (szD at_)).sum by simp [szD, dF, A.s, grpD, grpV]]
    have : ((sB W n * ps.length : Nat) : Int) ≤ ((sB W n * W : Nat) : Int) := Int.ofNat_le.mpr hb
    rw [hc]
    push_cast at this a ⊢
    omega
  · rw [show lvD at_ (grpD at_ c kind ps vals text ks vs) = 1 + maxI (ps.map (lvD at_)) by simp [lvD, dF, A.l, grpD, grpV]]
    push_cast
    omega
  · rw [show tD at_ (grpD at_ c kind ps vals text ks vs) = text by simp [tD, dF, A.t, grpD, grpV]]
    exact ht
  · have g : getF (ks6 ++ ks) (grpV at_ kind ps vals text ++ vs) "own_fields" = some (.tup ((sortT (ps.map (fsD at_)).flatten).map .str)) := rfl
    have hd : dF at_ "own_fields" (grpD at_ c kind ps vals text ks vs) = some (.tup ((sortT (ps.map (fsD at_)).flatten).map .str)) := by
      unfold grpD dF
      simp only [A.f, g]
    have e : fsD at_ (grpD at_ c kind ps vals text ks vs) = sortT (ps.map (fsD at_)).flatten := by
      generalize sortT (ps.map (fsD at_)).flatten = S at hd ⊢
      unfold fsD
      rw [hd]
      exact txOf_map S
    rw [e]
    have := sort_len (ps.map (fsD at_)).flatten
    omega
theorem gr_sum {ps : List D} {T : Nat} (ht : ∀ p ∈ ps, (tD at_ p).length ≤ T) (b : Bool) : ((ps.map (grT at_ b)).map List.length).sum ≤ (T + 2) * ps.length := by
  have := sum_le (xs := ps.map (grT at_ b)) (n := T + 2) fun x hx => by
    obtain ⟨p, hp, rfl⟩ := List.mem_map.mp hx
    have h1 := grT_len (at_ := at_) (d := p) b
    have h2 := ht p hp
    omega
  rwa [List.length_map] at this
theorem grj_len {sep : Tx} {ps : List D} {T : Nat} (hs : sep.length ≤ 3) (ht : ∀ p ∈ ps, (tD at_ p).length ≤ T) (hl : ps.length ≤ W) : (joinT sep (ps.map (grT at_ false))).length ≤ W * (T + 5) := by
  have h1 := joinT_len sep (ps.map (grT at_ false))
  have h2 := gr_sum ht false
  rw [List.length_map] at h1
  have h3 : sep.length * ps.length ≤ 3 * ps.length := Nat.mul_le_mul_right _ hs
  have h4 : (T + 5) * ps.length ≤ (T + 5) * W := Nat.mul_le_mul_left _ hl
  have h5 : (T + 5) * ps.length = (T + 2) * ps.length + 3 * ps.length := by rw [← Nat.add_mul]
  rw [Nat.mul_comm W]
  omega
theorem tB_step {W n : Nat} : W * (tB W n + 5) + 50 ≤ tB W (n + 1) := by
  show _ ≤ 100 + W * (tB W n + 10)
  have : W * (tB W n + 5) ≤ W * (tB W n + 10) := Nat.mul_le_mul_left _ (by omega)
  omega
theorem tB_one (hW : 2 ≤ W) : 2 * (tB W n + 5) + 50 ≤ tB W (n + 1) := by
  have h : 2 * (tB W n + 5) ≤ W * (tB W n + 5) := Nat.mul_le_mul_right _ hW
  have := tB_step (W := W) (n := n)
  omega
theorem allT_len {ps : List D} (hW : 2 ≤ W) (hl : ps.length ≤ W) (h : ∀ p ∈ ps, (tD at_ p).length ≤ tB W n) : (allT at_ ps).length ≤ tB W (n + 1) := by
  have s1 := tB_step (W := W) (n := n)
  have s2 := tB_one (n := n) hW
  unfold allT
  split
  · rename_i p
    have := h p (by simp)
    have l1 : (lit "&(").length = 2 := by decide
    have l2 : (lit ")").length = 1 := by decide
    simp only [List.length_append]
    omega
  · have := grj_len (sep := lit " & ") (by decide) h hl
    omega
theorem someT_len {ps : List D} {m : Int} (hW : 2 ≤ W) (h1 : 1 ≤ ps.length) (hl : ps.length ≤ W) (h : ∀ p ∈ ps, (tD at_ p).length ≤ tB W n) (m0 : 0 ≤ m) (m8 : m ≤ 8) : (someT at_ ps m).length ≤ tB W (n + 1) := by
  have s1 := tB_step (W := W) (n := n)
  have s2 := tB_one (n := n) hW
  have im := (int8 m0 m8).1
  have hj := grj_len (sep := lit " | ") (by decide) h hl
  have hh : (tD at_ (ps.headD .non)).length ≤ tB W n := by
    cases ps with
    | nil => simp at h1
    | cons p ps => exact h p (List.mem_cons_self ..)
  have l1 : (lit "(").length = 1 := by decide
  have l2 : (lit ")@").length = 2 := by decide
  have l3 : (lit "|(").length = 2 := by decide
  have l4 : (lit ")").length = 1 := by decide
  have l5 : (lit "((").length = 2 := by decide
  have l6 : (lit "))@").length = 3 := by decide
  unfold someT stT
  split
  · split
    · omega
    · simp only [List.length_append]; omega
  · split
    · simp only [List.length_append]; omega
    · split <;> (simp only [List.length_append]; omega)
theorem witT_len {a b : D} (hW : 2 ≤ W) (ha : (tD at_ a).length ≤ tB W n) (hb : (tD at_ b).length ≤ tB W n) : (witT at_ a b).length ≤ tB W (n + 1) := by
  have s2 := tB_one (n := n) hW
  have h1 := grT_len (at_ := at_) (d := a) false
  have h2 := grT_len (at_ := at_) (d := b) false
  have l3 : (lit " ! ").length = 3 := by decide
  unfold witT
  simp only [List.length_append]
  omega
theorem weiT_len {a : D} {x y : Int} (hW : 2 ≤ W) (ha : (tD at_ a).length ≤ tB W n) (g : goodF (.tup [.int x, .int y]) = true) : (weiT at_ a x y).length ≤ tB W (n + 1) := by
  have s2 := tB_one (n := n) hW
  have h1 := grT_len (at_ := at_) (d := a) true
  have g' := g
  simp only [goodF, Bool.and_eq_true, decide_eq_true_eq] at g'
  have h2 := (facT_sp (μ := []) g'.1.1.1 g'.1.1.2 g'.1.2.1 g'.1.2.2).2
  unfold weiT
  simp only [List.length_append]
  omega
theorem len_words {ws : List Tx} (h : ∀ w ∈ ws, Wd w) : (ws.map List.length).sum ≤ 20 * ws.length := len20 fun w hw => by have := (h w hw).2.1; omega
theorem md_of (Q : QW at_ isa isb) (hW : 2 ≤ W) (hW8 : W ≤ 8) : ∀ (n : Nat) (F : Frm), Vd W n F → sB W n ≤ 60 → n ≤ 8 → tB W n ≤ 1000000 → Md at_ isa W n (qF at_ F) := by
  have hW1 : 1 ≤ W := by omega
  have leaf : ∀ (n : Nat) (F : Frm), Vd W 0 F → Md at_ isa W n (qF at_ F) := by
    intro n F v
    cases F with
    | term f w =>
      have a1 := v.1.2.1
      have a2 := v.2.2.1
      have l1 : (lit ":").length = 1 := by decide
      exact leaf_md hW1 Q.t (leaf_qv Q.t (Q.i _ (by simp)) (by simp) (by decide) (by simp) (by simp) rfl) (by simp only [List.length_append]; omega) (by simp)
    | pref f w =>
      have a1 := v.1.2.1
      have a2 := v.2.2.1
      have l1 : (lit ":").length = 1 := by decide
      have l2 : (lit "*").length = 1 := by decide
      exact leaf_md hW1 Q.p (leaf_qv Q.p (Q.i _ (by simp)) (by simp) (by decide) (by simp) (by simp) rfl) (by simp only [List.length_append]; omega) (by simp)
    | phra f ws g =>
      obtain ⟨v1, v2, v3, v4, v5⟩ := v
      have a1 := v1.2.1
      have h1 := joinT_len (lit " ") ws
      have h2 := len_words v2
      have l1 : (lit ":\"").length = 2 := by decide
      have l2 : (lit "\"").length = 1 := by decide
      have l3 : (lit "~").length = 1 := by decide
      have l4 : (lit " ").length = 1 := by decide
      have h3 : (lit " ").length * ws.length ≤ 6 := by rw [l4]; omega
      have im := (int_text2 (i := g) (by omega) (by omega)).1
      refine leaf_md hW1 Q.h.q (leaf_qv Q.h.q (Q.i _ (by simp)) (by simp) (by decide) (by simp [lb_strs]) (by simp [lb_strs]) rfl) ?_ (by simp)
      unfold phT
      split <;> (simp only [List.length_append]; omega)
    | rang f a b =>
      obtain ⟨v1, v2, v3⟩ := v
      have a1 := v1.2.1
      have h1 := (bound_sp (μ := []) v2).2
      have h2 := (bound_sp (μ := []) v3).2
      have l1 : (lit ":[").length = 2 := by decide
      have l2 : (lit ",").length = 1 := by decide
      have l3 : (lit "]").length = 1 := by decide
      exact leaf_md hW1 Q.r (leaf_qv Q.r (Q.i _ (by simp)) (by simp) (by decide) (by simp [bd_lb]) (by simp [bd_lb]) rfl) (by simp only [List.length_append]; omega) (by simp)
    | ever => exact leaf_md (fs := []) hW1 Q.e (leaf_qv (fs := []) Q.e (Q.i _ (by simp)) (by simp) (by decide) (by simp) (by simp) rfl) (by decide) (by simp)
    | all ps => exact v.elim
    | some ps m => exact v.elim
    | weig b x y => exact v.elim
    | wout b e => exact v.elim
  intro n
  induction n with
  | zero => intro F v hS hn hT; exact leaf 0 F v
  | succ n ih =>
    intro F v hS hn hT
    have hS' : sB W n ≤ 60 := by
      have : sB W (n + 1) = 1 + W * sB W n := rfl
      have h1 : 1 * sB W n ≤ W * sB W n := Nat.mul_le_mul_right _ hW1
      omega
    have hT' : tB W n ≤ 1000000 := by
      have := tB_one (n := n) hW
      omega
    have ih := fun F v => ih F v hS' (by omega) hT'
    cases F with
    | term f w => exact leaf _ _ v
    | pref f w => exact leaf _ _ v
    | phra f ws g => exact leaf _ _ v
    | rang f a b => exact leaf _ _ v
    | ever => exact leaf _ .ever trivial
    | all ps =>
      obtain ⟨⟨h1, h8⟩, hp⟩ := v
      have hm : ∀ p ∈ qFs at_ ps, Md at_ isa W n p := fun p hp' => by
        rw [qFs_map] at hp'
        obtain ⟨F, hF, rfl⟩ := List.mem_map.mp hp'
        exact ih F (hp F hF)
      have hl : (qFs at_ ps).length = ps.length := by rw [qFs_map, List.length_map]
      have F := md_fit hW8 (by omega) (by omega) hS hn hT' hm
      rw [qF]
      exact grp_md Q.a (by omega) hm (grp_qv (i := 0) Q.a (Q.i _ (by simp)) (by simp) F (by simp) (by simp) rfl (fun h => absurd h (by decide))) (allT_len hW (by omega) fun p hp => (hm p hp).t)
    | some ps m =>
      obtain ⟨⟨h1, h8⟩, hp, m0, m8⟩ := v
      have hm : ∀ p ∈ qFs at_ ps, Md at_ isa W n p := fun p hp' => by
        rw [qFs_map] at hp'
        obtain ⟨F, hF, rfl⟩ := List.mem_map.mp hp'
        exact ih F (hp F hF)
      have hl : (qFs at_ ps).length = ps.length := by rw [qFs_map, List.length_map]
      have F := md_fit hW8 (by omega) (by omega) hS hn hT' hm
      rw [qF]
      exact grp_md Q.s (by omega) hm (grp_qv (i := m) Q.s (Q.i _ (by simp)) (by simp) F (by simp) (by simp) rfl (fun _ => ⟨Q.s1, rfl⟩)) (someT_len hW (by omega) (by omega) (fun p hp => (hm p hp).t) m0 m8)
    | weig b x y =>
      obtain ⟨hb, g⟩ := v
      have hm : ∀ p ∈ [qF at_ b], Md at_ isa W n p := fun p hp' => by rw [List.mem_singleton.mp hp']; exact ih b hb
      have F := md_fit hW8 (by simp) (by simp; omega) hS hn hT' hm
      rw [qF]
      exact grp_md Q.g (by simp; omega) hm (grp_qv (i := 0) Q.g (Q.i _ (by simp)) (by simp) F (by simp) (by simp [(ih b hb).q.lb]) rfl (fun h => absurd h (by decide))) (weiT_len hW (ih b hb).t g)
    | wout b e =>
      obtain ⟨hb, he⟩ := v
      have hm : ∀ p ∈ [qF at_ b, qF at_ e], Md at_ isa W n p := fun p hp' => by
        simp only [List.mem_cons, List.not_mem_nil, or_false] at hp'
        rcases hp' with rfl | rfl
        · exact ih b hb
        · exact ih e he
      have F := md_fit hW8 (by simp) (by simp; omega) hS hn hT' hm
      rw [qF]
      exact grp_md Q.w (by simp; omega) hm (grp_qv (i := 0) Q.w (Q.i _ (by simp)) (by simp) F (by simp) (by simp [(ih b hb).q.lb, (ih e he).q.lb]) rfl (fun h => absurd h (by decide))) (witT_len hW (ih b hb).t (ih e he).t)
end
end FL
namespace FL
open PySem L2
theorem lit_term : lit "term" = [116, 101, 114, 109] := by decide +kernel
theorem lit_phrase : lit "phrase" = [112, 104, 114, 97, 115, 101] := by decide +kernel
theorem lit_prefix : lit "prefix" = [112, 114, 101, 102, 105, 120] := by decide +kernel
theorem lit_range : lit "range" = [114, 97, 110, 103, 101] := by decide +kernel
theorem lit_everything : lit "everything" = [101, 118, 101, 114, 121, 116, 104, 105, 110, 103] := by decide +kernel
theorem lit_all : lit "all" = [97, 108, 108] := by decide +kernel
theorem lit_some : lit "some" = [115, 111, 109, 101] := by decide +kernel
theorem lit_weighted : lit "weighted" = [119, 101, 105, 103, 104, 116, 101, 100] := by decide +kernel
theorem lit_without : lit "without" = [119, 105, 116, 104, 111, 117, 116] := by decide +kernel
theorem eqT {xs ys : List PyData} : PyData.eqv (.tuple xs) (.tuple ys) = PyData.eqvAll xs ys := by rw [PyData.eqv]
end FL
namespace FL
open PySem L2
theorem asc_nm {f : Tx} (h : Nm f) : ∀ c ∈ f, c < 128 := fun c hc => by
  have := h.2.2 c hc
  have e : ∀ c ∈ LT, c < 128 := by decide +kernel
  exact e c this
theorem asc_wd {f : Tx} (h : Wd f) : ∀ c ∈ f, c < 128 := fun c hc => by
  have := h.2.2 c hc
  have e : ∀ c ∈ WS, c < 128 := by decide +kernel
  exact e c this
theorem layAll {xs : List PyData} (h : ∀ x ∈ xs, PyData.canLay0 x = true) : PyData.canLayAll0 xs = true := by
  induction xs with
  | nil => simp [PyData.canLayAll0]
  | cons x xs ih => simp [PyData.canLayAll0, h x (List.mem_cons_self ..), ih fun y hy => h y (List.mem_cons_of_mem _ hy)]
theorem depAll {xs : List PyData} {d : Nat} (h : ∀ x ∈ xs, PyData.depth x ≤ d) : PyData.depthAll xs ≤ d := by
  induction xs with
  | nil => simp [PyData.depthAll]
  | cons x xs ih =>
    have h1 := h x (List.mem_cons_self ..)
    have h2 := ih fun y hy => h y (List.mem_cons_of_mem _ hy)
    simp only [PyData.depthAll]
    omega
def Ly (d : Nat) (q : PyData) : Prop := PyData.canLay0 q = true ∧ PyData.depth q ≤ d
theorem Ly.mono {d e : Nat} {q : PyData} (h : Ly d q) (l : d ≤ e) : Ly e q := ⟨h.1, Nat.le_trans h.2 l⟩
theorem Ly.tup {d : Nat} {xs : List PyData} (h : ∀ x ∈ xs, Ly d x) : Ly (d + 1) (.tuple xs) := by
  refine ⟨?_, ?_⟩
  · simp only [PyData.canLay0]; exact layAll fun x hx => (h x hx).1
  · simp only [PyData.depth]
    have := depAll fun x hx => (h x hx).2
    omega
theorem Ly.t1 {d : Nat} {a : PyData} (h1 : Ly d a) : Ly (d + 1) (.tuple [a]) := Ly.tup fun x hx => by
  rw [List.mem_singleton.mp hx]; exact h1
theorem Ly.t2 {d : Nat} {a b : PyData} (h1 : Ly d a) (h2 : Ly d b) : Ly (d + 1) (.tuple [a, b]) := Ly.tup fun x hx => by
  simp only [List.mem_cons, List.not_mem_nil, or_false] at hx
  rcases hx with rfl | rfl
  · exact h1
  · exact h2
end FL
namespace FL
open PySem L2
section
variable {at_ : String → String → Att} {isa isb : String → String → Option Bool} {d : D} {μ : Mem} {k kd : Nat}
structure FitN (at_ : String → String → Att) (isa : String → String → Option Bool) (ps : List D) : Prop where
  n : 1 ≤ ps.length
  n8 : ps.length ≤ 8
  q : ∀ p ∈ ps, QV at_ isa p
  t : ∀ p ∈ ps, (tD at_ p).length ≤ 1000000
  x : 60 < 1 + (ps.map (szD at_)).sum ∨ 8 < 1 + maxI (ps.map (lvD at_))
theorem FitN.ne {ps : List D} (F : FitN at_ isa ps) : ps ≠ [] := fun e => by have := F.n; rw [e] at this; simp at this
end
end FL
namespace FL
open PySem L2
mutual
def szF : Frm → Nat
  | .term _ _ => 1
  | .phra _ _ _ => 1
  | .pref _ _ => 1
  | .rang _ _ _ => 1
  | .ever => 1
  | .all ps => 1 + szFs ps
  | .some ps _ => 1 + szFs ps
  | .weig b _ _ => 1 + szF b
  | .wout b e => 1 + (szF b + szF e)
def szFs : List Frm → Nat
  | [] => 0
  | p :: ps => szF p + szFs ps
end
mutual
def lvF : Frm → Nat
  | .term _ _ => 0
  | .phra _ _ _ => 0
  | .pref _ _ => 0
  | .rang _ _ _ => 0
  | .ever => 0
  | .all ps => 1 + lvFs ps
  | .some ps _ => 1 + lvFs ps
  | .weig b _ _ => 1 + lvF b
  | .wout b e => 1 + max (lvF b) (lvF e)
def lvFs : List Frm → Nat
  | [] => 0
  | p :: ps => max (lvF p) (lvFs ps)
end
mutual
def Gd : Frm → Prop
  | .term f w => Nm f ∧ Wd w
  | .phra f ws g => Nm f ∧ (∀ w ∈ ws, Wd w) ∧ (2 ≤ ws.length ∧ ws.length ≤ 6) ∧ 0 ≤ g ∧ g ≤ 20
  | .pref f w => Nm f ∧ Wd w
  | .rang f a b => Nm f ∧ Bd a ∧ Bd b
  | .ever => True
  | .all ps => (1 ≤ ps.length ∧ ps.length ≤ 8) ∧ Gds ps ∧ 1 + szFs ps ≤ 60 ∧ 1 + lvFs ps ≤ 8
  | .some ps m => (1 ≤ ps.length ∧ ps.length ≤ 8) ∧ Gds ps ∧ (0 ≤ m ∧ m ≤ 8) ∧ 1 + szFs ps ≤ 60 ∧ 1 + lvFs ps ≤ 8
  | .weig b x y => Gd b ∧ goodF (.tup [.int x, .int y]) = true ∧ 1 + szF b ≤ 60 ∧ 1 + lvF b ≤ 8
  | .wout b e => (Gd b ∧ Gd e) ∧ 1 + (szF b + szF e) ≤ 60 ∧ 1 + max (lvF b) (lvF e) ≤ 8
def Gds : List Frm → Prop
  | [] => True
  | p :: ps => Gd p ∧ Gds ps
end
theorem gds_iff : ∀ {ps : List Frm}, Gds ps ↔ ∀ p ∈ ps, Gd p
  | [] => by simp [Gds]
  | p :: ps => by simp [Gds, gds_iff (ps := ps)]
theorem szF_pos : ∀ F : Frm, 1 ≤ szF F := fun F => by cases F <;> simp only [szF] <;> omega
theorem szF_mem : ∀ {ps : List Frm} {p : Frm}, p ∈ ps → szF p ≤ szFs ps
  | q :: ps, p, h => by
    rw [szFs]
    rcases List.mem_cons.mp h with rfl | h
    · omega
    · have := szF_mem h; omega
theorem lvF_mem : ∀ {ps : List Frm} {p : Frm}, p ∈ ps → lvF p ≤ lvFs ps
  | q :: ps, p, h => by
    rw [lvFs]
    rcases List.mem_cons.mp h with rfl | h
    · omega
    · have := lvF_mem h; omega
theorem gd_sz {F : Frm} (g : Gd F) : szF F ≤ 60 := by
  cases F <;> simp only [Gd, szF] at g ⊢ <;> omega
theorem gd_lv {F : Frm} (g : Gd F) : lvF F ≤ 8 := by
  cases F <;> simp only [Gd, lvF] at g ⊢ <;> omega
section
variable {at_ : String → String → Att} {isa isb : String → String → Option Bool} {μ : Mem}
structure Xd (at_ : String → String → Att) (isa : String → String → Option Bool) (F : Frm) : Prop where
  q : QV at_ isa (qF at_ F)
  s : szD at_ (qF at_ F) = szF F
  l : lvD at_ (qF at_ F) = lvF F
  t : (tD at_ (qF at_ F)).length ≤ 500 * szF F
  f : (fsD at_ (qF at_ F)).length ≤ szF F
theorem xs_sum {ps : List Frm} (h : ∀ p ∈ ps, Xd at_ isa p) : ((ps.map (qF at_)).map (szD at_)).sum = (szFs ps : Nat) := by
  induction ps with
  | nil => simp [szFs]
  | cons p ps ih =>
    have h1 := (h p (List.mem_cons_self ..)).s
    have h2 := ih fun q hq => h q (List.mem_cons_of_mem _ hq)
    rw [List.map_cons, List.map_cons, List.sum_cons, h1, h2, szFs]
    push_cast
    rfl
theorem max_cons (a : Int) (xs : List Int) (h0 : 0 ≤ a) (h : ∀ x ∈ xs, 0 ≤ x) : maxI (a :: xs) = max a (maxI xs) := by
  cases xs with
  | nil => show a = max a 0; omega
  | cons b xs =>
    have comm : ∀ (l : List Int) (x y : Int), l.foldl max (max x y) = max x (l.foldl max y) := by
      intro l
      induction l with
      | nil => intro x y; rfl
      | cons z l ih => intro x y; rw [List.foldl_cons, List.foldl_cons, ← ih]; congr 1; omega
    show (b :: xs).foldl max a = max a (xs.foldl max b)
    rw [List.foldl_cons, comm]
theorem xs_max {ps : List Frm} (h : ∀ p ∈ ps, Xd at_ isa p) : maxI ((ps.map (qF at_)).map (lvD at_)) = (lvFs ps : Nat) := by
  induction ps with
  | nil => rfl
  | cons p ps ih =>
    have h1 := (h p (List.mem_cons_self ..)).l
    have h2 := ih fun q hq => h q (List.mem_cons_of_mem _ hq)
    rw [List.map_cons, List.map_cons, max_cons _ _ (by rw [h1]; omega) (fun x hx => by
      obtain ⟨d, hd, rfl⟩ := List.mem_map.mp hx
      obtain ⟨q, hq, rfl⟩ := List.mem_map.mp hd
      rw [(h q (List.mem_cons_of_mem _ hq)).l]
      omega), h1, h2, lvFs]
    omega
theorem xs_fs {ps : List Frm} (h : ∀ p ∈ ps, Xd at_ isa p) : (((ps.map (qF at_)).map (fsD at_)).flatten).length ≤ szFs ps := by
  induction ps with
  | nil => simp
  | cons p ps ih =>
    have h1 := (h p (List.mem_cons_self ..)).f
    have h2 := ih fun q hq => h q (List.mem_cons_of_mem _ hq)
    rw [List.map_cons, List.map_cons, List.flatten_cons, List.length_append, szFs]
    omega
theorem xs_gr {ps : List Frm} (h : ∀ p ∈ ps, Xd at_ isa p) (b : Bool) : (((ps.map (qF at_)).map (grT at_ b)).map List.length).sum ≤ 500 * szFs ps + 2 * ps.length := by
  induction ps with
  | nil => simp
  | cons p ps ih =>
    have h1 := (h p (List.mem_cons_self ..)).t
    have h3 := grT_len (at_ := at_) (d := qF at_ p) b
    have h2 := ih fun q hq => h q (List.mem_cons_of_mem _ hq)
    rw [List.map_cons, List.map_cons, List.map_cons, List.sum_cons, szFs, List.length_cons]
    omega
theorem xs_join {sep : Tx} {ps : List Frm} (hs : sep.length ≤ 3) (h8 : ps.length ≤ 8) (h : ∀ p ∈ ps, Xd at_ isa p) : (joinT sep ((ps.map (qF at_)).map (grT at_ false))).length ≤ 500 * szFs ps + 40 := by
  have h1 := joinT_len sep ((ps.map (qF at_)).map (grT at_ false))
  have h2 := xs_gr h false
  rw [List.length_map, List.length_map] at h1
  have h3 : sep.length * ps.length ≤ 3 * 8 := Nat.mul_le_mul hs h8
  omega
theorem xd_fit {ps : List Frm} (h1 : 1 ≤ ps.length) (h8 : ps.length ≤ 8) (h : ∀ p ∈ ps, Xd at_ isa p) (hz : ∀ p ∈ ps, szF p ≤ 60) (hS : 1 + szFs ps ≤ 60) (hL : 1 + lvFs ps ≤ 8) : Fit at_ isa (ps.map (qF at_)) := by
  refine ⟨by rw [List.length_map]; exact h1, by rw [List.length_map]; exact h8, fun d hd => ?_, fun d hd => ?_, ?_, ?_, ?_⟩
  · obtain ⟨p, hp, rfl⟩ := List.mem_map.mp hd
    exact (h p hp).q
  · obtain ⟨p, hp, rfl⟩ := List.mem_map.mp hd
    have := (h p hp).t
    have := hz p hp
    omega
  · rw [xs_sum h]; omega
  · rw [xs_max h]; omega
  · have := xs_fs h; omega
theorem xd_grp {c kind : String} {ps : List Frm} {vals : List D} {text : Tx} {ks : List String} {vs : List D} (A : QAt at_ c kind) (h : ∀ p ∈ ps, Xd at_ isa p) (hS : 1 + szFs ps ≤ 60) :
    szD at_ (grpD at_ c kind (ps.map (qF at_)) vals text ks vs) = ((1 + szFs ps : Nat) : Int) ∧ lvD at_ (grpD at_ c kind (ps.map (qF at_)) vals text ks vs) = ((1 + lvFs ps : Nat) : Int) ∧ tD at_ (grpD at_ c kind (ps.map (qF at_)) vals text ks vs) = text ∧ (fsD at_ (grpD at_ c kind (ps.map (qF at_)) vals text ks vs)).length ≤ 1 + szFs ps := by
  refine ⟨?_, ?_, ?_, ?_⟩
  · rw [show szD at_ (grpD at_ c kind (ps.map (qF at_)) vals text ks vs) = 1 + ((ps.map (qF at_)).map (szD at_)).sum by simp [szD, dF, A.s, grpD, grpV], xs_sum h]
    push_cast; rfl
  · rw [show lvD at_ (grpD at_ c kind (ps.map (qF at_)) vals text ks vs) = 1 + maxI ((ps.map (qF at_)).map (lvD at_)) by simp [lvD, dF, A.l, grpD, grpV], xs_max h]
    push_cast; rfl
  · simp [tD, dF, A.t, grpD, grpV]
  · have g : getF (ks6 ++ ks) (grpV at_ kind (ps.map (qF at_)) vals text ++ vs) "own_fields" = some (.tup ((sortT ((ps.map (qF at_)).map (fsD at_)).flatten).map .str)) := rfl
    have hd : dF at_ "own_fields" (grpD at_ c kind (ps.map (qF at_)) vals text ks vs) = some (.tup ((sortT ((ps.map (qF at_)).map (fsD at_)).flatten).map .str)) := by
      unfold grpD dF
      simp only [A.f, g]
    have e : fsD at_ (grpD at_ c kind (ps.map (qF at_)) vals text ks vs) = sortT ((ps.map (qF at_)).map (fsD at_)).flatten := by
      generalize sortT ((ps.map (qF at_)).map (fsD at_)).flatten = S at hd ⊢
      unfold fsD
      rw [hd]
      exact txOf_map S
    rw [e]
    have := sort_len ((ps.map (qF at_)).map (fsD at_)).flatten
    have := xs_fs h
    omega
theorem xd_leaf (Q : QW at_ isa isb) {F : Frm} (v : Vd 2 0 F) : Xd at_ isa F := by
  have m := md_of Q (W := 2) (by decide) (by decide) 0 F v (by decide) (by decide) (by decide)
  have b0 : tB 2 0 = 400 := rfl
  have b1 : sB 2 0 = 1 := rfl
  have mt := m.t
  have mf := m.f
  rw [b0] at mt
  rw [b1] at mf
  cases F with
  | term f w => exact ⟨m.q, by simp [qF, szD, dF, Q.t.s, szF, termD], by simp [qF, lvD, dF, Q.t.l, lvF, termD], by simp only [szF]; omega, mf⟩
  | pref f w => exact ⟨m.q, by simp [qF, szD, dF, Q.p.s, szF, prefD], by simp [qF, lvD, dF, Q.p.l, lvF, prefD], by simp only [szF]; omega, mf⟩
  | phra f ws g => exact ⟨m.q, by simp [qF, szD, dF, Q.h.q.s, szF, phraD], by simp [qF, lvD, dF, Q.h.q.l, lvF, phraD], by simp only [szF]; omega, mf⟩
  | rang f a b => exact ⟨m.q, by simp [qF, szD, dF, Q.r.s, szF, rangD], by simp [qF, lvD, dF, Q.r.l, lvF, rangD], by simp only [szF]; omega, mf⟩
  | ever => exact ⟨m.q, by simp [qF, szD, dF, Q.e.s, szF, everD], by simp [qF, lvD, dF, Q.e.l, lvF, everD], by simp only [szF]; omega, mf⟩
  | _ => exact v.elim
theorem headD_mem {ps : List Frm} (h1 : 1 ≤ ps.length) : ∃ p ∈ ps, (ps.map (qF at_)).headD .non = qF at_ p := by
  cases ps with
  | nil => simp at h1
  | cons p ps => exact ⟨p, List.mem_cons_self .., rfl⟩
theorem xd_of (Q : QW at_ isa isb) : ∀ (n : Nat) (F : Frm), szF F ≤ n → Gd F → Xd at_ isa F := by
  intro n
  induction n with
  | zero => intro F h; have := szF_pos F; omega
  | succ n ih =>
    intro F hn g
    cases F with
    | term f w => exact xd_leaf Q (F := .term f w) (by simp only [Gd] at g; exact g)
    | pref f w => exact xd_leaf Q (F := .pref f w) (by simp only [Gd] at g; exact g)
    | phra f ws d => exact xd_leaf Q (F := .phra f ws d) (by simp only [Gd] at g; exact g)
    | rang f a b => exact xd_leaf Q (F := .rang f a b) (by simp only [Gd] at g; exact g)
    | ever => exact xd_leaf Q (F := .ever) trivial
    | all ps =>
      simp only [Gd, szF] at g hn
      obtain ⟨⟨h1, h8⟩, gs, hS, hL⟩ := g
      rw [gds_iff] at gs
      have hm : ∀ p ∈ ps, Xd at_ isa p := fun p hp => ih p (by have := szF_mem hp; omega) (gs p hp)
      have F := xd_fit h1 h8 hm (fun p hp => gd_sz (gs p hp)) hS hL
      have k := fun vals text ks vs => xd_grp (vals := vals) (text := text) (ks := ks) (vs := vs) Q.a hm hS
      have tl : (allT at_ (ps.map (qF at_))).length ≤ 500 * (1 + szFs ps) := by
        have j := xs_join (sep := lit " & ") (by decide) h8 hm
        unfold allT
        split
        · rename_i p e
          cases ps with
          | nil => simp at h1
          | cons p0 r =>
            cases r with
            | cons _ _ => simp at e
            | nil =>
              have e2 : qF at_ p0 = p := by simpa using e
              subst e2
              have := (hm p0 (by simp)).t
              have l1 : (lit "&(").length = 2 := by decide
              have l2 : (lit ")").length = 1 := by decide
              simp only [List.length_append, szFs]
              omega
        · omega
      have q := grp_qv (i := 0) (vals := []) (text := allT at_ (ps.map (qF at_))) (ks := []) (vs := []) Q.a (Q.i _ (by simp)) (by simp) F (by simp) (by simp) rfl (fun h => absurd h (by decide))
      obtain ⟨k1, k2, k3, k4⟩ := k [] (allT at_ (ps.map (qF at_))) [] []
      refine ⟨?_, ?_, ?_, ?_, ?_⟩
      · rw [qF, qFs_map]; exact q
      · rw [qF, qFs_map, szF]; exact k1
      · rw [qF, qFs_map, lvF]; exact k2
      · rw [qF, qFs_map, szF]; exact k3.symm ▸ tl
      · rw [qF, qFs_map, szF]; exact k4
    | some ps m =>
      simp only [Gd, szF] at g hn
      obtain ⟨⟨h1, h8⟩, gs, ⟨m0, m8⟩, hS, hL⟩ := g
      rw [gds_iff] at gs
      have hm : ∀ p ∈ ps, Xd at_ isa p := fun p hp => ih p (by have := szF_mem hp; omega) (gs p hp)
      have F := xd_fit h1 h8 hm (fun p hp => gd_sz (gs p hp)) hS hL
      have k := fun vals text ks vs => xd_grp (vals := vals) (text := text) (ks := ks) (vs := vs) Q.s hm hS
      have tl : (someT at_ (ps.map (qF at_)) m).length ≤ 500 * (1 + szFs ps) := by
        have j := xs_join (sep := lit " | ") (by decide) h8 hm
        have im := (int8 m0 m8).1
        obtain ⟨p, hp, e⟩ := headD_mem (at_ := at_) h1
        have hh := (hm p hp).t
        rw [← e] at hh
        have hz := szF_mem hp
        have l1 : (lit "(").length = 1 := by decide
        have l2 : (lit ")@").length = 2 := by decide
        have l3 : (lit "|(").length = 2 := by decide
        have l4 : (lit ")").length = 1 := by decide
        have l5 : (lit "((").length = 2 := by decide
        have l6 : (lit "))@").length = 3 := by decide
        unfold someT stT
        split
        · split
          · omega
          · simp only [List.length_append]; omega
        · split
          · simp only [List.length_append]; omega
          · split <;> (simp only [List.length_append]; omega)
      have q := grp_qv (i := m) (vals := [.int m]) (text := someT at_ (ps.map (qF at_)) m) (ks := ["least"]) (vs := [.int m]) Q.s (Q.i _ (by simp)) (by simp) F (by simp) (by simp) rfl (fun _ => ⟨Q.s1, rfl⟩)
      obtain ⟨k1, k2, k3, k4⟩ := k [.int m] (someT at_ (ps.map (qF at_)) m) ["least"] [.int m]
      refine ⟨?_, ?_, ?_, ?_, ?_⟩
      · rw [qF, qFs_map]; exact q
      · rw [qF, qFs_map, szF]; exact k1
      · rw [qF, qFs_map, lvF]; exact k2
      · rw [qF, qFs_map, szF]; exact k3.symm ▸ tl
      · rw [qF, qFs_map, szF]; exact k4
    | weig b x y =>
      simp only [Gd, szF] at g hn
      obtain ⟨gb, gf, hS, hL⟩ := g
      have xb := ih b (by omega) gb
      have hm : ∀ p ∈ [b], Xd at_ isa p := fun p hp => by rw [List.mem_singleton.mp hp]; exact xb
      have hS' : 1 + szFs [b] ≤ 60 := by simp only [szFs]; omega
      have hL' : 1 + lvFs [b] ≤ 8 := by simp only [lvFs]; omega
      have F := xd_fit (by simp) (by simp) hm (fun p hp => by rw [List.mem_singleton.mp hp]; exact gd_sz gb) hS' hL'
      have tl : (weiT at_ (qF at_ b) x y).length ≤ 500 * (1 + szF b) := by
        have h1 := grT_len (at_ := at_) (d := qF at_ b) true
        have g' := gf
        simp only [goodF, Bool.and_eq_true, decide_eq_true_eq] at g'
        have h2 := (facT_sp (μ := []) g'.1.1.1 g'.1.1.2 g'.1.2.1 g'.1.2.2).2
        have := xb.t
        unfold weiT
        simp only [List.length_append]
        omega
      have q := grp_qv (i := 0) (vals := [.tup [.int x, .int y]]) (text := weiT at_ (qF at_ b) x y) (ks := ["base", "factor"]) (vs := [qF at_ b, .tup [.int x, .int y]]) Q.g (Q.i _ (by simp)) (by simp) F (by simp) (by simp [xb.q.lb]) rfl (fun h => absurd h (by decide))
      obtain ⟨k1, k2, k3, k4⟩ := xd_grp (vals := [.tup [.int x, .int y]]) (text := weiT at_ (qF at_ b) x y) (ks := ["base", "factor"]) (vs := [qF at_ b, .tup [.int x, .int y]]) Q.g hm hS'
      have z1 : szFs [b] = szF b := by simp [szFs]
      have z2 : lvFs [b] = lvF b := by simp [lvFs]
      rw [z1] at k1 k4
      rw [z2] at k2
      refine ⟨?_, ?_, ?_, ?_, ?_⟩
      · rw [qF]; exact q
      · rw [qF, szF]; exact k1
      · rw [qF, lvF]; exact k2
      · rw [qF, szF]; exact k3.symm ▸ tl
      · rw [qF, szF]; exact k4
    | wout b e =>
      simp only [Gd, szF] at g hn
      obtain ⟨⟨gb, ge⟩, hS, hL⟩ := g
      have xb := ih b (by omega) gb
      have xe := ih e (by omega) ge
      have hm : ∀ p ∈ [b, e], Xd at_ isa p := fun p hp => by
        simp only [List.mem_cons, List.not_mem_nil, or_false] at hp
        rcases hp with rfl | rfl
        · exact xb
        · exact xe
      have z1 : szFs [b, e] = szF b + szF e := by simp [szFs]
      have z2 : lvFs [b, e] = max (lvF b) (lvF e) := by simp [lvFs]
      have hS' : 1 + szFs [b, e] ≤ 60 := by rw [z1]; omega
      have hL' : 1 + lvFs [b, e] ≤ 8 := by rw [z2]; omega
      have F := xd_fit (by simp) (by simp) hm (fun p hp => by
        simp only [List.mem_cons, List.not_mem_nil, or_false] at hp
        rcases hp with rfl | rfl
        · exact gd_sz gb
        · exact gd_sz ge) hS' hL'
      have tl : (witT at_ (qF at_ b) (qF at_ e)).length ≤ 500 * (1 + (szF b + szF e)) := by
        have h1 := grT_len (at_ := at_) (d := qF at_ b) false
        have h2 := grT_len (at_ := at_) (d := qF at_ e) false
        have l3 : (lit " ! ").length = 3 := by decide
        have := xb.t
        have := xe.t
        unfold witT
        simp only [List.length_append]
        omega
      have q := grp_qv (i := 0) (vals := []) (text := witT at_ (qF at_ b) (qF at_ e)) (ks := ["base", "excluded"]) (vs := [qF at_ b, qF at_ e]) Q.w (Q.i _ (by simp)) (by simp) F (by simp) (by simp [xb.q.lb, xe.q.lb]) rfl (fun h => absurd h (by decide))
      obtain ⟨k1, k2, k3, k4⟩ := xd_grp (vals := []) (text := witT at_ (qF at_ b) (qF at_ e)) (ks := ["base", "excluded"]) (vs := [qF at_ b, qF at_ e]) Q.w hm hS'
      rw [z1] at k1 k4
      rw [z2] at k2
      refine ⟨?_, ?_, ?_, ?_, ?_⟩
      · rw [qF]; exact q
      · rw [qF, szF]; exact k1
      · rw [qF, lvF]; exact k2
      · rw [qF, szF]; exact k3.symm ▸ tl
      · rw [qF, szF]; exact k4
theorem xd (Q : QW at_ isa isb) {F : Frm} (g : Gd F) : Xd at_ isa F := xd_of Q _ F (Nat.le_refl _) g
end
end FL
namespace FL
open PySem L2
def barsF : Frm → Bool
  | .some ps m => decide (m = 1) && decide (ps.length ≠ 1)
  | _ => false
def rdF (b : Bool) : Frm → Bool
  | .all ps => decide (ps.length ≠ 1)
  | .some ps m => decide (m = 1) && decide (ps.length ≠ 1)
  | .wout _ _ => true
  | .weig _ _ _ => b
  | _ => false
def par (b : Bool) (x : Tx) : Tx := if b = true then lit "(" ++ x ++ lit ")" else x
def wrp (ps : List Frm) (xs : List Tx) : List Tx := List.zipWith (fun p x => par (rdF false p) x) ps xs
def allN (xs ys : List Tx) : Tx := match xs with
  | [x] => lit "&(" ++ x ++ lit ")"
  | _ => joinT (lit " & ") ys
mutual
/-- the notation -/
def nt : Frm → Tx
  | .term f w => f ++ lit ":" ++ w
  | .phra f ws g => phT f ws g
  | .pref f w => f ++ lit ":" ++ w ++ lit "*"
  | .rang f a b => f ++ lit ":[" ++ bdT a ++ lit "," ++ bdT b ++ lit "]"
  | .ever => lit "#"
  | .all ps => allN (nts ps) (wrp ps (nts ps))
  | .some ps m => stT (wrp ps (nts ps)) ((nts ps).headD []) m (barsF (ps.headD .ever))
  | .weig b x y => par (rdF true b) (nt b) ++ facT x y
  | .wout b e => par (rdF false b) (nt b) ++ lit " ! " ++ par (rdF false e) (nt e)
def nts : List Frm → List Tx
  | [] => []
  | p :: ps => nt p :: nts ps
end
def np (b : Bool) (F : Frm) : Tx := par (rdF b F) (nt F)
theorem nts_map : ∀ ps : List Frm, nts ps = ps.map nt
  | [] => by simp [nts]
  | p :: ps => by simp [nts, nts_map ps]
theorem wrp_map : ∀ ps : List Frm, wrp ps (ps.map nt) = ps.map (np false)
  | [] => by simp [wrp]
  | p :: ps => by
    have := wrp_map ps
    simp only [wrp] at this
    simp [wrp, np, this]
section
variable {at_ : String → String → Att} {isa isb : String → String → Option Bool}
theorem kd_q (Q : QW at_ isa isb) (F : Frm) : kdD at_ (qF at_ F) = (match F with
    | .term .. => lit "term"
    | .phra .. => lit "phrase"
    | .pref .. => lit "prefix"
    | .rang .. => lit "range"
    | .ever => lit "everything"
    | .all .. => lit "all"
    | .some .. => lit "some"
    | .weig .. => lit "weighted"
    | .wout .. => lit "without") := by
  cases F <;> simp [qF, kdD, grpD, Q.t.kd, Q.h.q.kd, Q.p.kd, Q.r.kd, Q.e.kd, Q.a.kd, Q.s.kd, Q.g.kd, Q.w.kd]
theorem cl_all (Q : QW at_ isa isb) (ps : List Frm) : closedD at_ (qF at_ (.all ps)) = decide (ps.length = 1) := by
  have k := kd_q Q (.all ps)
  have p : psD at_ (qF at_ (.all ps)) = qFs at_ ps := by simp [qF, psD, dF, grpD, grpV, Q.a.p]
  simp [closedD, k, p, qFs_map, lit_all, lit_some]
theorem cl_some (Q : QW at_ isa isb) (ps : List Frm) (m : Int) : closedD at_ (qF at_ (.some ps m)) = (decide (ps.length = 1) || decide (m ≠ 1)) := by
  have k := kd_q Q (.some ps m)
  have p : psD at_ (qF at_ (.some ps m)) = qFs at_ ps := by simp [qF, psD, dF, grpD, grpV, Q.s.p]
  have l : lsD at_ (qF at_ (.some ps m)) = m := by simp [qF, lsD, dF, grpD, grpV, Q.s1]
  simp [closedD, k, p, l, qFs_map]
theorem gr_q (Q : QW at_ isa isb) (b : Bool) (F : Frm) (t : tD at_ (qF at_ F) = nt F) : grT at_ b (qF at_ F) = np b F := by
  have k := kd_q Q F
  cases F with
  | all ps =>
    have c := cl_all Q ps
    by_cases h : ps.length = 1 <;> simp [grT, np, par, rdF, k, c, t, h, kinds3, lit_all, lit_some, lit_without, lit_weighted]
  | some ps m =>
    have c := cl_some Q ps m
    by_cases h : ps.length = 1 <;> rcases Decidable.em (m = 1) with rfl | h2 <;> simp [grT, np, par, rdF, k, c, t, h, *, kinds3, lit_all, lit_some, lit_without, lit_weighted]
  | _ => simp [grT, np, par, rdF, k, t, kinds3, lit_all, lit_some, lit_without, lit_weighted, lit_term, lit_phrase, lit_prefix, lit_range, lit_everything]
theorem po_q (Q : QW at_ isa isb) (F : Frm) : poD at_ (qF at_ F) = barsF F := by
  have k := kd_q Q F
  cases F with
  | some ps m =>
    have c := cl_some Q ps m
    by_cases h : ps.length = 1 <;> rcases Decidable.em (m = 1) with rfl | h2 <;> simp [poD, barsF, k, c, h, *]
  | _ => simp [poD, barsF, k, lit_all, lit_some, lit_without, lit_weighted, lit_term, lit_phrase, lit_prefix, lit_range, lit_everything]
theorem head_q (ps : List Frm) : (qFs at_ ps).headD .non = (match ps with | [] => D.non | p :: _ => qF at_ p) := by
  cases ps <;> simp [qFs]
mutual
theorem t_q (Q : QW at_ isa isb) : ∀ F : Frm, tD at_ (qF at_ F) = nt F
  | .term f w => by simp [qF, nt, tD, dF, Q.t.t]
  | .phra f ws g => by simp [qF, nt, tD, dF, Q.h.q.t]
  | .pref f w => by simp [qF, nt, tD, dF, Q.p.t]
  | .rang f a b => by simp [qF, nt, tD, dF, Q.r.t]
  | .ever => by simp [qF, nt, tD, dF, Q.e.t]
  | .all ps => by
    have h := ts_q Q ps
    have e : tD at_ (qF at_ (.all ps)) = allT at_ (qFs at_ ps) := by simp [qF, tD, dF, grpD, grpV, Q.a.t]
    rw [e, nt, nts_map, wrp_map]
    match ps, h with
    | [], _ => rfl
    | [p], h => simp [allT, allN, qFs, (h p (by simp)).1]
    | p :: q :: r, h =>
      show joinT (lit " & ") ((qFs at_ (p :: q :: r)).map (grT at_ false)) = joinT (lit " & ") ((p :: q :: r).map (np false))
      rw [qFs_map, List.map_map]
      congr 1
      exact List.map_congr_left fun x hx => (h x hx).2
  | .some ps m => by
    have h := ts_q Q ps
    have e : tD at_ (qF at_ (.some ps m)) = someT at_ (qFs at_ ps) m := by simp [qF, tD, dF, grpD, grpV, Q.s.t]
    rw [e, nt, nts_map, wrp_map, someT, head_q]
    have g : (qFs at_ ps).map (grT at_ false) = ps.map (np false) := by
      rw [qFs_map, List.map_map]
      exact List.map_congr_left fun x hx => (h x hx).2
    rw [g]
    match ps, h with
    | [], _ => simp [tD, dF, poD, kdD, barsF, lit_some]
    | p :: r, h => simp [(h p (by simp)).1, po_q Q p]
  | .weig b x y => by
    have h := t_q Q b
    have e : tD at_ (qF at_ (.weig b x y)) = weiT at_ (qF at_ b) x y := by simp [qF, tD, dF, grpD, grpV, Q.g.t]
    rw [e, nt, weiT, gr_q Q true b h, np]
  | .wout b c => by
    have h := t_q Q b
    have h2 := t_q Q c
    have e : tD at_ (qF at_ (.wout b c)) = witT at_ (qF at_ b) (qF at_ c) := by simp [qF, tD, dF, grpD, grpV, Q.w.t]
    rw [e, nt, witT, gr_q Q false b h, gr_q Q false c h2, np, np]
theorem ts_q (Q : QW at_ isa isb) : ∀ ps : List Frm, ∀ p ∈ ps, tD at_ (qF at_ p) = nt p ∧ grT at_ false (qF at_ p) = np false p
  | [] => by simp
  | q :: r => by
    have a := t_q Q q
    have b := ts_q Q r
    intro p h
    rcases List.mem_cons.mp h with rfl | h
    · exact ⟨a, gr_q Q false p a⟩
    · exact b p h
end
end
end FL
namespace FL
open PySem L2
theorem intT_lit (i : Int) : intT i = lit (toString i) := by
  show (Str.ofString (toString i)).cps.toList = _
  rw [cps_lit]
theorem intT_nat (n : Nat) : intT (n : Int) = (Nat.toDigits 10 n).map Char.toNat := by
  rw [intT_lit]
  show (Nat.repr n).toList.map Char.toNat = _
  rw [Nat.toList_repr]
theorem intT_neg (n : Nat) : intT (Int.negSucc n) = 45 :: (Nat.toDigits 10 (n + 1)).map Char.toNat := by
  rw [intT_lit]
  show ("-" ++ Nat.repr (n + 1)).toList.map Char.toNat = _
  rw [String.toList_append, List.map_append, Nat.toList_repr]
  rfl
def isDg (c : Nat) : Bool := decide (c = 45) || (decide (48 ≤ c) && decide (c ≤ 57))
theorem dig_of {n : Nat} {c : Nat} (h : c ∈ (Nat.toDigits 10 n).map Char.toNat) : 48 ≤ c ∧ c ≤ 57 := by
  obtain ⟨x, hx, rfl⟩ := List.mem_map.mp h
  have := Nat.isDigit_of_mem_toDigits (by decide) (by decide) hx
  simp only [Char.isDigit, Bool.and_eq_true, decide_eq_true_eq, UInt32.le_iff_toNat_le] at this
  exact this
theorem intT_isD (i : Int) : ∀ c ∈ intT i, isDg c = true := by
  intro c hc
  cases i with
  | ofNat n =>
    have := dig_of (n := n) (by rw [← intT_nat]; exact hc)
    simp [isDg, this.1, this.2]
  | negSucc n =>
    rw [intT_neg] at hc
    rcases List.mem_cons.mp hc with rfl | hc
    · rfl
    · have := dig_of hc
      simp [isDg, this.1, this.2]
theorem dig_inj {m n : Nat} (h : (Nat.toDigits 10 m).map Char.toNat = (Nat.toDigits 10 n).map Char.toNat) : m = n := by
  have e : Nat.toDigits 10 m = Nat.toDigits 10 n := (List.map_inj_right fun x y e => Char.toNat_inj.mp e).mp h
  rw [← Nat.ofDigitChars_ten_toDigits (n := m), ← Nat.ofDigitChars_ten_toDigits (n := n), e]
theorem intT_inj {i j : Int} (h : intT i = intT j) : i = j := by
  cases i with
  | ofNat m =>
    cases j with
    | ofNat n =>
      have h : intT (m : Int) = intT (n : Int) := h
      rw [intT_nat, intT_nat] at h
      rw [dig_inj h]
    | negSucc n =>
      have h : intT (m : Int) = _ := h
      rw [intT_nat, intT_neg] at h
      have := dig_of (n := m) (c := 45) (by rw [h]; simp)
      omega
  | negSucc m =>
    cases j with
    | ofNat n =>
      have h : _ = intT (n : Int) := h
      rw [intT_nat, intT_neg] at h
      have := dig_of (n := n) (c := 45) (by rw [← h]; simp)
      omega
    | negSucc n =>
      rw [intT_neg, intT_neg] at h
      have := dig_inj (List.cons.inj h).2
      omega
noncomputable def numT (t : Tx) : Int := Classical.epsilon fun i => intT i = t
theorem numT_of (i : Int) : numT (intT i) = i := intT_inj (Classical.epsilon_spec (p := fun j => intT j = intT i) ⟨i, rfl⟩)
noncomputable def bdN (t : Tx) : Option Int := if t = [] then none else some (numT t)
theorem tw_app {p : Nat → Bool} : ∀ {x r : Tx}, (∀ c ∈ x, p c = true) → (∀ c s, r = c :: s → p c = false) → (x ++ r).takeWhile p = x ∧ (x ++ r).dropWhile p = r
  | [], r, _, hr => by
    cases r with
    | nil => simp
    | cons c s => simp [hr c s rfl]
  | a :: x, r, h, hr => by
    obtain ⟨h1, h2⟩ := tw_app (x := x) (fun c hc => h c (List.mem_cons_of_mem _ hc)) hr
    have := h a (List.mem_cons_self ..)
    simp [this, h1, h2]
def isW (c : Nat) : Bool := decide (c ∈ WS)
noncomputable def leafP (t : Tx) : Option (Frm × Tx) :=
  match t.dropWhile isW with
  | 58 :: 91 :: r1 => (match r1.dropWhile isDg with
    | 44 :: r2 => (match r2.dropWhile isDg with
      | 93 :: r3 => some (.rang (t.takeWhile isW) (bdN (r1.takeWhile isDg)) (bdN (r2.takeWhile isDg)), r3)
      | _ => none)
    | _ => none)
  | 58 :: 34 :: r1 => (match r1.dropWhile (fun c => decide (c ≠ 34)) with
    | 34 :: 126 :: r2 => some (.phra (t.takeWhile isW) (wordsL (r1.takeWhile (fun c => decide (c ≠ 34)))) (numT (r2.takeWhile isDg)), r2.dropWhile isDg)
    | 34 :: r2 => some (.phra (t.takeWhile isW) (wordsL (r1.takeWhile (fun c => decide (c ≠ 34)))) 0, r2)
    | _ => none)
  | 58 :: r1 => (match r1.dropWhile isW with
    | 42 :: r2 => some (.pref (t.takeWhile isW) (r1.takeWhile isW), r2)
    | r2 => some (.term (t.takeWhile isW) (r1.takeWhile isW), r2))
  | _ => none
abbrev RT := Tx → Option (Frm × Bool × Tx)
abbrev RP := Tx → Option (Frm × Tx)
def somm (F : Frm) (b : Bool) (m : Int) : Frm := match b, F with
  | true, .some ps _ => .some ps m
  | _, F => .some [F] m
noncomputable def atP (pT : RT) : RP
  | 35 :: r => some (.ever, r)
  | 38 :: 40 :: r => (match pT r with
    | some (F, _, 41 :: s) => some (.all [F], s)
    | _ => none)
  | 124 :: 40 :: r => (match pT r with
    | some (F, _, 41 :: s) => some (.some [F] 1, s)
    | _ => none)
  | 40 :: r => (match pT r with
    | some (F, b, 41 :: 64 :: s) => some (somm F b (numT (s.takeWhile isDg)), s.dropWhile isDg)
    | some (F, b, 41 :: s) => some (F, s)
    | _ => none)
  | t => leafP t
noncomputable def wP (pT : RT) (t : Tx) : Option (Frm × Tx) := match atP pT t with
  | some (F, 94 :: r) => (match r.dropWhile isDg with
    | 47 :: s => some (.weig F (numT (r.takeWhile isDg)) (numT (s.takeWhile isDg)), s.dropWhile isDg)
    | s => some (.weig F (numT (r.takeWhile isDg)) 1, s))
  | o => o
noncomputable def eP (pT : RT) (t : Tx) : Option (Frm × Tx) := match wP pT t with
  | some (F, 32 :: 33 :: 32 :: r) => (match wP pT r with
    | some (G, s) => some (.wout F G, s)
    | none => none)
  | o => o
def lp (sep : Nat) (p : RP) : Nat → Tx → Option (List Frm × Tx)
  | k + 1, 32 :: c :: 32 :: r => if c = sep then (match p r with
    | some (F, s) => (match lp sep p k s with
      | some (Fs, u) => some (F :: Fs, u)
      | none => none)
    | none => none) else some ([], 32 :: c :: 32 :: r)
  | _, t => some ([], t)
noncomputable def aP (pT : RT) (t : Tx) : Option (Frm × Tx) := match eP pT t with
  | some (F, r) => (match lp 38 (eP pT) 8 r with
    | some ([], s) => some (F, s)
    | some (Fs, s) => some (.all (F :: Fs), s)
    | none => none)
  | none => none
noncomputable def tP (pT : RT) (t : Tx) : Option (Frm × Bool × Tx) := match aP pT t with
  | some (F, r) => (match lp 124 (aP pT) 8 r with
    | some ([], s) => some (F, false, s)
    | some (Fs, s) => some (.some (F :: Fs) 1, true, s)
    | none => none)
  | none => none
noncomputable def tN : Nat → RT
  | 0 => fun _ => none
  | n + 1 => tP (tN n)
def F3 (r : Tx) : Prop := r = [] ∨ ∃ s, r = 41 :: s
def F2 (r : Tx) : Prop := r = [] ∨ ∃ c s, r = c :: s ∧ (c = 41 ∨ c = 32)
def F1 (r : Tx) : Prop := r = [] ∨ ∃ c s, r = c :: s ∧ (c = 41 ∨ c = 32 ∨ c = 94)
theorem F3.f2 {r : Tx} (h : F3 r) : F2 r := by
  rcases h with h | ⟨s, h⟩
  · exact .inl h
  · exact .inr ⟨41, s, h, .inl rfl⟩
theorem F2.f1 {r : Tx} (h : F2 r) : F1 r := by
  rcases h with h | ⟨c, s, h, h2⟩
  · exact .inl h
  · exact .inr ⟨c, s, h, h2.elim .inl fun h => .inr (.inl h)⟩
theorem F1.ne {r : Tx} (h : F1 r) {p : Nat → Bool} (h1 : p 41 = false) (h2 : p 32 = false) (h3 : p 94 = false) : ∀ c s, r = c :: s → p c = false := by
  rintro c s rfl
  rcases h with h | ⟨d, s', h, h4⟩
  · simp at h
  · obtain ⟨rfl, rfl⟩ := List.cons.inj h
    rcases h4 with rfl | rfl | rfl <;> assumption
end FL
namespace FL
open PySem L2
theorem isW_no : isW 41 = false ∧ isW 32 = false ∧ isW 94 = false ∧ isW 58 = false ∧ isW 42 = false := by decide +kernel
theorem F1.w {r : Tx} (h : F1 r) : ∀ c s, r = c :: s → isW c = false := h.ne isW_no.1 isW_no.2.1 isW_no.2.2.1
theorem F1.d {r : Tx} (h : F1 r) : ∀ c s, r = c :: s → isDg c = false := h.ne rfl rfl rfl
end FL
namespace FL
open PySem L2
def Good (pT : RT) (F : Frm) : Prop := ∀ r, F3 r → pT (nt F ++ r) = some (F, barsF F, r)
def GoodA (pT : RT) (F : Frm) : Prop := ∀ r, F1 r → atP pT (nt F ++ r) = some (F, r)
theorem F3.p41 (s : Tx) : F3 (41 :: s) := .inr ⟨s, rfl⟩
theorem l_op : lit "(" = [40] := rfl
theorem l_cl : lit ")" = [41] := rfl
theorem l_hat : lit "^" = [94] := rfl
theorem l_sl : lit "/" = [47] := rfl
theorem par_t (x : Tx) : par true x = 40 :: (x ++ [41]) := by simp [par, l_op, l_cl]
theorem par_f (x : Tx) : par false x = x := by simp [par]
variable {pT : RT} {F G : Frm}
theorem F1.n64 {r : Tx} (h : F1 r) : ∀ s, r ≠ 64 :: s := fun s e => by
  rcases h with h | ⟨c, s, h, h2⟩ <;> simp [h] at e
  omega
theorem at_par (h : Good pT F) {r : Tx} (hr : F1 r) : atP pT (40 :: (nt F ++ (41 :: r))) = some (F, r) := by
  have n := hr.n64
  simp [atP, h _ (F3.p41 r), n]
theorem at_np (h : Good pT F) (hA : rdF true F = false → GoodA pT F) {r : Tx} (hr : F1 r) : atP pT (np true F ++ r) = some (F, r) := by
  cases hb : rdF true F with
  | true =>
    have e : np true F ++ r = 40 :: (nt F ++ (41 :: r)) := by simp [np, hb, par_t]
    rw [e]
    exact at_par h hr
  | false =>
    rw [np, hb, par_f]
    exact hA hb r hr
theorem F2.n94 {r : Tx} (h : F2 r) : ∀ s, r ≠ 94 :: s := fun s e => by
  rcases h with h | ⟨c, s, h, h2⟩ <;> simp [h] at e
  omega
theorem w_pass {t r : Tx} (h : atP pT t = some (F, r)) (hr : F2 r) : wP pT t = some (F, r) := by
  have n := hr.n94
  unfold wP
  rw [h]
  simp [n]
theorem F2.n47 {r : Tx} (h : F2 r) : ∀ s, r ≠ 47 :: s := fun s e => by
  rcases h with h | ⟨c, s, h, h2⟩ <;> simp [h] at e
  omega
theorem F2.d {r : Tx} (h : F2 r) : ∀ c s, r = c :: s → isDg c = false := h.f1.d
theorem w_weig {b : Frm} {x y : Int} (h : ∀ s, F1 s → atP pT (np true b ++ s) = some (b, s)) {r : Tx} (hr : F2 r) : wP pT (nt (.weig b x y) ++ r) = some (.weig b x y, r) := by
  have n := hr.n47
  by_cases hy : y = 1
  · obtain ⟨h5, h6⟩ := tw_app (p := isDg) (x := intT x) (r := r) (intT_isD x) hr.d
    have e : nt (.weig b x y) ++ r = np true b ++ (94 :: (intT x ++ r)) := by simp [nt, np, facT, hy, l_hat]
    rw [e]
    unfold wP
    rw [h _ (.inr ⟨94, _, rfl, .inr (.inr rfl)⟩)]
    simp [h5, h6, n, numT_of, hy]
  · obtain ⟨h5, h6⟩ := tw_app (p := isDg) (x := intT x) (r := 47 :: (intT y ++ r)) (intT_isD x) (by rintro c s e; rw [← (List.cons.inj e).1]; rfl)
    obtain ⟨h7, h8⟩ := tw_app (p := isDg) (x := intT y) (r := r) (intT_isD y) hr.d
    have e : nt (.weig b x y) ++ r = np true b ++ (94 :: (intT x ++ (47 :: (intT y ++ r)))) := by simp [nt, np, facT, hy, l_hat, l_sl]
    rw [e]
    unfold wP
    rw [h _ (.inr ⟨94, _, rfl, .inr (.inr rfl)⟩)]
    simp [h5, h6, h7, h8, numT_of]
theorem w_np (h : Good pT F) (hA : rdF true F = false → GoodA pT F) (hB : ∀ b x y, F = .weig b x y → ∀ s, F1 s → atP pT (np true b ++ s) = some (b, s)) {r : Tx} (hr : F2 r) : wP pT (np false F ++ r) = some (F, r) := by
  cases hb : rdF false F with
  | true =>
    have e : np false F ++ r = 40 :: (nt F ++ (41 :: r)) := by simp [np, hb, par_t]
    rw [e]
    exact w_pass (at_par h hr.f1) hr
  | false =>
    rw [np, hb, par_f]
    cases ha : rdF true F with
    | false => exact w_pass (hA ha r hr.f1) hr
    | true =>
      cases F <;> first
        | exact w_weig (hB _ _ _ rfl) hr
        | (simp [rdF] at ha hb; done)
        | (simp [rdF] at ha hb; omega)
def Nx3 (c : Nat) (r : Tx) : Prop := ∀ s, r ≠ 32 :: c :: 32 :: s
theorem F3.nx {r : Tx} (h : F3 r) (c : Nat) : Nx3 c r := fun s e => by
  rcases h with h | ⟨s, h⟩ <;> simp [h] at e
theorem nx_ne {c d : Nat} (s : Tx) (h : d ≠ c) : Nx3 c (32 :: d :: 32 :: s) := fun s e => by
  simp [h] at e
def Fo (sep : Nat) (r : Tx) : Prop := F3 r ∨ ∃ s, r = 32 :: sep :: 32 :: s
theorem Fo.f2 {sep : Nat} {r : Tx} (h : Fo sep r) : F2 r := by
  rcases h with h | ⟨s, h⟩
  · exact h.f2
  · exact .inr ⟨32, _, h, .inr rfl⟩
theorem Fo.nx {sep c : Nat} {r : Tx} (h : Fo sep r) (n : sep ≠ c) : Nx3 c r := by
  rcases h with h | ⟨s, rfl⟩
  · exact h.nx c
  · exact nx_ne s n
end FL
namespace FL
open PySem L2
variable {W : Nat}
def isLeaf : Frm → Bool
  | .term .. => true
  | .phra .. => true
  | .pref .. => true
  | .rang .. => true
  | .ever => true
  | _ => false
def Rd (n : Nat) (F : Frm) : Prop := (∀ k, 2 * n + 1 ≤ k → Good (tN k) F) ∧ (rdF true F = false → ∀ k, 2 * n ≤ k → GoodA (tN k) F) ∧ ∀ b x y, F = .weig b x y → ∀ k, 2 * n ≤ k → ∀ s, F1 s → atP (tN k) (np true b ++ s) = some (b, s)
theorem Rd.w {n k : Nat} {F : Frm} (h : Rd n F) (hk : 2 * n + 1 ≤ k) {s : Tx} (hs : F2 s) : wP (tN k) (np false F ++ s) = some (F, s) :=
  w_np (h.1 k hk) (fun a => h.2.1 a k (by omega)) (fun b x y e => h.2.2 b x y e k (by omega)) hs
theorem Rd.a {n k : Nat} {F : Frm} (h : Rd n F) (hk : 2 * n + 1 ≤ k) {s : Tx} (hs : F1 s) : atP (tN k) (np true F ++ s) = some (F, s) :=
  at_np (h.1 k hk) (fun a => h.2.1 a k (by omega)) hs
end FL
namespace FL
open PySem L2
abbrev AscT (x : Tx) : Prop := ∀ c ∈ x, c < 128
theorem AscT.app {x y : Tx} (h : AscT x) (g : AscT y) : AscT (x ++ y) := fun c hc => (List.mem_append.mp hc).elim (h c) (g c)
theorem AscT.join {g : Tx} {xs : List Tx} (hg : AscT g) (h : ∀ x ∈ xs, AscT x) : AscT (joinT g xs) := fun c hc => by
  rcases joinT_mem hc with hc | ⟨w, hw, hc⟩
  · exact hg c hc
  · exact h w hw c hc
theorem asc_int (i : Int) : AscT (intT i) := fun c hc => by
  have := intT_isD i c hc
  simp [isDg] at this
  omega
theorem asc_bd (b : Option Int) : AscT (bdT b) := by
  cases b with
  | none => intro c hc; simp [bdT] at hc
  | some i => exact asc_int i
theorem asc_par {x : Tx} (b : Bool) (h : AscT x) : AscT (par b x) := by
  cases b with
  | true => rw [par_t]; intro c hc; simp at hc; rcases hc with rfl | hc | rfl <;> first | decide | exact h c hc
  | false => rw [par_f]; exact h
theorem asc_stT {xs : List Tx} {t0 : Tx} {m : Int} {po : Bool} (h : ∀ x ∈ xs, AscT x) (h0 : AscT t0) : AscT (stT xs t0 m po) := by
  have a1 : AscT (lit "(") := by decide
  have a2 : AscT (lit ")@") := by decide
  have a3 : AscT (lit "|(") := by decide
  have a4 : AscT (lit ")") := by decide
  have a5 : AscT (lit "((") := by decide
  have a6 : AscT (lit "))@") := by decide
  have a7 : AscT (lit " | ") := by decide
  have j := AscT.join a7 h
  have i := asc_int m
  unfold stT
  split
  · split
    · exact j
    · exact ((a1.app j).app a2).app i
  · split
    · exact (a3.app h0).app a4
    · split
      · exact ((a5.app h0).app a6).app i
      · exact ((a1.app h0).app a2).app i
theorem asc_leaf {W n : Nat} {F : Frm} (v : Vd W n F) (hl : isLeaf F = true) : AscT (nt F) := by
  cases F with
  | term f w =>
    have v : Nm f ∧ Wd w := by cases n <;> exact v
    exact (AscT.app (asc_nm v.1) (by decide)).app (asc_wd v.2)
  | pref f w =>
    have v : Nm f ∧ Wd w := by cases n <;> exact v
    exact ((AscT.app (asc_nm v.1) (by decide)).app (asc_wd v.2)).app (by decide)
  | phra f ws g =>
    have v : Nm f ∧ (∀ w ∈ ws, Wd w) ∧ (2 ≤ ws.length ∧ ws.length ≤ 6) ∧ 0 ≤ g ∧ g ≤ 20 := by cases n <;> exact v
    have j : AscT (joinT (lit " ") ws) := AscT.join (by decide) fun w hw => asc_wd (v.2.1 w hw)
    have a : AscT (f ++ lit ":\"" ++ joinT (lit " ") ws ++ lit "\"") := ((AscT.app (asc_nm v.1) (by decide)).app j).app (by decide)
    rw [nt, phT]
    split
    · exact a
    · exact (a.app (by decide)).app (asc_int g)
  | rang f a b =>
    have v : Nm f ∧ Bd a ∧ Bd b := by cases n <;> exact v
    exact ((((AscT.app (asc_nm v.1) (by decide)).app (asc_bd a)).app (by decide)).app (asc_bd b)).app (by decide)
  | ever =>
    show AscT (lit "#")
    decide
  | _ => exact absurd hl Bool.false_ne_true
theorem asc_nt {W : Nat} : ∀ (n : Nat) (F : Frm), Vd W n F → AscT (nt F) := by
  intro n
  induction n with
  | zero =>
    intro F v
    refine asc_leaf v ?_
    cases F <;> first | rfl | exact v.elim
  | succ n ih =>
    intro F v
    by_cases hl : isLeaf F = true
    · exact asc_leaf v hl
    have kid : ∀ ps : List Frm, (∀ p ∈ ps, Vd W n p) → ∀ x ∈ ps.map (np false), AscT x := fun ps h x hx => by
      obtain ⟨p, hp, rfl⟩ := List.mem_map.mp hx
      exact asc_par _ (ih p (h p hp))
    cases F with
    | all ps =>
      have k := kid ps v.2
      rw [nt, nts_map, wrp_map]
      match ps, v, k with
      | [], v, _ => have := v.1.1; simp at this
      | [p], v, _ =>
        show AscT (lit "&(" ++ nt p ++ lit ")")
        exact (AscT.app (by decide) (ih p (v.2 p (by simp)))).app (by decide)
      | p :: q :: r, v, k => exact AscT.join (by decide) k
    | some ps m =>
      have k := kid ps v.2.1
      rw [nt, nts_map, wrp_map]
      refine asc_stT k ?_
      match ps, v with
      | [], v => have := v.1.1; simp at this
      | p :: r, v => exact ih p (v.2.1 p (by simp))
    | weig b x y =>
      rw [nt, facT]
      refine (asc_par _ (ih b v.1)).app ?_
      split
      · exact AscT.app (by decide) (asc_int x)
      · exact ((AscT.app (by decide) (asc_int x)).app (by decide)).app (asc_int y)
    | wout b e =>
      rw [nt]
      exact ((asc_par _ (ih b v.1)).app (by decide)).app (asc_par _ (ih e v.2))
    | _ => exact absurd rfl hl
theorem vd_upW {W : Nat} : ∀ (n : Nat) (F : Frm), Vd W n F → Vd W (n + 1) F := by
  intro n
  induction n with
  | zero => intro F v; cases F <;> first | exact v | exact v.elim
  | succ n ih =>
    intro F v
    cases F with
    | all ps => exact ⟨v.1, fun p hp => ih p (v.2 p hp)⟩
    | some ps m => exact ⟨v.1, fun p hp => ih p (v.2.1 p hp), v.2.2⟩
    | weig b x y => exact ⟨ih b v.1, v.2⟩
    | wout b e => exact ⟨ih b v.1, ih e v.2⟩
    | _ => exact v
end FL
namespace FL
open PySem L2
theorem vd_up {W : Nat} {F : Frm} : ∀ {n m : Nat}, n ≤ m → Vd W n F → Vd W m F := fun {n m} h v => by
  obtain ⟨k, rfl⟩ := Nat.exists_eq_add_of_le h
  clear h
  induction k with
  | zero => exact v
  | succ k ih => exact vd_upW _ _ ih
theorem vd_gd : ∀ (n : Nat) (F : Frm), szF F ≤ n → Gd F → Vd 8 (lvF F) F := by
  intro n
  induction n with
  | zero => intro F h; have := szF_pos F; omega
  | succ n ih =>
    intro F hn g
    cases F with
    | term f w => simp only [Gd] at g; exact g
    | pref f w => simp only [Gd] at g; exact g
    | phra f ws d => simp only [Gd] at g; exact g
    | rang f a b => simp only [Gd] at g; exact g
    | ever => exact trivial
    | all ps =>
      simp only [Gd, szF] at g hn
      obtain ⟨⟨h1, h8⟩, gs, hS, hL⟩ := g
      rw [gds_iff] at gs
      rw [lvF, Nat.add_comm]
      exact ⟨⟨h1, h8⟩, fun p hp => vd_up (lvF_mem hp) (ih p (by have := szF_mem hp; omega) (gs p hp))⟩
    | some ps m =>
      simp only [Gd, szF] at g hn
      obtain ⟨⟨h1, h8⟩, gs, ⟨m0, m8⟩, hS, hL⟩ := g
      rw [gds_iff] at gs
      rw [lvF, Nat.add_comm]
      exact ⟨⟨h1, h8⟩, fun p hp => vd_up (lvF_mem hp) (ih p (by have := szF_mem hp; omega) (gs p hp)), m0, m8⟩
    | weig b x y =>
      simp only [Gd, szF] at g hn
      rw [lvF, Nat.add_comm]
      exact ⟨ih b (by omega) g.1, g.2.1⟩
    | wout b e =>
      simp only [Gd, szF] at g hn
      rw [lvF, Nat.add_comm]
      exact ⟨vd_up (Nat.le_max_left ..) (ih b (by omega) g.1.1), vd_up (Nat.le_max_right ..) (ih e (by omega) g.1.2)⟩
theorem vd8 {F : Frm} (g : Gd F) : Vd 8 8 F := vd_up (gd_lv g) (vd_gd _ F (Nat.le_refl _) g)
end FL
namespace FL
open PySem L2
section
variable {at_ : String → String → Att} {isa isb : String → String → Option Bool} {pp pl pn : String → String → Option MF} {μ : Mem}
@[simp] theorem ev_addT {xs ys : List D} : gAdd (.tup xs) (.tup ys) = if xs.length + ys.length ≤ 16777216 then some (.fr (.tup (xs ++ ys))) else none := by
  by_cases h : xs.length + ys.length ≤ 16777216 <;> simp [gAdd, gInt, gAddS, gAddL, gAddT, h]
end
end FL
namespace FL
open PySem L2
section
variable {at_ : String → String → Att} {isa isb : String → String → Option Bool} {pp pl pn : String → String → Option MF} {μ : Mem}
theorem eqN_nl (neg : Bool) (xs : List D) : gEqN neg (.lst xs) (.lst []) = some (FL.tb (decide (xs = []) != neg)) := by
  have hg : gLenEq neg (.lst xs) (.lst []) = some (FL.tb (decide (xs = []) != neg)) := by
    cases xs <;> cases neg <;> simp [gLenEq]
  unfold gEqN
  cases h : gEq neg (.lst xs) (.lst []) with
  | none => exact hg
  | some s =>
    show some s = _
    rw [← h]
    cases hp : D.pys xs with
    | none => simp [gEq, eqS, eqP, D.py, hp] at h
    | some qs =>
      have e2 : PyData.eqvAll qs [] = decide (xs = []) := by
        cases xs with
        | nil => cases hp; rfl
        | cons x xs =>
          cases qs with
          | nil =>
            simp only [D.pys] at hp
            split at hp <;> cases hp
          | cons y ys => simp [PyData.eqvAll]
      by_cases hs : (SeqAt.shaped (.list qs) && SeqAt.shaped (.list [])) = true
      · rw [Bool.and_eq_true] at hs
        simp [gEq, eqS, eqP, D.py, D.pys, hp, hs.1, hs.2, PyData.eqv, e2]
      · have hs : (SeqAt.shaped (.list qs) && SeqAt.shaped (.list [])) = false := by simpa using hs
        simp [gEq, eqS, eqP, D.py, D.pys, hp, hs] at h
def ntD (z : Int × Frm) : D := .tup [.int z.1, .str (nt z.2)]
end
end FL
namespace FL
open PySem L2
theorem Sh.pair {a b : Nat} {x y : D} (hx : Sh 0 a x) (hy : Sh 0 b y) : Sh 1 (7 + a + b) (.tup [x, y]) := by
  obtain ⟨p, a1, b1, c1, l1, g1, k1⟩ := hx
  obtain ⟨q, a2, b2, c2, l2, g2, k2⟩ := hy
  refine ⟨.tuple [p, q], by simp [D.py, D.pys, a1, a2], by simp [PyData.showable, PyData.showableAll, b1, b2], by simp [PyData.hasDict, PyData.hasDictAll, c1, c2], by simp [PyData.canLay0, PyData.canLayAll0, l1, l2], by simp only [PyData.depth, PyData.depthAll]; omega, ?_⟩
  have := tup_len (PyData.shownAll [p, q])
  simp only [PyData.shownAll, piles, List.map_cons, List.map_nil, List.sum_cons, List.sum_nil] at this
  simp only [PyData.shown, PyData.shownAll]
  omega
theorem nt_len {F : Frm} (g : Gd F) {at_ : String → String → Att} {isa isb : String → String → Option Bool} (Q : QW at_ isa isb) : (nt F).length ≤ 500 * szF F := by
  have := (xd Q g).t
  rwa [t_q Q F] at this
theorem Sh.step {at_ : String → String → Att} {isa isb : String → String → Option Bool} (Q : QW at_ isa isb) {s : Nat} {z : Int × Frm} (g : Gd z.2) (h0 : 1 ≤ z.1) (h9 : z.1 ≤ 9) (hs : szF z.2 ≤ s) : Sh 1 (5000 * s + 11) (ntD z) := by
  have l := nt_len g Q
  have a := Sh.asc (x := nt z.2) (asc_nt 8 z.2 (vd8 g))
  have i := Sh.int (i := z.1) (by omega) (by omega)
  have m : 500 * szF z.2 ≤ 500 * s := Nat.mul_le_mul_left _ hs
  exact (Sh.pair i a).mono (Nat.le_refl _) (by omega)
end FL
namespace FL
open PySem L2
theorem tabLow_all {n : Nat} {μ : Mem} : tabLow n μ = true ↔ ∀ (k : Nat) P q, μ[k]? = some (.tab P q) → P < n := by
  constructor
  · intro h k P q e
    exact tabLow_at h (List.mem_of_getElem? e)
  · intro h
    refine List.all_eq_true.mpr fun o ho => ?_
    obtain ⟨k, hk⟩ := List.getElem?_of_mem ho
    cases o with
    | tab P q => exact decide_eq_true (h k P q hk)
    | _ => rfl
theorem tabLow_fr {n j : Nat} {μ μ' : Mem} {B : Int} (h : tabLow n μ = true) (f : Fr j μ μ') (s : Src μ' j B) : tabLow n μ' = true := by
  refine tabLow_all.mpr fun k P q e => ?_
  by_cases hk : k = j
  · subst hk
    obtain ⟨c, i, g, e1, _⟩ := s
    rw [e1] at e; cases e
  · rw [f.2 k hk] at e
    exact tabLow_all.mp h k P q e
end FL
namespace FL
open PySem PySem.Spec PyProof.Rows L2
theorem nbT_all {tb : Nat → Addr} {n m : Nat} (h : ∀ i, i < n → tb i + 1 ≤ m) : nbT tb n ≤ m := by
  have key : ∀ (l : List Nat) (a : Nat), a ≤ m → (∀ i ∈ l, tb i + 1 ≤ m) → l.foldl (fun a i => Nat.max a (tb i + 1)) a ≤ m := by
    intro l
    induction l with
    | nil => intro a ha _; exact ha
    | cons i l ih =>
      intro a ha hl
      exact ih _ (Nat.max_le.mpr ⟨ha, hl i List.mem_cons_self⟩) fun k hk => hl k (List.mem_cons_of_mem _ hk)
  exact key _ 0 (Nat.zero_le _) fun i hi => h i (List.mem_range.mp hi)
theorem nbT_lt {tb : Nat → Addr} {n i : Nat} (hi : i < n) : tb i < nbT tb n := by
  have key : ∀ (l : List Nat) (a : Nat), (a ≤ l.foldl (fun a i => Nat.max a (tb i + 1)) a) ∧ ∀ i ∈ l, tb i + 1 ≤ l.foldl (fun a i => Nat.max a (tb i + 1)) a := by
    intro l
    induction l with
    | nil => intro a; exact ⟨Nat.le_refl _, fun i h => by simp at h⟩
    | cons k l ih =>
      intro a
      obtain ⟨h1, h2⟩ := ih (Nat.max a (tb k + 1))
      refine ⟨Nat.le_trans (Nat.le_max_left _ _) h1, fun i hi => ?_⟩
      rcases List.mem_cons.mp hi with rfl | hi
      · exact Nat.le_trans (Nat.le_max_right _ _) h1
      · exact h2 i hi
  exact (key (List.range n) 0).2 i (List.mem_range.mpr hi)
theorem nb_of {ts : Mks} {x : Str} {K : PySem.W.Frag} {base : Heap} {n : Nat} (hn : ts.length = n) (t : tNb ts x K = true) (kb : K.In base) : nbT (tbOf K ts) n ≤ base.objs.size := by
  obtain ⟨t1, t2⟩ := Bool.and_eq_true_iff.mp t
  obtain ⟨o, ho⟩ := Option.isSome_iff_exists.mp t1
  have hlt := Heap.lt_size (kb _ _ ho)
  refine nbT_all fun i hi => ?_
  have hi' : i < ts.length := by omega
  have h := of_decide_eq_true (List.all_eq_true.mp t2 ts[i] (List.getElem_mem hi'))
  have e : tbOf K ts i = tabAd K ts[i].1 := by
    unfold tbOf
    rw [List.getD_eq_getElem?_getD, List.getElem?_map, List.getElem?_eq_getElem hi']
    rfl
  rw [e]
  exact Nat.le_trans (Nat.succ_le_of_lt h) (Nat.le_of_lt hlt)
end FL
namespace L09
open PySem PySem.Spec PyProof.Rows L2 FL LamX
def sc_iPrefix : Scope := { kind := .function, names := [("self", .local), ("field", .local), ("start", .local), ("__class__", .free), ("need_field", .globalImplicit), ("need_word", .globalImplicit), ("super", .globalImplicit)], isGenerator := false, isCoroutine := false, more := [] }
theorem scf_iPrefix : ClsScope ["self", "field", "start"] ["self", "field", "start"] sc_iPrefix := ⟨rfl, rfl, rfl, by decide +kernel, rfl, by decide +kernel, by decide +kernel, by decide +kernel, by decide +kernel, by decide +kernel⟩
def sc_iTerm : Scope := { kind := .function, names := [("self", .local), ("field", .local), ("word", .local), ("__class__", .free), ("need_field", .globalImplicit), ("need_word", .globalImplicit), ("super", .globalImplicit)], isGenerator := false, isCoroutine := false, more := [] }
theorem scf_iTerm : ClsScope ["self", "field", "word"] ["self", "field", "word"] sc_iTerm := ⟨rfl, rfl, rfl, by decide +kernel, rfl, by decide +kernel, by decide +kernel, by decide +kernel, by decide +kernel, by decide +kernel⟩
def sc_iRange : Scope := { kind := .function, names := [("self", .local), ("field", .local), ("low", .local), ("high", .local), ("bound", .local), ("__class__", .free), ("need_field", .globalImplicit), ("is_integer", .globalImplicit), ("MAX_BOUND", .globalImplicit), ("BadQuery", .globalImplicit), ("super", .globalImplicit), ("bound_text", .globalImplicit)], isGenerator := false, isCoroutine := false, more := [] }
theorem scf_iRange : ClsScope ["self", "field", "low", "high", "bound"] ["self", "field", "low", "high"] sc_iRange := ⟨rfl, rfl, rfl, by decide +kernel, rfl, by decide +kernel, by decide +kernel, by decide +kernel, by decide +kernel, by decide +kernel⟩
def sc_iEverything : Scope := { kind := .function, names := [("self", .local), ("__class__", .free), ("super", .globalImplicit)], isGenerator := false, isCoroutine := false, more := [] }
theorem scf_iEverything : ClsScope ["self"] ["self"] sc_iEverything := ⟨rfl, rfl, rfl, by decide +kernel, rfl, by decide +kernel, by decide +kernel, by decide +kernel, by decide +kernel, by decide +kernel⟩
structure Txt (tb : Nat → Addr) (P : Program) (w : World) (K : PySem.W.Frag) (mg : Str → Option Value) (base : Heap) : Prop where
  n_all : mg "all" = none
  n_bool : mg "bool" = none
  n_int : mg "int" = none
  n_isinstance : mg "isinstance" = none
  n_len : mg "len" = none
  n_list : mg "list" = none
  n_max : mg "max" = none
  n_min : mg "min" = none
  n_range : mg "range" = none
  n_repr : mg "repr" = none
  n_set : mg "set" = none
  n_sorted : mg "sorted" = none
  n_str : mg "str" = none
  n_sum : mg "sum" = none
  n_super : mg "super" = none
  n_tuple : mg "tuple" = none
  c_LETTERS : ∃ t, mg "LETTERS" = some (.str (Str.ofString "abcdefghijklmnopqrstuvwxyz") t)
  c_MAX_BOUND : ∃ t, mg "MAX_BOUND" = some (.int 1000000000 t)
  c_MAX_LEVELS : ∃ t, mg "MAX_LEVELS" = some (.int 8 t)
  c_MAX_NAME : ∃ t, mg "MAX_NAME" = some (.int 12 t)
  c_MAX_SIZE : ∃ t, mg "MAX_SIZE" = some (.int 60 t)
  c_MAX_WORD : ∃ t, mg "MAX_WORD" = some (.int 20 t)
  c_WORD_SIGNS : ∃ t, mg "WORD_SIGNS" = some (.str (Str.ofString "abcdefghijklmnopqrstuvwxyz0123456789") t)
  t_FIELD_KINDS : TupS K mg "FIELD_KINDS" [lit "term", lit "phrase", lit "prefix", lit "range"]
  x_BadQuery : Xc P w K mg base "BadQuery" "reason"
  s__law_refused : ∃ CS, mg "BadQuery" = some (.ref CS) ∧ Subs K mg CS sub__law_refused
  c_Everything : mg "Everything" = some (.ref (He.ga K "Everything"))
  c_Prefix : mg "Prefix" = some (.ref (He.ga K "Prefix"))
  c_Query : mg "Query" = some (.ref (He.ga K "Query"))
  c_Range : mg "Range" = some (.ref (He.ga K "Range"))
  c_Term : mg "Term" = some (.ref (He.ga K "Term"))
  atts : AttsOk K mg at_
  prp : PrpB K mg prps
  isa : IsaC K mg isa
  isb : IsbC K mg isb
  eqb : EqB K mg eqcs (fAdF K (pM "Query" "__eq__"))
  nf : NfOk K mg eqcs eqts
  mth_walk : MthB K mg gncs (Str.ofString "Query") (Str.ofString "walk")
  mk_Prefix : Mk K (He.ga K "Prefix") (fAdF K (pM "Prefix" "__init__"))
  mk_Term : Mk K (He.ga K "Term") (fAdF K (pM "Term" "__init__"))
  mk_Range : Mk K (He.ga K "Range") (fAdF K (pM "Range" "__init__"))
  mk_Everything : Mk K (He.ga K "Everything") (fAdF K (pM "Everything" "__init__"))
  f_iQuery : ∃ fd, Fd K "__init__" "Query.__init__" (clsDef 1 (tp 46)) (fAdF K (pM "Query" "__init__")) fd .none
  f_iPrefix : ∃ fd, FdK K "__init__" "Prefix.__init__" (clsDef 1 (tp 55)) (fAdF K (pM "Prefix" "__init__")) (kvAd K (pM "Prefix" "__init__")) (codeAd K (pM "Prefix" "__init__")) (ccAd K (pM "Prefix" "__init__")) fd
  ce_iPrefix : CellOk K (codeAd K (pM "Prefix" "__init__")) (ccAd K (pM "Prefix" "__init__")) (He.ga K "Prefix") P.main.file
  s_iPrefix : SupP P K mg (fAdF K (pM "Prefix" "__init__")) (codeAd K (pM "Prefix" "__init__")) (ccAd K (pM "Prefix" "__init__")) (He.ga K "Prefix") "self" sc_iPrefix ["self", "field", "start"]
  f_iTerm : ∃ fd, FdK K "__init__" "Term.__init__" (clsDef 1 (tp 53)) (fAdF K (pM "Term" "__init__")) (kvAd K (pM "Term" "__init__")) (codeAd K (pM "Term" "__init__")) (ccAd K (pM "Term" "__init__")) fd
  ce_iTerm : CellOk K (codeAd K (pM "Term" "__init__")) (ccAd K (pM "Term" "__init__")) (He.ga K "Term") P.main.file
  s_iTerm : SupP P K mg (fAdF K (pM "Term" "__init__")) (codeAd K (pM "Term" "__init__")) (ccAd K (pM "Term" "__init__")) (He.ga K "Term") "self" sc_iTerm ["self", "field", "word"]
  f_Query_parts : ∃ fd, Fd K "parts" "Query.parts" (clsDef 2 (tp 46)) (fAdF K (pM "Query" "parts")) fd .none
  f_Query_size : ∃ fd, Fd K "size" "Query.size" (clsDef 3 (tp 46)) (fAdF K (pM "Query" "size")) fd .none
  f_Query_levels : ∃ fd, Fd K "levels" "Query.levels" (clsDef 4 (tp 46)) (fAdF K (pM "Query" "levels")) fd .none
  f_Query_walk : ∃ fd, Fd K "walk" "Query.walk" (clsDef 7 (tp 46)) (fAdF K (pM "Query" "walk")) fd .none
  f_Query___eq__ : ∃ fd, Fd K "__eq__" "Query.__eq__" (clsDef 8 (tp 46)) (fAdF K (pM "Query" "__eq__")) fd .none
  f_iRange : ∃ fd, FdK K "__init__" "Range.__init__" (clsDef 1 (tp 56)) (fAdF K (pM "Range" "__init__")) (kvAd K (pM "Range" "__init__")) (codeAd K (pM "Range" "__init__")) (ccAd K (pM "Range" "__init__")) fd
  ce_iRange : CellOk K (codeAd K (pM "Range" "__init__")) (ccAd K (pM "Range" "__init__")) (He.ga K "Range") P.main.file
  s_iRange : SupP P K mg (fAdF K (pM "Range" "__init__")) (codeAd K (pM "Range" "__init__")) (ccAd K (pM "Range" "__init__")) (He.ga K "Range") "self" sc_iRange ["self", "field", "low", "high", "bound"]
  f_iEverything : ∃ fd, FdK K "__init__" "Everything.__init__" (clsDef 1 (tp 57)) (fAdF K (pM "Everything" "__init__")) (kvAd K (pM "Everything" "__init__")) (codeAd K (pM "Everything" "__init__")) (ccAd K (pM "Everything" "__init__")) fd
  ce_iEverything : CellOk K (codeAd K (pM "Everything" "__init__")) (ccAd K (pM "Everything" "__init__")) (He.ga K "Everything") P.main.file
  s_iEverything : SupP P K mg (fAdF K (pM "Everything" "__init__")) (codeAd K (pM "Everything" "__init__")) (ccAd K (pM "Everything" "__init__")) (He.ga K "Everything") "self" sc_iEverything ["self"]
  sb_Prefix : SupB K mg "Prefix" "__init__" (He.ga K "Prefix") (fAdF K (pM "Query" "__init__"))
  sb_Term : SupB K mg "Term" "__init__" (He.ga K "Term") (fAdF K (pM "Query" "__init__"))
  sb_Range : SupB K mg "Range" "__init__" (He.ga K "Range") (fAdF K (pM "Query" "__init__"))
  sb_Everything : SupB K mg "Everything" "__init__" (He.ga K "Everything") (fAdF K (pM "Query" "__init__"))
  d__law_source : ∃ f fd, Fd K "_law_source" "_law_source" (tp 65) f fd .none ∧ mg "_law_source" = some (.ref f) ∧ PySem.W.keepIn K (.ref f) = true
  d__law_next : ∃ f fd, Fd K "_law_next" "_law_next" (tp 66) f fd .none ∧ mg "_law_next" = some (.ref f) ∧ PySem.W.keepIn K (.ref f) = true
  d__law_pick : ∃ f fd, Fd K "_law_pick" "_law_pick" (tp 67) f fd .none ∧ mg "_law_pick" = some (.ref f) ∧ PySem.W.keepIn K (.ref f) = true
  d__law_is_run : ∃ f fd, Fd K "_law_is_run" "_law_is_run" (tp 69) f fd .none ∧ mg "_law_is_run" = some (.ref f) ∧ PySem.W.keepIn K (.ref f) = true
  d__law_refused : ∃ f fd, Fd K "_law_refused" "_law_refused" (tp 68) f fd .none ∧ mg "_law_refused" = some (.ref f) ∧ PySem.W.keepIn K (.ref f) = true
  d_is_made_of : ∃ f fd, Fd K "is_made_of" "is_made_of" (tp 15) f fd .none ∧ mg "is_made_of" = some (.ref f) ∧ PySem.W.keepIn K (.ref f) = true
  d_is_field_name : ∃ f fd, Fd K "is_field_name" "is_field_name" (tp 16) f fd .none ∧ mg "is_field_name" = some (.ref f) ∧ PySem.W.keepIn K (.ref f) = true
  d_need_field : ∃ f fd, Fd K "need_field" "need_field" (tp 44) f fd .none ∧ mg "need_field" = some (.ref f) ∧ PySem.W.keepIn K (.ref f) = true
  d_is_word : ∃ f fd, Fd K "is_word" "is_word" (tp 17) f fd .none ∧ mg "is_word" = some (.ref f) ∧ PySem.W.keepIn K (.ref f) = true
  d_need_word : ∃ f fd, Fd K "need_word" "need_word" (tp 45) f fd .none ∧ mg "need_word" = some (.ref f) ∧ PySem.W.keepIn K (.ref f) = true
  d_fields_of : ∃ f fd, Fd K "fields_of" "fields_of" (tp 49) f fd .none ∧ mg "fields_of" = some (.ref f) ∧ PySem.W.keepIn K (.ref f) = true
  d__law_is_bare : ∃ f fd, Fd K "_law_is_bare" "_law_is_bare" (tp 71) f fd .none ∧ mg "_law_is_bare" = some (.ref f) ∧ PySem.W.keepIn K (.ref f) = true
  d__law_words_right : ∃ c f fd, FdL K "_law_words_right" "_law_words_right" (tp 72) f fd .none c ∧ TabB base mg c (tb 0) ∧ mg "_law_words_right" = some (.ref f) ∧ PySem.W.keepIn K (.ref f) = true
  d__law_is_bound : ∃ f fd, Fd K "_law_is_bound" "_law_is_bound" (tp 70) f fd .none ∧ mg "_law_is_bound" = some (.ref f) ∧ PySem.W.keepIn K (.ref f) = true
  d_is_integer : ∃ f fd, Fd K "is_integer" "is_integer" (tp 14) f fd .none ∧ mg "is_integer" = some (.ref f) ∧ PySem.W.keepIn K (.ref f) = true
  d_bound_text : ∃ f fd, Fd K "bound_text" "bound_text" (tp 33) f fd .none ∧ mg "bound_text" = some (.ref f) ∧ PySem.W.keepIn K (.ref f) = true
  d__law_ranges_right : ∃ c f fd, FdL K "_law_ranges_right" "_law_ranges_right" (tp 73) f fd .none c ∧ TabB base mg c (tb 1) ∧ mg "_law_ranges_right" = some (.ref f) ∧ PySem.W.keepIn K (.ref f) = true
  nb : nbT tb 2 ≤ base.objs.size
def sc__law_source : Scope := { kind := .function, names := [("_law_script", .local), ("_law_k", .local), ("_law_cell", .local), ("len", .globalImplicit)], isGenerator := false, isCoroutine := false, more := [] }
theorem scf__law_source : FnScope ["_law_script", "_law_k", "_law_cell"] ["_law_script", "_law_k"] sc__law_source := ⟨rfl, rfl, rfl, by decide +kernel, rfl, by decide +kernel, by decide +kernel⟩
noncomputable def b__law_source (δ : FL.Loc) (μ : Mem) : OutS := (mSeq (mSet 2 (mIf (mTb (m2 (gEq true) (.v 0) (.e (mLst [])))) (m2 gIxL (.v 0) (.e (m2 gMod (.v 1) (.e (mC gLen [(.v 0)]))))) (mD (.int 1))))
    (mRet (mShare (mLst [(mV 2), (m2 gMulA (.e (mD (.int 3))) (.v 1)), (mIf (mTb (m2 gGe (.v 2) (.e (m2 gPow (.e (mD (.int 10))) (.e (mD (.int 18))))))) (m2 gDiv (.v 2) (.e (m2 gPow (.e (mD (.int 10))) (.e (mD (.int 18)))))) (mD (.int 0)))])))) δ μ
noncomputable def m__law_source : MF := mFn 3 (b__law_source)
theorem g__law_source {tb : Nat → Addr} {P : Program} {w : World} {K : PySem.W.Frag} {mg : Str → Option Value} {base : Heap} {f : Addr} {fd : FuncData} (F : Fd K "_law_source" "_law_source" (tp 65) f fd .none) (T : Txt tb P w K mg base) : FnG P w K mg base (L2.CX P w) (0 + 1) f fd ["_law_script", "_law_k"] (spM K mg (mFn 3 (b__law_source)) 2) := by
  refine fnG_s (N := ["_law_script", "_law_k", "_law_cell"]) (sc := sc__law_source) F scf__law_source (by kernel_rfl) rfl ?_
  intro X W hP hw hK hM hB C
  subst hP hw hK hM hB
  exact (jss_cons (C.set (by decide +kernel) (je_if (C.neT (C.ov (by decide +kernel)) (jo_e (je_lst ja_nil))) (ix_ (C.ov (by decide +kernel)) (jo_e (mod_ (C.ov (by decide +kernel)) (jo_e (C.bi (by decide +kernel) T.n_len PySem.boot_len o_len j_len (jos_cons (C.ov (by decide +kernel)) jos_nil))))) (by intro _ _; rfl)) je_int))
    (jss_one (js_ret (je_share (je_lst (ja_cons (C.v (by decide +kernel)) (ja_cons (mul_ (jo_e je_int) (C.ov (by decide +kernel))) (ja_cons (je_if (geT (C.ov (by decide +kernel)) (jo_e (pow_ (jo_e je_int) (jo_e je_int)))) (div_ (C.ov (by decide +kernel)) (jo_e (pow_ (jo_e je_int) (jo_e je_int)))) je_int) ja_nil))))))))
theorem bd__law_source {K : PySem.W.Frag} {f : Addr} {fd : FuncData} (F : Fd K "_law_source" "_law_source" (tp 65) f fd .none) : Binds K fd ["_law_script", "_law_k"] [] :=
  F.binds fun _ _ _ _ _ _ us hl => match us, hl with | [_, _], _ => by kernel_rfl
theorem ok__law_source {tb : Nat → Addr} {P : Program} {w : World} {K : PySem.W.Frag} {mg : Str → Option Value} {base : Heap} (T : Txt tb P w K mg base) : Fu P w K mg base 1 "_law_source" m__law_source 2 [] := by
  obtain ⟨f, fd, F, hm, hk⟩ := T.d__law_source
  exact Fu.mk0 (g__law_source F T) hm hk (bd__law_source F)
def sc__law_next : Scope := { kind := .function, names := [("_law_source_here", .local), ("_law_many", .local), ("_law_found", .local), ("_law_primes", .local), ("_law_prime", .local)], isGenerator := false, isCoroutine := false, more := [] }
theorem scf__law_next : FnScope ["_law_source_here", "_law_many", "_law_found", "_law_primes", "_law_prime"] ["_law_source_here", "_law_many"] sc__law_next := ⟨rfl, rfl, rfl, by decide +kernel, rfl, by decide +kernel, by decide +kernel⟩
noncomputable def b__law_next (δ : FL.Loc) (μ : Mem) : OutS := (mSeq (mIfS (mTb (m2 gGt (.e (m2 gIxL (.v 0) (.e (mD (.int 2))))) (.e (mD (.int 0))))) (mSeq (mSet 2 (m2 gMod (.e (m2 gIxL (.v 0) (.e (mD (.int 2))))) (.v 1)))
    (mSeq (mSetI gSetL (.v 0) (.e (mD (.int 2))) (m2 gDiv (.e (m2 gIxL (.v 0) (.e (mD (.int 2))))) (.v 1)))
    (mRet (mV 2))))
    mPass)
    (mSeq (mSetI gSetL (.v 0) (.e (mD (.int 1))) (m2 gAdd (.e (m2 gIxL (.v 0) (.e (mD (.int 1))))) (.e (mD (.int 1)))))
    (mSeq (mSet 3 (mLst [(mD (.int 2147483647)), (mD (.int 2147483629)), (mD (.int 2147483587)), (mD (.int 2147483579)), (mD (.int 2147483563)), (mD (.int 2147483549)), (mD (.int 2147483543)), (mD (.int 2147483497))]))
    (mSeq (mSet 4 (m2 gIxL (.e (m2 gAdd (.v 3) (.e (mLst [(mD (.int 2147483489)), (mD (.int 2147483477)), (mD (.int 2147483423))])))) (.e (m2 gMod (.e (m2 gIxL (.v 0) (.e (mD (.int 1))))) (.e (mD (.int 11)))))))
    (mRet (m2 gMod (.e (m2 gDiv (.e (m2 gMod (.e (m2 gPow (.e (m2 gAdd (.e (m2 gAdd (.e (m2 gMod (.e (m2 gIxL (.v 0) (.e (mD (.int 0))))) (.v 4))) (.e (m2 gMulA (.e (mD (.int 7919))) (.e (m2 gIxL (.v 0) (.e (mD (.int 1))))))))) (.e (mD (.int 1))))) (.e (mD (.int 5))))) (.v 4))) (.e (mD (.int 13))))) (.v 1))))))) δ μ
noncomputable def m__law_next : MF := mFn 5 (b__law_next)
theorem g__law_next {tb : Nat → Addr} {P : Program} {w : World} {K : PySem.W.Frag} {mg : Str → Option Value} {base : Heap} {f : Addr} {fd : FuncData} (F : Fd K "_law_next" "_law_next" (tp 66) f fd .none) (T : Txt tb P w K mg base) : FnG P w K mg base (L2.CX P w) (0 + 1) f fd ["_law_source_here", "_law_many"] (spM K mg (mFn 5 (b__law_next)) 2) := by
  refine fnG_s (N := ["_law_source_here", "_law_many", "_law_found", "_law_primes", "_law_prime"]) (sc := sc__law_next) F scf__law_next (by kernel_rfl) rfl ?_
  intro X W hP hw hK hM hB C
  subst hP hw hK hM hB
  exact (jss_cons (js_if (gtT (jo_e (ix_ (C.ov (by decide +kernel)) (jo_e je_int) (by intro _ _; rfl))) (jo_e je_int)) (jss_cons (C.set (by decide +kernel) (mod_ (jo_e (ix_ (C.ov (by decide +kernel)) (jo_e je_int) (by intro _ _; rfl))) (C.ov (by decide +kernel))))
    (jss_cons (setI_ (div_ (jo_e (ix_ (C.ov (by decide +kernel)) (jo_e je_int) (by intro _ _; rfl))) (C.ov (by decide +kernel))) (C.ov (by decide +kernel)) (jo_e je_int))
    (jss_one (js_ret (C.v (by decide +kernel))))))
    jss_nil)
    (jss_cons (setI_ (add_ (jo_e (ix_ (C.ov (by decide +kernel)) (jo_e je_int) (by intro _ _; rfl))) (jo_e je_int)) (C.ov (by decide +kernel)) (jo_e je_int))
    (jss_cons (C.set (by decide +kernel) (je_lst (ja_cons je_int (ja_cons je_int (ja_cons je_int (ja_cons je_int (ja_cons je_int (ja_cons je_int (ja_cons je_int (ja_cons je_int ja_nil))))))))))
    (jss_cons (C.set (by decide +kernel) (ix_ (jo_e (add_ (C.ov (by decide +kernel)) (jo_e (je_lst (ja_cons je_int (ja_cons je_int (ja_cons je_int ja_nil))))))) (jo_e (mod_ (jo_e (ix_ (C.ov (by decide +kernel)) (jo_e je_int) (by intro _ _; rfl))) (jo_e je_int))) (by intro _ _; rfl)))
    (jss_one (js_ret (mod_ (jo_e (div_ (jo_e (mod_ (jo_e (pow_ (jo_e (add_ (jo_e (add_ (jo_e (mod_ (jo_e (ix_ (C.ov (by decide +kernel)) (jo_e je_int) (by intro _ _; rfl))) (C.ov (by decide +kernel)))) (jo_e (mul_ (jo_e je_int) (jo_e (ix_ (C.ov (by decide +kernel)) (jo_e je_int) (by intro _ _; rfl))))))) (jo_e je_int))) (jo_e je_int))) (C.ov (by decide +kernel)))) (jo_e je_int))) (C.ov (by decide +kernel)))))))))
theorem bd__law_next {K : PySem.W.Frag} {f : Addr} {fd : FuncData} (F : Fd K "_law_next" "_law_next" (tp 66) f fd .none) : Binds K fd ["_law_source_here", "_law_many"] [] :=
  F.binds fun _ _ _ _ _ _ us hl => match us, hl with | [_, _], _ => by kernel_rfl
theorem ok__law_next {tb : Nat → Addr} {P : Program} {w : World} {K : PySem.W.Frag} {mg : Str → Option Value} {base : Heap} (T : Txt tb P w K mg base) : Fu P w K mg base 1 "_law_next" m__law_next 2 [] := by
  obtain ⟨f, fd, F, hm, hk⟩ := T.d__law_next
  exact Fu.mk0 (g__law_next F T) hm hk (bd__law_next F)
def sc__law_pick : Scope := { kind := .function, names := [("_law_source_here", .local), ("_law_items", .local), ("_law_next", .globalImplicit), ("len", .globalImplicit)], isGenerator := false, isCoroutine := false, more := [] }
theorem scf__law_pick : FnScope ["_law_source_here", "_law_items"] ["_law_source_here", "_law_items"] sc__law_pick := ⟨rfl, rfl, rfl, by decide +kernel, rfl, by decide +kernel, by decide +kernel⟩
noncomputable def b__law_pick (δ : FL.Loc) (μ : Mem) : OutS := (mRet (m2 gIxL (.v 1) (.e (mCall m__law_next [(mV 0), (mC gLen [(.v 1)])] [])))) δ μ
noncomputable def m__law_pick : MF := mFn 2 (b__law_pick)
theorem g__law_pick {tb : Nat → Addr} {P : Program} {w : World} {K : PySem.W.Frag} {mg : Str → Option Value} {base : Heap} {f : Addr} {fd : FuncData} (F : Fd K "_law_pick" "_law_pick" (tp 67) f fd .none) (T : Txt tb P w K mg base) : FnG P w K mg base (L2.CX P w) (1 + 1) f fd ["_law_source_here", "_law_items"] (spM K mg (mFn 2 (b__law_pick)) 2) := by
  refine fnG_s (N := ["_law_source_here", "_law_items"]) (sc := sc__law_pick) F scf__law_pick (by kernel_rfl) rfl ?_
  intro X W hP hw hK hM hB C
  subst hP hw hK hM hB
  exact (jss_one (js_ret (ix_ (C.ov (by decide +kernel)) (jo_e (je_call C.toCs (ok__law_next T) (by decide +kernel) (by decide +kernel) (ja_cons (C.v (by decide +kernel)) (ja_cons (C.bi (by decide +kernel) T.n_len PySem.boot_len o_len j_len (jos_cons (C.ov (by decide +kernel)) jos_nil)) ja_nil)) rfl)) (by intro _ _; rfl))))
theorem bd__law_pick {K : PySem.W.Frag} {f : Addr} {fd : FuncData} (F : Fd K "_law_pick" "_law_pick" (tp 67) f fd .none) : Binds K fd ["_law_source_here", "_law_items"] [] :=
  F.binds fun _ _ _ _ _ _ us hl => match us, hl with | [_, _], _ => by kernel_rfl
theorem ok__law_pick {tb : Nat → Addr} {P : Program} {w : World} {K : PySem.W.Frag} {mg : Str → Option Value} {base : Heap} (T : Txt tb P w K mg base) : Fu P w K mg base 2 "_law_pick" m__law_pick 2 [] := by
  obtain ⟨f, fd, F, hm, hk⟩ := T.d__law_pick
  exact Fu.mk0 (g__law_pick F T) hm hk (bd__law_pick F)
def sc__law_is_run : Scope := { kind := .function, names := [("_law_thing", .local), ("_law_signs", .cell), ("_law_most", .local), ("isinstance", .globalImplicit), ("str", .globalImplicit), ("len", .globalImplicit)], isGenerator := false, isCoroutine := false, more := [("fast", .str "_law_thing"), ("fast", .str "_law_signs"), ("fast", .str "_law_most"), ("fast", .str "_law_x")] }
theorem scf__law_is_run : FnScope ["_law_thing", "_law_signs", "_law_most", "_law_x"] ["_law_thing", "_law_signs", "_law_most"] sc__law_is_run := ⟨rfl, rfl, rfl, by decide +kernel, rfl, by decide +kernel, by decide +kernel⟩
noncomputable def t1__law_is_run (δ : FL.Loc) (μ : Mem) : Out Bool := (mTb (m2 (gIn true) (.v 3) (.v 1))) δ μ
noncomputable def e2__law_is_run (δ : FL.Loc) (μ : Mem) : Out FL.Slot := (mV 3) δ μ
noncomputable def b__law_is_run (δ : FL.Loc) (μ : Mem) : OutS := (mRet (mAndV (mC gIsi [(.v 0), (.e (mD (.ty "str")))]) (mAndV (mChain gLe gLe (.e (mD (.int 1))) (.e (mC gLen [(.v 0)])) (.v 2)) (m2 (gEq false) (.e (mLc (mIt (mV 0)) (tgV 3) t1__law_is_run e2__law_is_run [3])) (.e (mLst [])))))) δ μ
noncomputable def m__law_is_run : MF := mFn 4 (b__law_is_run)
theorem g__law_is_run {tb : Nat → Addr} {P : Program} {w : World} {K : PySem.W.Frag} {mg : Str → Option Value} {base : Heap} {f : Addr} {fd : FuncData} (F : Fd K "_law_is_run" "_law_is_run" (tp 69) f fd .none) (T : Txt tb P w K mg base) : FnG P w K mg base (L2.CX P w) (0 + 1) f fd ["_law_thing", "_law_signs", "_law_most"] (spM K mg (mFn 4 (b__law_is_run)) 3) := by
  refine fnG_s (N := ["_law_thing", "_law_signs", "_law_most", "_law_x"]) (sc := sc__law_is_run) F scf__law_is_run (by kernel_rfl) rfl ?_
  intro X W hP hw hK hM hB C
  subst hP hw hK hM hB
  exact (jss_one (js_ret (je_and (C.bi (by decide +kernel) T.n_isinstance (by decide +kernel) call_isi j_isi (jos_cons (C.ov (by decide +kernel)) (jos_cons (jo_e (C.ty (by decide +kernel) T.n_str (by decide +kernel))) jos_nil))) (je_and (chain_ o_le j_le o_le j_le (jo_e je_int) (jo_e (C.bi (by decide +kernel) T.n_len PySem.boot_len o_len j_len (jos_cons (C.ov (by decide +kernel)) jos_nil))) (C.ov (by decide +kernel))) (je_one (C.eq (jo_e (Cs.lc (Tx := Txt tb) C.toCs T [("_law_x", 3)] (ji_any (C.v (by decide +kernel))) (by decide +kernel) (fun Y T1 C1 => ⟨(C1.tg (by decide +kernel)), (jts_one (ninT (C1.ov (by decide +kernel)) (C1.ov (by decide +kernel)))), (C1.v (by decide +kernel))⟩) (by rfl))) (jo_e (je_lst ja_nil))))))))
theorem bd__law_is_run {K : PySem.W.Frag} {f : Addr} {fd : FuncData} (F : Fd K "_law_is_run" "_law_is_run" (tp 69) f fd .none) : Binds K fd ["_law_thing", "_law_signs", "_law_most"] [] :=
  F.binds fun _ _ _ _ _ _ us hl => match us, hl with | [_, _, _], _ => by kernel_rfl
theorem ok__law_is_run {tb : Nat → Addr} {P : Program} {w : World} {K : PySem.W.Frag} {mg : Str → Option Value} {base : Heap} (T : Txt tb P w K mg base) : Fu P w K mg base 1 "_law_is_run" m__law_is_run 3 [] := by
  obtain ⟨f, fd, F, hm, hk⟩ := T.d__law_is_run
  exact Fu.mk0 (g__law_is_run F T) hm hk (bd__law_is_run F)
def sc__law_refused : Scope := { kind := .function, names := [("_law_ask", .local), ("_law_error", .local), ("raised", .local), ("BadQuery", .globalImplicit)], isGenerator := false, isCoroutine := false, more := [] }
theorem scf__law_refused : FnScope ["_law_ask", "_law_error", "raised"] ["_law_ask"] sc__law_refused := ⟨rfl, rfl, rfl, by decide +kernel, rfl, by decide +kernel, by decide +kernel⟩
def q__law_refused : Nat → Pos := fun i => match i with
  | 0 => ⟨445, 4, 445, 14⟩
  | 1 => ⟨445, 17, 445, 21⟩
  | 2 => ⟨445, 4, 445, 21⟩
  | 3 => ⟨447, 8, 447, 16⟩
  | 4 => ⟨447, 8, 447, 18⟩
  | 5 => ⟨447, 8, 447, 18⟩
  | 6 => ⟨448, 11, 448, 19⟩
  | 7 => ⟨449, 8, 449, 18⟩
  | 8 => ⟨449, 21, 449, 27⟩
  | 9 => ⟨449, 8, 449, 27⟩
  | 10 => ⟨448, 4, 449, 27⟩
  | 11 => ⟨446, 4, 449, 27⟩
  | _ => ⟨0, 0, 0, 0⟩
noncomputable def r__law_refused (δ : FL.Loc) (μ : Mem) : OutS := (mRet (m2 (gIsN true) (.v 1) (.e (mD .non)))) δ μ
noncomputable def m__law_refused : (Mem → OutF) → Mem → OutF := mHelp sub__law_refused r__law_refused
theorem bd__law_refused {K : PySem.W.Frag} {f : Addr} {fd : FuncData} (F : Fd K "_law_refused" "_law_refused" (tp 68) f fd .none) : Binds K fd ["_law_ask"] [] :=
  F.binds fun _ _ _ _ _ _ us hl => match us, hl with | [_], _ => by kernel_rfl
theorem ok__law_refused {tb : Nat → Addr} {P : Program} {w : World} {K : PySem.W.Frag} {mg : Str → Option Value} {base : Heap} {k : Nat} (T : Txt tb P w K mg base) : Hlp P w K mg base (k + 1) "_law_refused" m__law_refused := by
  obtain ⟨f, fd, F, hm, hk⟩ := T.d__law_refused
  obtain ⟨CS, hC, hS⟩ := T.s__law_refused
  refine hlp_of (a := "_law_ask") (caught := "_law_error") (err := "raised") (ec := "BadQuery") (jn := 0) (q := q__law_refused) (rest := (defBody (tp 68)).drop 2) (sc := sc__law_refused) F scf__law_refused (by kernel_rfl) (by kernel_rfl) hm hk (bd__law_refused F) (by decide +kernel) hC hS (by decide +kernel) (by decide +kernel) (by decide +kernel) (by decide +kernel) ?_
  intro X W hP hw hK hM hB C
  subst hP hw hK hM hB
  exact (jss_one (js_ret (notN_ (C.ov (by decide +kernel)) (jo_e je_non))))
def sc_is_made_of : Scope := { kind := .function, names := [("value", .local), ("signs", .cell), ("most", .local), ("isinstance", .globalImplicit), ("str", .globalImplicit), ("len", .globalImplicit), ("all", .globalImplicit)], isGenerator := false, isCoroutine := false, more := [("fast", .str "value"), ("fast", .str "signs"), ("fast", .str "most"), ("fast", .str "sign")] }
theorem scf_is_made_of : FnScope ["value", "signs", "most", "sign"] ["value", "signs", "most"] sc_is_made_of := ⟨rfl, rfl, rfl, by decide +kernel, rfl, by decide +kernel, by decide +kernel⟩
noncomputable def e1_is_made_of (δ : FL.Loc) (μ : Mem) : Out FL.Slot := (m2 (gIn false) (.v 3) (.v 1)) δ μ
noncomputable def b_is_made_of (δ : FL.Loc) (μ : Mem) : OutS := (mRet (mAndV (mC gIsi [(.v 0), (.e (mD (.ty "str")))]) (mAndV (mChain gLe gLe (.e (mD (.int 1))) (.e (mC gLen [(.v 0)])) (.v 2)) (mC gAll [(.e (mLc (mIt (mV 0)) (tgV 3) mYes e1_is_made_of [3]))])))) δ μ
noncomputable def m_is_made_of : MF := mFn 4 (b_is_made_of)
theorem g_is_made_of {tb : Nat → Addr} {P : Program} {w : World} {K : PySem.W.Frag} {mg : Str → Option Value} {base : Heap} {f : Addr} {fd : FuncData} (F : Fd K "is_made_of" "is_made_of" (tp 15) f fd .none) (T : Txt tb P w K mg base) : FnG P w K mg base (L2.CX P w) (0 + 1) f fd ["value", "signs", "most"] (spM K mg (mFn 4 (b_is_made_of)) 3) := by
  refine fnG_s (N := ["value", "signs", "most", "sign"]) (sc := sc_is_made_of) F scf_is_made_of (by kernel_rfl) rfl ?_
  intro X W hP hw hK hM hB C
  subst hP hw hK hM hB
  exact (jss_one (js_ret (je_and (C.bi (by decide +kernel) T.n_isinstance (by decide +kernel) call_isi j_isi (jos_cons (C.ov (by decide +kernel)) (jos_cons (jo_e (C.ty (by decide +kernel) T.n_str (by decide +kernel))) jos_nil))) (je_and (chain_ o_le j_le o_le j_le (jo_e je_int) (jo_e (C.bi (by decide +kernel) T.n_len PySem.boot_len o_len j_len (jos_cons (C.ov (by decide +kernel)) jos_nil))) (C.ov (by decide +kernel))) (je_one (C.bi (by decide +kernel) T.n_all (by decide +kernel) (cr_all C.calm) j_all (jos_cons (jo_e (Cs.lc (Tx := Txt tb) C.toCs T [("sign", 3)] (ji_any (C.v (by decide +kernel))) (by decide +kernel) (fun Y T1 C1 => ⟨(C1.tg (by decide +kernel)), jts_nil, (in_ (C1.ov (by decide +kernel)) (C1.ov (by decide +kernel)))⟩) (by rfl))) jos_nil)))))))
theorem bd_is_made_of {K : PySem.W.Frag} {f : Addr} {fd : FuncData} (F : Fd K "is_made_of" "is_made_of" (tp 15) f fd .none) : Binds K fd ["value", "signs", "most"] [] :=
  F.binds fun _ _ _ _ _ _ us hl => match us, hl with | [_, _, _], _ => by kernel_rfl
theorem ok_is_made_of {tb : Nat → Addr} {P : Program} {w : World} {K : PySem.W.Frag} {mg : Str → Option Value} {base : Heap} (T : Txt tb P w K mg base) : Fu P w K mg base 1 "is_made_of" m_is_made_of 3 [] := by
  obtain ⟨f, fd, F, hm, hk⟩ := T.d_is_made_of
  exact Fu.mk0 (g_is_made_of F T) hm hk (bd_is_made_of F)
def sc_is_field_name : Scope := { kind := .function, names := [("value", .local), ("is_made_of", .globalImplicit), ("LETTERS", .globalImplicit), ("MAX_NAME", .globalImplicit)], isGenerator := false, isCoroutine := false, more := [] }
theorem scf_is_field_name : FnScope ["value"] ["value"] sc_is_field_name := ⟨rfl, rfl, rfl, by decide +kernel, rfl, by decide +kernel, by decide +kernel⟩
noncomputable def b_is_field_name (δ : FL.Loc) (μ : Mem) : OutS := (mRet (mCall m_is_made_of [(mV 0), (mD (.str (lit "abcdefghijklmnopqrstuvwxyz"))), (mD (.int 12))] [])) δ μ
noncomputable def m_is_field_name : MF := mFn 1 (b_is_field_name)
theorem g_is_field_name {tb : Nat → Addr} {P : Program} {w : World} {K : PySem.W.Frag} {mg : Str → Option Value} {base : Heap} {f : Addr} {fd : FuncData} (F : Fd K "is_field_name" "is_field_name" (tp 16) f fd .none) (T : Txt tb P w K mg base) : FnG P w K mg base (L2.CX P w) (1 + 1) f fd ["value"] (spM K mg (mFn 1 (b_is_field_name)) 1) := by
  refine fnG_s (N := ["value"]) (sc := sc_is_field_name) F scf_is_field_name (by kernel_rfl) rfl ?_
  intro X W hP hw hK hM hB C
  subst hP hw hK hM hB
  exact (jss_one (js_ret (je_call C.toCs (ok_is_made_of T) (by decide +kernel) (by decide +kernel) (ja_cons (C.v (by decide +kernel)) (ja_cons (C.gStr (by decide +kernel) T.c_LETTERS) (ja_cons (C.gInt (by decide +kernel) T.c_MAX_NAME) ja_nil))) rfl)))
theorem bd_is_field_name {K : PySem.W.Frag} {f : Addr} {fd : FuncData} (F : Fd K "is_field_name" "is_field_name" (tp 16) f fd .none) : Binds K fd ["value"] [] :=
  F.binds fun _ _ _ _ _ _ us hl => match us, hl with | [_], _ => by kernel_rfl
theorem ok_is_field_name {tb : Nat → Addr} {P : Program} {w : World} {K : PySem.W.Frag} {mg : Str → Option Value} {base : Heap} (T : Txt tb P w K mg base) : Fu P w K mg base 2 "is_field_name" m_is_field_name 1 [] := by
  obtain ⟨f, fd, F, hm, hk⟩ := T.d_is_field_name
  exact Fu.mk0 (g_is_field_name F T) hm hk (bd_is_field_name F)
def sc_need_field : Scope := { kind := .function, names := [("value", .local), ("is_field_name", .globalImplicit), ("BadQuery", .globalImplicit)], isGenerator := false, isCoroutine := false, more := [] }
theorem scf_need_field : FnScope ["value"] ["value"] sc_need_field := ⟨rfl, rfl, rfl, by decide +kernel, rfl, by decide +kernel, by decide +kernel⟩
noncomputable def b_need_field (δ : FL.Loc) (μ : Mem) : OutS := (mIfS (mNot (mTb (mCall m_is_field_name [(mV 0)] []))) (mRaise "BadQuery" "reason" (mD (.str (lit "not a field name"))))
    mPass) δ μ
noncomputable def m_need_field : MF := mFn 1 (b_need_field)
theorem g_need_field {tb : Nat → Addr} {P : Program} {w : World} {K : PySem.W.Frag} {mg : Str → Option Value} {base : Heap} {f : Addr} {fd : FuncData} (F : Fd K "need_field" "need_field" (tp 44) f fd .none) (T : Txt tb P w K mg base) : FnG P w K mg base (L2.CX P w) (3 + 1) f fd ["value"] (spM K mg (mFn 1 (b_need_field)) 1) := by
  refine fnG_s (N := ["value"]) (sc := sc_need_field) F scf_need_field (by kernel_rfl) rfl ?_
  intro X W hP hw hK hM hB C
  subst hP hw hK hM hB
  exact (jss_one (js_if (jt_not (jt_e (je_call C.toCs (ok_is_field_name T) (by decide +kernel) (by decide +kernel) (ja_cons (C.v (by decide +kernel)) ja_nil) rfl))) (jss_one (js_raise C.toCs T.x_BadQuery (by decide) (by decide +kernel) je_str))
    jss_nil))
theorem bd_need_field {K : PySem.W.Frag} {f : Addr} {fd : FuncData} (F : Fd K "need_field" "need_field" (tp 44) f fd .none) : Binds K fd ["value"] [] :=
  F.binds fun _ _ _ _ _ _ us hl => match us, hl with | [_], _ => by kernel_rfl
theorem ok_need_field {tb : Nat → Addr} {P : Program} {w : World} {K : PySem.W.Frag} {mg : Str → Option Value} {base : Heap} (T : Txt tb P w K mg base) : Fu P w K mg base 4 "need_field" m_need_field 1 [] := by
  obtain ⟨f, fd, F, hm, hk⟩ := T.d_need_field
  exact Fu.mk0 (g_need_field F T) hm hk (bd_need_field F)
def sc_is_word : Scope := { kind := .function, names := [("value", .local), ("is_made_of", .globalImplicit), ("WORD_SIGNS", .globalImplicit), ("MAX_WORD", .globalImplicit)], isGenerator := false, isCoroutine := false, more := [] }
theorem scf_is_word : FnScope ["value"] ["value"] sc_is_word := ⟨rfl, rfl, rfl, by decide +kernel, rfl, by decide +kernel, by decide +kernel⟩
noncomputable def b_is_word (δ : FL.Loc) (μ : Mem) : OutS := (mRet (mCall m_is_made_of [(mV 0), (mD (.str (lit "abcdefghijklmnopqrstuvwxyz0123456789"))), (mD (.int 20))] [])) δ μ
noncomputable def m_is_word : MF := mFn 1 (b_is_word)
theorem g_is_word {tb : Nat → Addr} {P : Program} {w : World} {K : PySem.W.Frag} {mg : Str → Option Value} {base : Heap} {f : Addr} {fd : FuncData} (F : Fd K "is_word" "is_word" (tp 17) f fd .none) (T : Txt tb P w K mg base) : FnG P w K mg base (L2.CX P w) (1 + 1) f fd ["value"] (spM K mg (mFn 1 (b_is_word)) 1) := by
  refine fnG_s (N := ["value"]) (sc := sc_is_word) F scf_is_word (by kernel_rfl) rfl ?_
  intro X W hP hw hK hM hB C
  subst hP hw hK hM hB
  exact (jss_one (js_ret (je_call C.toCs (ok_is_made_of T) (by decide +kernel) (by decide +kernel) (ja_cons (C.v (by decide +kernel)) (ja_cons (C.gStr (by decide +kernel) T.c_WORD_SIGNS) (ja_cons (C.gInt (by decide +kernel) T.c_MAX_WORD) ja_nil))) rfl)))
theorem bd_is_word {K : PySem.W.Frag} {f : Addr} {fd : FuncData} (F : Fd K "is_word" "is_word" (tp 17) f fd .none) : Binds K fd ["value"] [] :=
  F.binds fun _ _ _ _ _ _ us hl => match us, hl with | [_], _ => by kernel_rfl
theorem ok_is_word {tb : Nat → Addr} {P : Program} {w : World} {K : PySem.W.Frag} {mg : Str → Option Value} {base : Heap} (T : Txt tb P w K mg base) : Fu P w K mg base 2 "is_word" m_is_word 1 [] := by
  obtain ⟨f, fd, F, hm, hk⟩ := T.d_is_word
  exact Fu.mk0 (g_is_word F T) hm hk (bd_is_word F)
def sc_need_word : Scope := { kind := .function, names := [("value", .local), ("is_word", .globalImplicit), ("BadQuery", .globalImplicit)], isGenerator := false, isCoroutine := false, more := [] }
theorem scf_need_word : FnScope ["value"] ["value"] sc_need_word := ⟨rfl, rfl, rfl, by decide +kernel, rfl, by decide +kernel, by decide +kernel⟩
noncomputable def b_need_word (δ : FL.Loc) (μ : Mem) : OutS := (mIfS (mNot (mTb (mCall m_is_word [(mV 0)] []))) (mRaise "BadQuery" "reason" (mD (.str (lit "not a word"))))
    mPass) δ μ
noncomputable def m_need_word : MF := mFn 1 (b_need_word)
theorem g_need_word {tb : Nat → Addr} {P : Program} {w : World} {K : PySem.W.Frag} {mg : Str → Option Value} {base : Heap} {f : Addr} {fd : FuncData} (F : Fd K "need_word" "need_word" (tp 45) f fd .none) (T : Txt tb P w K mg base) : FnG P w K mg base (L2.CX P w) (3 + 1) f fd ["value"] (spM K mg (mFn 1 (b_need_word)) 1) := by
  refine fnG_s (N := ["value"]) (sc := sc_need_word) F scf_need_word (by kernel_rfl) rfl ?_
  intro X W hP hw hK hM hB C
  subst hP hw hK hM hB
  exact (jss_one (js_if (jt_not (jt_e (je_call C.toCs (ok_is_word T) (by decide +kernel) (by decide +kernel) (ja_cons (C.v (by decide +kernel)) ja_nil) rfl))) (jss_one (js_raise C.toCs T.x_BadQuery (by decide) (by decide +kernel) je_str))
    jss_nil))
theorem bd_need_word {K : PySem.W.Frag} {f : Addr} {fd : FuncData} (F : Fd K "need_word" "need_word" (tp 45) f fd .none) : Binds K fd ["value"] [] :=
  F.binds fun _ _ _ _ _ _ us hl => match us, hl with | [_], _ => by kernel_rfl
theorem ok_need_word {tb : Nat → Addr} {P : Program} {w : World} {K : PySem.W.Frag} {mg : Str → Option Value} {base : Heap} (T : Txt tb P w K mg base) : Fu P w K mg base 4 "need_word" m_need_word 1 [] := by
  obtain ⟨f, fd, F, hm, hk⟩ := T.d_need_word
  exact Fu.mk0 (g_need_word F T) hm hk (bd_need_word F)
def sc_fields_of : Scope := { kind := .function, names := [("kind", .local), ("values", .local), ("parts", .local), ("found", .local), ("part", .local), ("FIELD_KINDS", .globalImplicit), ("list", .globalImplicit), ("tuple", .globalImplicit), ("sorted", .globalImplicit), ("set", .globalImplicit)], isGenerator := false, isCoroutine := false, more := [] }
theorem scf_fields_of : FnScope ["kind", "values", "parts", "found", "part"] ["kind", "values", "parts"] sc_fields_of := ⟨rfl, rfl, rfl, by decide +kernel, rfl, by decide +kernel, by decide +kernel⟩
noncomputable def f1_fields_of (δ : FL.Loc) (μ : Mem) : OutS := (mSet 3 (m2 gAdd (.v 3) (.e (mC gList [(.e (mAt at_ "own_fields" (.v 4)))])))) δ μ
noncomputable def b_fields_of (δ : FL.Loc) (μ : Mem) : OutS := (mSeq (mSet 3 (mIf (mTb (m2 (gIn false) (.v 0) (.e (mD (.tup ([lit "term", lit "phrase", lit "prefix", lit "range"].map .str)))))) (mLst [(m2 gIxL (.v 1) (.e (mD (.int 0))))]) (mLst [])))
    (mSeq (mFor (mIt (mV 2)) (tgV 4) f1_fields_of)
    (mRet (mC gTuple [(.e (mC gSS [(.v 3)]))])))) δ μ
noncomputable def m_fields_of : MF := mFn 5 (b_fields_of)
theorem g_fields_of {tb : Nat → Addr} {P : Program} {w : World} {K : PySem.W.Frag} {mg : Str → Option Value} {base : Heap} {f : Addr} {fd : FuncData} (F : Fd K "fields_of" "fields_of" (tp 49) f fd .none) (T : Txt tb P w K mg base) : FnG P w K mg base (L2.CX P w) (0 + 1) f fd ["kind", "values", "parts"] (spM K mg (mFn 5 (b_fields_of)) 3) := by
  refine fnG_s (N := ["kind", "values", "parts", "found", "part"]) (sc := sc_fields_of) F scf_fields_of (by kernel_rfl) rfl ?_
  intro X W hP hw hK hM hB C
  subst hP hw hK hM hB
  exact (jss_cons (C.set (by decide +kernel) (je_if (inT (C.ov (by decide +kernel)) (jo_e (C.toCs.gTupS (by decide +kernel) T.t_FIELD_KINDS))) (je_lst (ja_cons (ix_ (C.ov (by decide +kernel)) (jo_e je_int) (by intro _ _; rfl)) ja_nil)) (je_lst ja_nil)))
    (jss_cons (js_for C.hp C.calm (ji_any (C.v (by decide +kernel))) (C.tg (by decide +kernel)) (jss_one (C.set (by decide +kernel) (add_ (C.ov (by decide +kernel)) (jo_e (C.bt (by decide +kernel) T.n_list (by decide +kernel) o_list j_list (jos_cons (jo_e (je_at T.atts (C.ov (by decide +kernel)))) jos_nil)))))))
    (jss_one (js_ret (C.bt (by decide +kernel) T.n_tuple (by decide +kernel) o_tuple j_tuple (jos_cons (jo_e (Cs.ss C.toCs (by decide +kernel) T.n_sorted (by decide +kernel) T.n_set (jos_cons (C.ov (by decide +kernel)) jos_nil))) jos_nil))))))
theorem bd_fields_of {K : PySem.W.Frag} {f : Addr} {fd : FuncData} (F : Fd K "fields_of" "fields_of" (tp 49) f fd .none) : Binds K fd ["kind", "values", "parts"] [] :=
  F.binds fun _ _ _ _ _ _ us hl => match us, hl with | [_, _, _], _ => by kernel_rfl
theorem ok_fields_of {tb : Nat → Addr} {P : Program} {w : World} {K : PySem.W.Frag} {mg : Str → Option Value} {base : Heap} (T : Txt tb P w K mg base) : Fu P w K mg base 1 "fields_of" m_fields_of 3 [] := by
  obtain ⟨f, fd, F, hm, hk⟩ := T.d_fields_of
  exact Fu.mk0 (g_fields_of F T) hm hk (bd_fields_of F)
def sc_iQuery : Scope := { kind := .function, names := [("self", .local), ("own_parts", .local), ("own_values", .local), ("own_text", .local), ("sum", .globalImplicit), ("max", .globalImplicit), ("MAX_SIZE", .globalImplicit), ("MAX_LEVELS", .globalImplicit), ("BadQuery", .globalImplicit), ("tuple", .globalImplicit), ("fields_of", .globalImplicit)], isGenerator := false, isCoroutine := false, more := [("fast", .str "self"), ("fast", .str "own_parts"), ("fast", .str "own_values"), ("fast", .str "own_text"), ("fast", .str "part")] }
theorem scf_iQuery : FnScope ["self", "own_parts", "own_values", "own_text", "part"] ["self", "own_parts", "own_values", "own_text"] sc_iQuery := ⟨rfl, rfl, rfl, by decide +kernel, rfl, by decide +kernel, by decide +kernel⟩
noncomputable def e1_iQuery (δ : FL.Loc) (μ : Mem) : Out FL.Slot := (mAt at_ "own_size" (.v 4)) δ μ
noncomputable def e2_iQuery (δ : FL.Loc) (μ : Mem) : Out FL.Slot := (mAt at_ "own_levels" (.v 4)) δ μ
noncomputable def e3_iQuery (δ : FL.Loc) (μ : Mem) : Out FL.Slot := (mAt at_ "own_key" (.v 4)) δ μ
noncomputable def b_iQuery (δ : FL.Loc) (μ : Mem) : OutS := (mSeq (mStF at_ "own_parts" (.v 0) (mV 1))
    (mSeq (mStF at_ "own_size" (.v 0) (m2 gAdd (.e (mD (.int 1))) (.e (mC gSum [(.e (mLc (mIt (mV 1)) (tgV 4) mYes e1_iQuery [4]))]))))
    (mSeq (mStF at_ "own_levels" (.v 0) (mIf (mTb (m2 (gEqM true) (.v 1) (.e (mTup [])))) (m2 gAdd (.e (mD (.int 1))) (.e (mC gMaxL [(.e (mLc (mIt (mV 1)) (tgV 4) mYes e2_iQuery [4]))]))) (mD (.int 0))))
    (mSeq (mIfS (mOr (mTb (m2 gGt (.e (mAt at_ "own_size" (.v 0))) (.e (mD (.int 60))))) (mTb (m2 gGt (.e (mAt at_ "own_levels" (.v 0))) (.e (mD (.int 8)))))) (mRaise "BadQuery" "reason" (mD (.str (lit "the query is too large or too deep"))))
    mPass)
    (mSeq (mStF at_ "own_key" (.v 0) (mTup [(mAt at_ "KIND" (.v 0)), (mV 2), (mC gTuple [(.e (mLc (mIt (mV 1)) (tgV 4) mYes e3_iQuery [4]))])]))
    (mSeq (mStF at_ "own_fields" (.v 0) (mCall m_fields_of [(mAt at_ "KIND" (.v 0)), (mV 2), (mV 1)] []))
    (mStF at_ "own_text" (.v 0) (mV 3)))))))) δ μ
noncomputable def m_iQuery : MF := mFn 5 b_iQuery
theorem g_iQuery {tb : Nat → Addr} {P : Program} {w : World} {K : PySem.W.Frag} {mg : Str → Option Value} {base : Heap} {fd : FuncData} (F : Fd K "__init__" "Query.__init__" (clsDef 1 (tp 46)) (fAdF K (pM "Query" "__init__")) fd .none) (T : Txt tb P w K mg base) : FnG P w K mg base (L2.CX P w) (3 + 1) (fAdF K (pM "Query" "__init__")) fd ["self", "own_parts", "own_values", "own_text"] (spM K mg (mFn 5 b_iQuery) 4) := by
  refine fnG_s (N := ["self", "own_parts", "own_values", "own_text", "part"]) (sc := sc_iQuery) F scf_iQuery (by kernel_rfl) rfl ?_
  intro X W hP hw hK hM hB C
  subst hP hw hK hM hB
  exact (jss_cons (js_stF T.atts (C.ov (by decide +kernel)) (C.v (by decide +kernel)))
    (jss_cons (js_stF T.atts (C.ov (by decide +kernel)) (add_ (jo_e je_int) (jo_e (C.bi (by decide +kernel) T.n_sum (by decide +kernel) (cr_sum C.calm) j_sum (jos_cons (jo_e (Cs.lc (Tx := Txt tb) C.toCs T [("part", 4)] (ji_any (C.v (by decide +kernel))) (by decide +kernel) (fun Y T1 C1 => ⟨(C1.tg (by decide +kernel)), jts_nil, (je_at T1.atts (C1.ov (by decide +kernel)))⟩) (by rfl))) jos_nil)))))
    (jss_cons (js_stF T.atts (C.ov (by decide +kernel)) (je_if (C.toCs.neMT (C.ov (by decide +kernel)) (jo_e (je_tup ja_nil))) (add_ (jo_e je_int) (jo_e (C.bi (by decide +kernel) T.n_max (by decide +kernel) (cr_max C.calm) j_maxL (jos_cons (jo_e (Cs.lc (Tx := Txt tb) C.toCs T [("part", 4)] (ji_any (C.v (by decide +kernel))) (by decide +kernel) (fun Y T1 C1 => ⟨(C1.tg (by decide +kernel)), jts_nil, (je_at T1.atts (C1.ov (by decide +kernel)))⟩) (by rfl))) jos_nil)))) je_int))
    (jss_cons (js_if (jt_w (jw_or (gtT (jo_e (je_at T.atts (C.ov (by decide +kernel)))) (jo_e (C.gInt (by decide +kernel) T.c_MAX_SIZE))) (jw_or1 (gtT (jo_e (je_at T.atts (C.ov (by decide +kernel)))) (jo_e (C.gInt (by decide +kernel) T.c_MAX_LEVELS)))))) (jss_one (js_raise C.toCs T.x_BadQuery (by decide) (by decide +kernel) je_str))
    jss_nil)
    (jss_cons (js_stF T.atts (C.ov (by decide +kernel)) (je_tup (ja_cons (je_at T.atts (C.ov (by decide +kernel))) (ja_cons (C.v (by decide +kernel)) (ja_cons (C.bt (by decide +kernel) T.n_tuple (by decide +kernel) o_tuple j_tuple (jos_cons (jo_e (Cs.lc (Tx := Txt tb) C.toCs T [("part", 4)] (ji_any (C.v (by decide +kernel))) (by decide +kernel) (fun Y T1 C1 => ⟨(C1.tg (by decide +kernel)), jts_nil, (je_at T1.atts (C1.ov (by decide +kernel)))⟩) (by rfl))) jos_nil)) ja_nil)))))
    (jss_cons (js_stF T.atts (C.ov (by decide +kernel)) (je_call C.toCs (ok_fields_of T) (by decide +kernel) (by decide +kernel) (ja_cons (je_at T.atts (C.ov (by decide +kernel))) (ja_cons (C.v (by decide +kernel)) (ja_cons (C.v (by decide +kernel)) ja_nil))) rfl))
    (jss_one (js_stF T.atts (C.ov (by decide +kernel)) (C.v (by decide +kernel))))))))))
theorem bd_iQuery {K : PySem.W.Frag} {fd : FuncData} (F : Fd K "__init__" "Query.__init__" (clsDef 1 (tp 46)) (fAdF K (pM "Query" "__init__")) fd .none) : Binds K fd ["self", "own_parts", "own_values", "own_text"] [] :=
  F.binds fun _ _ _ _ _ _ us hl => match us, hl with | [_, _, _, _], _ => by kernel_rfl
theorem su_Prefix {tb : Nat → Addr} {P : Program} {w : World} {K : PySem.W.Frag} {mg : Str → Option Value} {base : Heap} (T : Txt tb P w K mg base) : SupR P w K mg base 4 "Prefix" "__init__" (He.ga K "Prefix") m_iQuery 4 := by
  obtain ⟨fd, F⟩ := T.f_iQuery
  exact supR_of T.sb_Prefix (g_iQuery F T) (bd_iQuery F)
theorem su_Term {tb : Nat → Addr} {P : Program} {w : World} {K : PySem.W.Frag} {mg : Str → Option Value} {base : Heap} (T : Txt tb P w K mg base) : SupR P w K mg base 4 "Term" "__init__" (He.ga K "Term") m_iQuery 4 := by
  obtain ⟨fd, F⟩ := T.f_iQuery
  exact supR_of T.sb_Term (g_iQuery F T) (bd_iQuery F)
theorem su_Range {tb : Nat → Addr} {P : Program} {w : World} {K : PySem.W.Frag} {mg : Str → Option Value} {base : Heap} (T : Txt tb P w K mg base) : SupR P w K mg base 4 "Range" "__init__" (He.ga K "Range") m_iQuery 4 := by
  obtain ⟨fd, F⟩ := T.f_iQuery
  exact supR_of T.sb_Range (g_iQuery F T) (bd_iQuery F)
theorem su_Everything {tb : Nat → Addr} {P : Program} {w : World} {K : PySem.W.Frag} {mg : Str → Option Value} {base : Heap} (T : Txt tb P w K mg base) : SupR P w K mg base 4 "Everything" "__init__" (He.ga K "Everything") m_iQuery 4 := by
  obtain ⟨fd, F⟩ := T.f_iQuery
  exact supR_of T.sb_Everything (g_iQuery F T) (bd_iQuery F)
noncomputable def b_iPrefix (δ : FL.Loc) (μ : Mem) : OutS := (mSeq (mEx (mCall m_need_field [(mV 1)] []))
    (mSeq (mEx (mCall m_need_word [(mV 2)] []))
    (mSeq (mSuper "Prefix" m_iQuery [(mTup []), (mTup [(mV 1), (mV 2)]), (mJoined [(mFmt (mV 1)), (mD (.str (lit ":"))), (mFmt (mV 2)), (mD (.str (lit "*")))])])
    (mSeq (mStF at_ "field" (.v 0) (mV 1))
    (mStF at_ "start" (.v 0) (mV 2)))))) δ μ
noncomputable def m_iPrefix : MF := mFn 3 b_iPrefix
theorem g_iPrefix {tb : Nat → Addr} {P : Program} {w : World} {K : PySem.W.Frag} {mg : Str → Option Value} {base : Heap} {kV : Value} {fd : FuncData} (F : FdK K "__init__" "Prefix.__init__" (clsDef 1 (tp 55)) (fAdF K (pM "Prefix" "__init__")) kV (codeAd K (pM "Prefix" "__init__")) (ccAd K (pM "Prefix" "__init__")) fd) (T : Txt tb P w K mg base) : FnG P w K mg base (L2.CX P w) (4 + 1) (fAdF K (pM "Prefix" "__init__")) fd ["self", "field", "start"] (spM K mg (mFn 3 b_iPrefix) 3) := by
  refine fnG_cs (N := ["self", "field", "start"]) (sc := sc_iPrefix) (F.fc T.ce_iPrefix) scf_iPrefix (by kernel_rfl) rfl ?_
  intro X W hP hw hK hM hB C ST
  subst hP hw hK hM hB
  exact (jwb_cons (jws_of (js_expr (je_call C.toCs (ok_need_field T) (by decide +kernel) (by decide +kernel) (ja_cons (C.v (by decide +kernel)) ja_nil) rfl)))
    (jwb_cons (jws_of (js_expr (je_call C.toCs (ok_need_word T) (by decide +kernel) (by decide +kernel) (ja_cons (C.v (by decide +kernel)) ja_nil) rfl)))
    (jwb_cons (jws_super C (ST _ T.s_iPrefix) (SupR.ok (su_Prefix T)) (by decide) (ja_cons (je_tup ja_nil) (ja_cons (je_tup (ja_cons (C.v (by decide +kernel)) (ja_cons (C.v (by decide +kernel)) ja_nil))) (ja_cons (je_joined (.cons (je_fmt (C.v (by decide +kernel))) (.cons je_str (.cons (je_fmt (C.v (by decide +kernel))) (.cons je_str JFs.nil))))) ja_nil))) rfl (by decide +kernel) rfl rfl rfl rfl)
    (jwb_of (jss_cons (js_stF T.atts (C.ov (by decide +kernel)) (C.v (by decide +kernel)))
    (jss_one (js_stF T.atts (C.ov (by decide +kernel)) (C.v (by decide +kernel)))))))))
theorem cl_Prefix_2 {tb : Nat → Addr} {P : Program} {w : World} {K : PySem.W.Frag} {mg : Str → Option Value} {base : Heap} (T : Txt tb P w K mg base) : ClW P w K mg base 5 "Prefix" 2 [] [.pos 0, .pos 1] m_iPrefix 2 [] := by
  obtain ⟨fd, F⟩ := T.f_iPrefix
  exact clW_of T.c_Prefix T.mk_Prefix (g_iPrefix F T) (F.bind1 fun _ _ _ _ _ _ s x us ws _ h1 h2 => match us, ws, h1, h2 with | [_, _], [], _, _ => .of_eq (by kernel_rfl)) .nil (fun _ _ => .nil) rfl rfl
noncomputable def b_iTerm (δ : FL.Loc) (μ : Mem) : OutS := (mSeq (mEx (mCall m_need_field [(mV 1)] []))
    (mSeq (mEx (mCall m_need_word [(mV 2)] []))
    (mSeq (mSuper "Term" m_iQuery [(mTup []), (mTup [(mV 1), (mV 2)]), (mJoined [(mFmt (mV 1)), (mD (.str (lit ":"))), (mFmt (mV 2))])])
    (mSeq (mStF at_ "field" (.v 0) (mV 1))
    (mStF at_ "word" (.v 0) (mV 2)))))) δ μ
noncomputable def m_iTerm : MF := mFn 3 b_iTerm
theorem g_iTerm {tb : Nat → Addr} {P : Program} {w : World} {K : PySem.W.Frag} {mg : Str → Option Value} {base : Heap} {kV : Value} {fd : FuncData} (F : FdK K "__init__" "Term.__init__" (clsDef 1 (tp 53)) (fAdF K (pM "Term" "__init__")) kV (codeAd K (pM "Term" "__init__")) (ccAd K (pM "Term" "__init__")) fd) (T : Txt tb P w K mg base) : FnG P w K mg base (L2.CX P w) (4 + 1) (fAdF K (pM "Term" "__init__")) fd ["self", "field", "word"] (spM K mg (mFn 3 b_iTerm) 3) := by
  refine fnG_cs (N := ["self", "field", "word"]) (sc := sc_iTerm) (F.fc T.ce_iTerm) scf_iTerm (by kernel_rfl) rfl ?_
  intro X W hP hw hK hM hB C ST
  subst hP hw hK hM hB
  exact (jwb_cons (jws_of (js_expr (je_call C.toCs (ok_need_field T) (by decide +kernel) (by decide +kernel) (ja_cons (C.v (by decide +kernel)) ja_nil) rfl)))
    (jwb_cons (jws_of (js_expr (je_call C.toCs (ok_need_word T) (by decide +kernel) (by decide +kernel) (ja_cons (C.v (by decide +kernel)) ja_nil) rfl)))
    (jwb_cons (jws_super C (ST _ T.s_iTerm) (SupR.ok (su_Term T)) (by decide) (ja_cons (je_tup ja_nil) (ja_cons (je_tup (ja_cons (C.v (by decide +kernel)) (ja_cons (C.v (by decide +kernel)) ja_nil))) (ja_cons (je_joined (.cons (je_fmt (C.v (by decide +kernel))) (.cons je_str (.cons (je_fmt (C.v (by decide +kernel))) JFs.nil)))) ja_nil))) rfl (by decide +kernel) rfl rfl rfl rfl)
    (jwb_of (jss_cons (js_stF T.atts (C.ov (by decide +kernel)) (C.v (by decide +kernel)))
    (jss_one (js_stF T.atts (C.ov (by decide +kernel)) (C.v (by decide +kernel)))))))))
theorem cl_Term_2 {tb : Nat → Addr} {P : Program} {w : World} {K : PySem.W.Frag} {mg : Str → Option Value} {base : Heap} (T : Txt tb P w K mg base) : ClW P w K mg base 5 "Term" 2 [] [.pos 0, .pos 1] m_iTerm 2 [] := by
  obtain ⟨fd, F⟩ := T.f_iTerm
  exact clW_of T.c_Term T.mk_Term (g_iTerm F T) (F.bind1 fun _ _ _ _ _ _ s x us ws _ h1 h2 => match us, ws, h1, h2 with | [_, _], [], _, _ => .of_eq (by kernel_rfl)) .nil (fun _ _ => .nil) rfl rfl
theorem cl_Term_0_word_field {tb : Nat → Addr} {P : Program} {w : World} {K : PySem.W.Frag} {mg : Str → Option Value} {base : Heap} (T : Txt tb P w K mg base) : ClW P w K mg base 5 "Term" 0 ["word", "field"] [.key 1, .key 0] m_iTerm 2 [] := by
  obtain ⟨fd, F⟩ := T.f_iTerm
  exact clW_of T.c_Term T.mk_Term (g_iTerm F T) (F.bind1 fun _ _ _ _ _ _ s x us ws _ h1 h2 => match us, ws, h1, h2 with | [], [_, _], _, _ => .of_eq (by kernel_rfl)) .nil (fun _ _ => .nil) rfl rfl
def sc_Query_parts : Scope := { kind := .function, names := [("self", .local)], isGenerator := false, isCoroutine := false, more := [] }
theorem scf_Query_parts : FnScope ["self"] ["self"] sc_Query_parts := ⟨rfl, rfl, rfl, by decide +kernel, rfl, by decide +kernel, by decide +kernel⟩
noncomputable def b_Query_parts (δ : FL.Loc) (μ : Mem) : OutS := (mRet (mAt at_ "own_parts" (.v 0))) δ μ
noncomputable def m_Query_parts : MF := mFn 1 b_Query_parts
theorem g_Query_parts {tb : Nat → Addr} {P : Program} {w : World} {K : PySem.W.Frag} {mg : Str → Option Value} {base : Heap} {fd : FuncData} (F : Fd K "parts" "Query.parts" (clsDef 2 (tp 46)) (fAdF K (pM "Query" "parts")) fd .none) (T : Txt tb P w K mg base) : FnG P w K mg base (L2.CX P w) (0 + 1) (fAdF K (pM "Query" "parts")) fd ["self"] (spM K mg (mFn 1 b_Query_parts) 1) := by
  refine fnG_s (N := ["self"]) (sc := sc_Query_parts) F scf_Query_parts (by kernel_rfl) rfl ?_
  intro X W hP hw hK hM hB C
  subst hP hw hK hM hB
  exact (jss_one (js_ret (je_at T.atts (C.ov (by decide +kernel)))))
theorem bd_Query_parts {K : PySem.W.Frag} {fd : FuncData} (F : Fd K "parts" "Query.parts" (clsDef 2 (tp 46)) (fAdF K (pM "Query" "parts")) fd .none) : Binds K fd ["self"] [] :=
  F.binds fun _ _ _ _ _ _ us hl => match us, hl with | [_], _ => by kernel_rfl
noncomputable def gm_parts : String → String → Option MF := fun b f => if b = "Query" ∧ f = "parts" then some m_Query_parts else none
noncomputable def pt_parts : String → String → Option MF := prpM prps gm_parts
theorem pr_parts {tb : Nat → Addr} {P : Program} {w : World} {K : PySem.W.Frag} {mg : Str → Option Value} {base : Heap} (T : Txt tb P w K mg base) : PropR P w K mg base 1 pt_parts := propR_of T.prp fun b f m h => by
  unfold gm_parts at h
  by_cases hc : b = "Query" ∧ f = "parts"
  · obtain ⟨rfl, rfl⟩ := hc
    rw [if_pos ⟨rfl, rfl⟩] at h
    cases h
    obtain ⟨fd, F⟩ := T.f_Query_parts
    exact ⟨fd, _, g_Query_parts F T, bd_Query_parts F⟩
  · rw [if_neg hc] at h
    cases h
def sc_Query_size : Scope := { kind := .function, names := [("self", .local)], isGenerator := false, isCoroutine := false, more := [] }
theorem scf_Query_size : FnScope ["self"] ["self"] sc_Query_size := ⟨rfl, rfl, rfl, by decide +kernel, rfl, by decide +kernel, by decide +kernel⟩
noncomputable def b_Query_size (δ : FL.Loc) (μ : Mem) : OutS := (mRet (mAt at_ "own_size" (.v 0))) δ μ
noncomputable def m_Query_size : MF := mFn 1 b_Query_size
theorem g_Query_size {tb : Nat → Addr} {P : Program} {w : World} {K : PySem.W.Frag} {mg : Str → Option Value} {base : Heap} {fd : FuncData} (F : Fd K "size" "Query.size" (clsDef 3 (tp 46)) (fAdF K (pM "Query" "size")) fd .none) (T : Txt tb P w K mg base) : FnG P w K mg base (L2.CX P w) (0 + 1) (fAdF K (pM "Query" "size")) fd ["self"] (spM K mg (mFn 1 b_Query_size) 1) := by
  refine fnG_s (N := ["self"]) (sc := sc_Query_size) F scf_Query_size (by kernel_rfl) rfl ?_
  intro X W hP hw hK hM hB C
  subst hP hw hK hM hB
  exact (jss_one (js_ret (je_at T.atts (C.ov (by decide +kernel)))))
theorem bd_Query_size {K : PySem.W.Frag} {fd : FuncData} (F : Fd K "size" "Query.size" (clsDef 3 (tp 46)) (fAdF K (pM "Query" "size")) fd .none) : Binds K fd ["self"] [] :=
  F.binds fun _ _ _ _ _ _ us hl => match us, hl with | [_], _ => by kernel_rfl
noncomputable def gm_size : String → String → Option MF := fun b f => if b = "Query" ∧ f = "size" then some m_Query_size else none
noncomputable def pt_size : String → String → Option MF := prpM prps gm_size
theorem pr_size {tb : Nat → Addr} {P : Program} {w : World} {K : PySem.W.Frag} {mg : Str → Option Value} {base : Heap} (T : Txt tb P w K mg base) : PropR P w K mg base 1 pt_size := propR_of T.prp fun b f m h => by
  unfold gm_size at h
  by_cases hc : b = "Query" ∧ f = "size"
  · obtain ⟨rfl, rfl⟩ := hc
    rw [if_pos ⟨rfl, rfl⟩] at h
    cases h
    obtain ⟨fd, F⟩ := T.f_Query_size
    exact ⟨fd, _, g_Query_size F T, bd_Query_size F⟩
  · rw [if_neg hc] at h
    cases h
def sc_Query_levels : Scope := { kind := .function, names := [("self", .local)], isGenerator := false, isCoroutine := false, more := [] }
theorem scf_Query_levels : FnScope ["self"] ["self"] sc_Query_levels := ⟨rfl, rfl, rfl, by decide +kernel, rfl, by decide +kernel, by decide +kernel⟩
noncomputable def b_Query_levels (δ : FL.Loc) (μ : Mem) : OutS := (mRet (mAt at_ "own_levels" (.v 0))) δ μ
noncomputable def m_Query_levels : MF := mFn 1 b_Query_levels
theorem g_Query_levels {tb : Nat → Addr} {P : Program} {w : World} {K : PySem.W.Frag} {mg : Str → Option Value} {base : Heap} {fd : FuncData} (F : Fd K "levels" "Query.levels" (clsDef 4 (tp 46)) (fAdF K (pM "Query" "levels")) fd .none) (T : Txt tb P w K mg base) : FnG P w K mg base (L2.CX P w) (0 + 1) (fAdF K (pM "Query" "levels")) fd ["self"] (spM K mg (mFn 1 b_Query_levels) 1) := by
  refine fnG_s (N := ["self"]) (sc := sc_Query_levels) F scf_Query_levels (by kernel_rfl) rfl ?_
  intro X W hP hw hK hM hB C
  subst hP hw hK hM hB
  exact (jss_one (js_ret (je_at T.atts (C.ov (by decide +kernel)))))
theorem bd_Query_levels {K : PySem.W.Frag} {fd : FuncData} (F : Fd K "levels" "Query.levels" (clsDef 4 (tp 46)) (fAdF K (pM "Query" "levels")) fd .none) : Binds K fd ["self"] [] :=
  F.binds fun _ _ _ _ _ _ us hl => match us, hl with | [_], _ => by kernel_rfl
noncomputable def gm_levels : String → String → Option MF := fun b f => if b = "Query" ∧ f = "levels" then some m_Query_levels else none
noncomputable def pt_levels : String → String → Option MF := prpM prps gm_levels
theorem pr_levels {tb : Nat → Addr} {P : Program} {w : World} {K : PySem.W.Frag} {mg : Str → Option Value} {base : Heap} (T : Txt tb P w K mg base) : PropR P w K mg base 1 pt_levels := propR_of T.prp fun b f m h => by
  unfold gm_levels at h
  by_cases hc : b = "Query" ∧ f = "levels"
  · obtain ⟨rfl, rfl⟩ := hc
    rw [if_pos ⟨rfl, rfl⟩] at h
    cases h
    obtain ⟨fd, F⟩ := T.f_Query_levels
    exact ⟨fd, _, g_Query_levels F T, bd_Query_levels F⟩
  · rw [if_neg hc] at h
    cases h
def sc_Query_walk : Scope := { kind := .function, names := [("self", .local), ("waiting", .local), ("one", .local)], isGenerator := true, isCoroutine := false, more := [] }
theorem scf_Query_walk : GScope ["self", "waiting", "one"] ["self"] sc_Query_walk := ⟨rfl, rfl, rfl, by decide +kernel, rfl, by decide +kernel, by decide +kernel⟩
theorem bd_Query_walk {K : PySem.W.Frag} {fd : FuncData} (F : Fd K "walk" "Query.walk" (clsDef 7 (tp 46)) (fAdF K (pM "Query" "walk")) fd .none) : Binds K fd ["self"] [] :=
  F.binds fun _ _ _ _ _ _ us hl => match us, hl with | [_], _ => by kernel_rfl
def gb_walk : GB := gbOf (defBody (clsDef 7 (tp 46)))
noncomputable def gm_walk : GM := { pre := mSet 1 (mLst [mV 0]), test := mTb (m2 (gEqN true) (.v 1) (.e (mLst []))), ba := mSet 2 (mMut "list" gPop0 (.v 1) []), ye := mV 2, bb := mEx (mMut "list" gExtT (.v 1) [mRv (.e (mAt at_ "own_parts" (.v 2))) (mP (mNeg (mD (.int 1))))]) }
noncomputable def gy_walk : String → String → Option (GM × Nat) := genYT gncs "walk" gm_walk 3
theorem gyb_walk {tb : Nat → Addr} {P : Program} {w : World} {K : PySem.W.Frag} {mg : Str → Option Value} {base : Heap} (T : Txt tb P w K mg base) : GYB P w K mg base 0 ["self", "waiting", "one"] sc_Query_walk gb_walk gm_walk := by
  refine ⟨?_, ?_, ?_, ?_, ?_⟩
  · intro X W hP hw hK hM hB C
    exact jss_one (C.set (by decide +kernel) (je_lst (ja_cons (C.v (by decide +kernel)) ja_nil)))
  · intro X W hP hw hK hM hB C
    exact C.neNT (C.ov (by decide +kernel)) (jo_e (je_lst ja_nil))
  · intro X W hP hw hK hM hB C
    exact jss_one (C.set (by decide +kernel) (pop0_ (C.ov (by decide +kernel))))
  · intro X W hP hw hK hM hB C
    exact C.v (by decide +kernel)
  · intro X W hP hw hK hM hB C
    subst hP hw hK hM hB
    exact jss_one (js_expr (extT_ (C.ov (by decide +kernel)) (ja_cons (je_rev (jo_e (je_at T.atts (C.ov (by decide +kernel)))) (jp_some (neg_ je_int))) ja_nil)))
theorem gyr_walk {tb : Nat → Addr} {P : Program} {w : World} {K : PySem.W.Frag} {mg : Str → Option Value} {base : Heap} (T : Txt tb P w K mg base) : GenY P w K mg base 0 gy_walk := by
  obtain ⟨fd, F⟩ := T.f_Query_walk
  exact genY_of T.mth_walk F (sc := sc_Query_walk) (B := gb_walk) (by kernel_rfl) (by kernel_rfl) scf_Query_walk (by decide +kernel) (gyb_walk T) (bd_Query_walk F) rfl
def sc_Query___eq__ : Scope := { kind := .function, names := [("self", .local), ("other", .local), ("isinstance", .globalImplicit), ("Query", .globalImplicit)], isGenerator := false, isCoroutine := false, more := [] }
theorem scf_Query___eq__ : FnScope ["self", "other"] ["self", "other"] sc_Query___eq__ := ⟨rfl, rfl, rfl, by decide +kernel, rfl, by decide +kernel, by decide +kernel⟩
noncomputable def b_Query___eq__ (δ : FL.Loc) (μ : Mem) : OutS := (mRet (mAndV (mIsC isa isb "Query" (.v 1)) (m2 (gEq false) (.e (mAt at_ "own_key" (.v 0))) (.e (mAt at_ "own_key" (.v 1)))))) δ μ
noncomputable def m_Query___eq__ : MF := mFn 2 b_Query___eq__
theorem g_Query___eq__ {tb : Nat → Addr} {P : Program} {w : World} {K : PySem.W.Frag} {mg : Str → Option Value} {base : Heap} {fd : FuncData} (F : Fd K "__eq__" "Query.__eq__" (clsDef 8 (tp 46)) (fAdF K (pM "Query" "__eq__")) fd .none) (T : Txt tb P w K mg base) : FnG P w K mg base (L2.CX P w) (5 + 1) (fAdF K (pM "Query" "__eq__")) fd ["self", "other"] (spM K mg (mFn 2 b_Query___eq__) 2) := by
  refine fnG_s (N := ["self", "other"]) (sc := sc_Query___eq__) F scf_Query___eq__ (by kernel_rfl) rfl ?_
  intro X W hP hw hK hM hB C
  subst hP hw hK hM hB
  exact (jss_one (js_ret (je_and (C.toCs.isC (by decide +kernel) T.n_isinstance (by decide +kernel) ⟨_, T.c_Query⟩ T.isa T.isb (C.ov (by decide +kernel))) (je_one (C.eq (jo_e (je_at T.atts (C.ov (by decide +kernel)))) (jo_e (je_at T.atts (C.ov (by decide +kernel)))))))))
theorem bd_Query___eq__ {K : PySem.W.Frag} {fd : FuncData} (F : Fd K "__eq__" "Query.__eq__" (clsDef 8 (tp 46)) (fAdF K (pM "Query" "__eq__")) fd .none) : Binds K fd ["self", "other"] [] :=
  F.binds fun _ _ _ _ _ _ us hl => match us, hl with | [_, _], _ => by kernel_rfl
noncomputable def eqm : String → Option MF := fun c => if c ∈ eqcs then some m_Query___eq__ else none
theorem eqr {tb : Nat → Addr} {P : Program} {w : World} {K : PySem.W.Frag} {mg : Str → Option Value} {base : Heap} (T : Txt tb P w K mg base) : EqR P w K mg base 6 eqm := by
  obtain ⟨fd, F⟩ := T.f_Query___eq__
  exact eqR_of T.eqb (g_Query___eq__ F T) (bd_Query___eq__ F)
theorem eqc : ∀ c ∈ eqcs, ∃ m, eqm c = some m := fun c hc => ⟨_, if_pos hc⟩
def sc__law_is_bare : Scope := { kind := .function, names := [("_law_one", .cell), ("repr", .globalImplicit)], isGenerator := false, isCoroutine := false, more := [("fast", .str "_law_one"), ("fast", .str "_law_far")] }
theorem scf__law_is_bare : FnScope ["_law_one", "_law_far"] ["_law_one"] sc__law_is_bare := ⟨rfl, rfl, rfl, by decide +kernel, rfl, by decide +kernel, by decide +kernel⟩
noncomputable def e1__law_is_bare (tb : Nat → Addr) (δ : FL.Loc) (μ : Mem) : Out FL.Slot := (mEqO eqm eqcs eqts false (mV 1) (mV 0)) δ μ
noncomputable def b__law_is_bare (tb : Nat → Addr) (δ : FL.Loc) (μ : Mem) : OutS := (mRet (m2 (gEq false) (.e (mC gRepr [(.e (mLst [(mProp pt_parts "parts" (.v 0)), (mProp pt_size "size" (.v 0)), (mProp pt_levels "levels" (.v 0)), (mLcY (nbT tb 2) (mItY gy_walk "walk" (.v 0)) (tgV 1) mYes (e1__law_is_bare tb) [1])]))])) (.e (mD (.str (lit "[(), 1, 0, [True]]")))))) δ μ
noncomputable def m__law_is_bare (tb : Nat → Addr) : MF := mFn 2 (b__law_is_bare tb)
theorem g__law_is_bare {tb : Nat → Addr} {P : Program} {w : World} {K : PySem.W.Frag} {mg : Str → Option Value} {base : Heap} {f : Addr} {fd : FuncData} (F : Fd K "_law_is_bare" "_law_is_bare" (tp 71) f fd .none) (T : Txt tb P w K mg base) : FnG P w K mg base (L2.CX P w) (9 + 1) f fd ["_law_one"] (spM K mg (mFn 2 (b__law_is_bare tb)) 1) := by
  refine fnG_s (N := ["_law_one", "_law_far"]) (sc := sc__law_is_bare) F scf__law_is_bare (by kernel_rfl) rfl ?_
  intro X W hP hw hK hM hB C
  subst hP hw hK hM hB
  exact (jss_one (js_ret (C.eq (jo_e (C.bi (by decide +kernel) T.n_repr (by decide +kernel) (o_repr C.hg C.hu70) j_repr (jos_cons (jo_e (je_lst (ja_cons (C.toCs.prop (PropR.ok (pr_parts T)) (by decide) (C.ov (by decide +kernel))) (ja_cons (C.toCs.prop (PropR.ok (pr_size T)) (by decide) (C.ov (by decide +kernel))) (ja_cons (C.toCs.prop (PropR.ok (pr_levels T)) (by decide) (C.ov (by decide +kernel))) (ja_cons (Cs.lcY (Tx := Txt tb) C.toCs T [("_law_far", 1)] (nbT tb 2) T.nb (C.toCs.itY (gyr_walk T) (by decide) (C.ov (by decide +kernel))) (by decide +kernel) (fun Y T1 C1 => ⟨(C1.tg (by decide +kernel)), jts_nil, (C1.eqO (eqr T1) T1.nf eqc (by decide) (C1.v (by decide +kernel)) (C1.v (by decide +kernel)))⟩) (by rfl)) ja_nil)))))) jos_nil))) (jo_e je_str))))
theorem bd__law_is_bare {K : PySem.W.Frag} {f : Addr} {fd : FuncData} (F : Fd K "_law_is_bare" "_law_is_bare" (tp 71) f fd .none) : Binds K fd ["_law_one"] [] :=
  F.binds fun _ _ _ _ _ _ us hl => match us, hl with | [_], _ => by kernel_rfl
theorem ok__law_is_bare {tb : Nat → Addr} {P : Program} {w : World} {K : PySem.W.Frag} {mg : Str → Option Value} {base : Heap} (T : Txt tb P w K mg base) : Fu P w K mg base 10 "_law_is_bare" (m__law_is_bare tb) 1 [] := by
  obtain ⟨f, fd, F, hm, hk⟩ := T.d__law_is_bare
  exact Fu.mk0 (g__law_is_bare F T) hm hk (bd__law_is_bare F)
theorem cl_Prefix_0_start_field {tb : Nat → Addr} {P : Program} {w : World} {K : PySem.W.Frag} {mg : Str → Option Value} {base : Heap} (T : Txt tb P w K mg base) : ClW P w K mg base 5 "Prefix" 0 ["start", "field"] [.key 1, .key 0] m_iPrefix 2 [] := by
  obtain ⟨fd, F⟩ := T.f_iPrefix
  exact clW_of T.c_Prefix T.mk_Prefix (g_iPrefix F T) (F.bind1 fun _ _ _ _ _ _ s x us ws _ h1 h2 => match us, ws, h1, h2 with | [], [_, _], _, _ => .of_eq (by kernel_rfl)) .nil (fun _ _ => .nil) rfl rfl
def sc__law_words_right : Scope := { kind := .function, names := [("_law_name", .cell), ("_law_run", .cell), ("_law_letters", .local), ("_law_one", .local), ("_law_is_run", .globalImplicit), ("_law_refused", .globalImplicit), ("Term", .globalImplicit), ("_law_is_bare", .globalImplicit), ("Prefix", .globalImplicit)], isGenerator := false, isCoroutine := false, more := [] }
theorem scf__law_words_right : FnScope ["_law_name", "_law_run", "_law_letters", "_law_one"] ["_law_name", "_law_run"] sc__law_words_right := ⟨rfl, rfl, rfl, by decide +kernel, rfl, by decide +kernel, by decide +kernel⟩
noncomputable def f1__law_words_right (tb : Nat → Addr) (δ : FL.Loc) (μ : Mem) : OutS := (mIfS (mOr (mTb (m2 (gEq true) (.e (mLst [(mAt at_ "field" (.v 3)), (mAt at_ "word" (.v 3))])) (.e (mLst [(mV 0), (mV 1)])))) (mNot (mTb (mCall (m__law_is_bare tb) [(mV 3)] [])))) (mRet (mD (.bl false)))
    mPass) δ μ
noncomputable def f2__law_words_right (tb : Nat → Addr) (δ : FL.Loc) (μ : Mem) : OutS := (mIfS (mOr (mTb (m2 (gEq true) (.e (mLst [(mAt at_ "field" (.v 3)), (mAt at_ "start" (.v 3))])) (.e (mLst [(mV 0), (mV 1)])))) (mNot (mTb (mCall (m__law_is_bare tb) [(mV 3)] [])))) (mRet (mD (.bl false)))
    mPass) δ μ
noncomputable def b__law_words_right (tb : Nat → Addr) (δ : FL.Loc) (μ : Mem) : OutS := (mSeq (mSet 2 (mD (.str (lit "abcdefghijklmnopqrstuvwxyz"))))
    (mSeq (mIfS (mOr (mNot (mTb (mCall m__law_is_run [(mV 0), (mV 2), (mD (.int 12))] []))) (mNot (mTb (mCall m__law_is_run [(mV 1), (m2 gAdd (.v 2) (.e (mD (.str (lit "0123456789"))))), (mD (.int 20))] [])))) (mRet (mAndV (mLam m__law_refused 0 (tb 0) "_law_words_right.<locals>.<lambda>" (mCallK (mkF "Term" m_iTerm) [.pos 0, .pos 1] [(mV 0), (mV 1)] [] [])) (mLam m__law_refused 0 (tb 0) "_law_words_right.<locals>.<lambda>" (mCallK (mkF "Prefix" m_iPrefix) [.pos 0, .pos 1] [(mV 0), (mV 1)] [] []))))
    mPass)
    (mSeq (mFor (mIt (mTup [(mCallK (mkF "Term" m_iTerm) [.pos 0, .pos 1] [(mV 0), (mV 1)] [] []), (mCallK (mkF "Term" m_iTerm) [.key 1, .key 0] [] [(mV 1), (mV 0)] [])])) (tgV 3) (f1__law_words_right tb))
    (mSeq (mFor (mIt (mTup [(mCallK (mkF "Prefix" m_iPrefix) [.pos 0, .pos 1] [(mV 0), (mV 1)] [] []), (mCallK (mkF "Prefix" m_iPrefix) [.key 1, .key 0] [] [(mV 1), (mV 0)] [])])) (tgV 3) (f2__law_words_right tb))
    (mRet (mD (.bl true))))))) δ μ
noncomputable def m__law_words_right (tb : Nat → Addr) : MF := mFn 4 (b__law_words_right tb)
theorem g__law_words_right {tb : Nat → Addr} {P : Program} {w : World} {K : PySem.W.Frag} {mg : Str → Option Value} {base : Heap} {f c : Addr} {fd : FuncData} (F : FdL K "_law_words_right" "_law_words_right" (tp 72) f fd .none c) (TB : TabB base mg c (tb 0)) (T : Txt tb P w K mg base) : FnG P w K mg base (L2.CX P w) (10 + 1) f fd ["_law_name", "_law_run"] (spM K mg (mFn 4 (b__law_words_right tb)) 2) := by
  refine fnG_l (N := ["_law_name", "_law_run", "_law_letters", "_law_one"]) (sc := sc__law_words_right) (q := "_law_words_right.<locals>.<lambda>") F TB scf__law_words_right (by kernel_rfl) rfl (fun _ => by kernel_rfl) ?_
  intro X W hP hw hK hM hB C
  subst hP hw hK hM hB
  exact (jss_cons (C.set (by decide +kernel) je_str)
    (jss_cons (js_if (jt_w (jw_or (jt_not (jt_e (je_call C.toCs (ok__law_is_run T) (by decide +kernel) (by decide +kernel) (ja_cons (C.v (by decide +kernel)) (ja_cons (C.v (by decide +kernel)) (ja_cons je_int ja_nil))) rfl))) (jw_or1 (jt_not (jt_e (je_call C.toCs (ok__law_is_run T) (by decide +kernel) (by decide +kernel) (ja_cons (C.v (by decide +kernel)) (ja_cons (add_ (C.ov (by decide +kernel)) (jo_e je_str)) (ja_cons je_int ja_nil))) rfl)))))) (jss_one (js_ret (je_and (C.lam0 (kh := 6) (ok__law_refused T) (by decide) (by decide +kernel) (by decide +kernel) (C.body (Tx := (Txt tb)) T (fun Y V TL CL => (clF CL (cl_Term_2 TL) (by decide) (by decide +kernel) (ja_cons (CL.v (by decide +kernel)) (ja_cons (CL.v (by decide +kernel)) ja_nil)) jk_nil rfl rfl)))) (je_one (C.lam1 (kh := 6) (ok__law_refused T) (by decide) (by decide +kernel) (by decide +kernel) (C.body (Tx := (Txt tb)) T (fun Y V TL CL => (clF CL (cl_Prefix_2 TL) (by decide) (by decide +kernel) (ja_cons (CL.v (by decide +kernel)) (ja_cons (CL.v (by decide +kernel)) ja_nil)) jk_nil rfl rfl))) (by decide +kernel))))))
    jss_nil)
    (jss_cons (js_for C.hp C.calm (ji_any (je_tup (ja_cons (clF C.toCs (cl_Term_2 T) (by decide) (by decide +kernel) (ja_cons (C.v (by decide +kernel)) (ja_cons (C.v (by decide +kernel)) ja_nil)) jk_nil rfl rfl) (ja_cons (clF0 C.toCs (cl_Term_0_word_field T) (by decide) (by decide +kernel) (jk_cons (C.v (by decide +kernel)) (jk_cons (C.v (by decide +kernel)) jk_nil)) rfl) ja_nil)))) (C.tg (by decide +kernel)) (jss_one (js_if (jt_w (jw_or (C.neT (jo_e (je_lst (ja_cons (je_at T.atts (C.ov (by decide +kernel))) (ja_cons (je_at T.atts (C.ov (by decide +kernel))) ja_nil)))) (jo_e (je_lst (ja_cons (C.v (by decide +kernel)) (ja_cons (C.v (by decide +kernel)) ja_nil))))) (jw_or1 (jt_not (jt_e (je_call C.toCs (ok__law_is_bare T) (by decide +kernel) (by decide +kernel) (ja_cons (C.v (by decide +kernel)) ja_nil) rfl)))))) (jss_one (js_ret je_bl))
    jss_nil)))
    (jss_cons (js_for C.hp C.calm (ji_any (je_tup (ja_cons (clF C.toCs (cl_Prefix_2 T) (by decide) (by decide +kernel) (ja_cons (C.v (by decide +kernel)) (ja_cons (C.v (by decide +kernel)) ja_nil)) jk_nil rfl rfl) (ja_cons (clF0 C.toCs (cl_Prefix_0_start_field T) (by decide) (by decide +kernel) (jk_cons (C.v (by decide +kernel)) (jk_cons (C.v (by decide +kernel)) jk_nil)) rfl) ja_nil)))) (C.tg (by decide +kernel)) (jss_one (js_if (jt_w (jw_or (C.neT (jo_e (je_lst (ja_cons (je_at T.atts (C.ov (by decide +kernel))) (ja_cons (je_at T.atts (C.ov (by decide +kernel))) ja_nil)))) (jo_e (je_lst (ja_cons (C.v (by decide +kernel)) (ja_cons (C.v (by decide +kernel)) ja_nil))))) (jw_or1 (jt_not (jt_e (je_call C.toCs (ok__law_is_bare T) (by decide +kernel) (by decide +kernel) (ja_cons (C.v (by decide +kernel)) ja_nil) rfl)))))) (jss_one (js_ret je_bl))
    jss_nil)))
    (jss_one (js_ret je_bl))))))
theorem bd__law_words_right {K : PySem.W.Frag} {f : Addr} {fd : FuncData} (F : Fd K "_law_words_right" "_law_words_right" (tp 72) f fd .none) : Binds K fd ["_law_name", "_law_run"] [] :=
  F.binds fun _ _ _ _ _ _ us hl => match us, hl with | [_, _], _ => by kernel_rfl
theorem ok__law_words_right {tb : Nat → Addr} {P : Program} {w : World} {K : PySem.W.Frag} {mg : Str → Option Value} {base : Heap} (T : Txt tb P w K mg base) : Fu P w K mg base 11 "_law_words_right" (m__law_words_right tb) 2 [] := by
  obtain ⟨c, f, fd, F, TB, hm, hk⟩ := T.d__law_words_right
  exact Fu.mk0 (g__law_words_right F TB T) hm hk (bd__law_words_right F.fd)
def sc__law_is_bound : Scope := { kind := .function, names := [("_law_thing", .local), ("isinstance", .globalImplicit), ("int", .globalImplicit), ("bool", .globalImplicit)], isGenerator := false, isCoroutine := false, more := [] }
theorem scf__law_is_bound : FnScope ["_law_thing"] ["_law_thing"] sc__law_is_bound := ⟨rfl, rfl, rfl, by decide +kernel, rfl, by decide +kernel, by decide +kernel⟩
noncomputable def b__law_is_bound (δ : FL.Loc) (μ : Mem) : OutS := (mSeq (mIfS (mTb (m2 (gIsN false) (.v 0) (.e (mD .non)))) (mRet (mD (.bl true)))
    mPass)
    (mRet (mAndV (mC gIsi [(.v 0), (.e (mD (.ty "int")))]) (mAndV (mNotV (mC gIsi [(.v 0), (.e (mD (.ty "bool")))])) (mChain gLe gLe (.e (m2 gSub (.e (mD (.int 0))) (.e (m2 gPow (.e (mD (.int 10))) (.e (mD (.int 9))))))) (.v 0) (.e (m2 gPow (.e (mD (.int 10))) (.e (mD (.int 9)))))))))) δ μ
noncomputable def m__law_is_bound : MF := mFn 1 (b__law_is_bound)
theorem g__law_is_bound {tb : Nat → Addr} {P : Program} {w : World} {K : PySem.W.Frag} {mg : Str → Option Value} {base : Heap} {f : Addr} {fd : FuncData} (F : Fd K "_law_is_bound" "_law_is_bound" (tp 70) f fd .none) (T : Txt tb P w K mg base) : FnG P w K mg base (L2.CX P w) (0 + 1) f fd ["_law_thing"] (spM K mg (mFn 1 (b__law_is_bound)) 1) := by
  refine fnG_s (N := ["_law_thing"]) (sc := sc__law_is_bound) F scf__law_is_bound (by kernel_rfl) rfl ?_
  intro X W hP hw hK hM hB C
  subst hP hw hK hM hB
  exact (jss_cons (js_if (isNT (C.ov (by decide +kernel)) (jo_e je_non)) (jss_one (js_ret je_bl))
    jss_nil)
    (jss_one (js_ret (je_and (C.bi (by decide +kernel) T.n_isinstance (by decide +kernel) call_isi j_isi (jos_cons (C.ov (by decide +kernel)) (jos_cons (jo_e (C.ty (by decide +kernel) T.n_int (by decide +kernel))) jos_nil))) (je_and (je_not (C.bi (by decide +kernel) T.n_isinstance (by decide +kernel) call_isi j_isi (jos_cons (C.ov (by decide +kernel)) (jos_cons (jo_e (C.ty (by decide +kernel) T.n_bool (by decide +kernel))) jos_nil)))) (je_one (chain_ o_le j_le o_le j_le (jo_e (sub_ (jo_e je_int) (jo_e (pow_ (jo_e je_int) (jo_e je_int))))) (C.ov (by decide +kernel)) (jo_e (pow_ (jo_e je_int) (jo_e je_int))))))))))
theorem bd__law_is_bound {K : PySem.W.Frag} {f : Addr} {fd : FuncData} (F : Fd K "_law_is_bound" "_law_is_bound" (tp 70) f fd .none) : Binds K fd ["_law_thing"] [] :=
  F.binds fun _ _ _ _ _ _ us hl => match us, hl with | [_], _ => by kernel_rfl
theorem ok__law_is_bound {tb : Nat → Addr} {P : Program} {w : World} {K : PySem.W.Frag} {mg : Str → Option Value} {base : Heap} (T : Txt tb P w K mg base) : Fu P w K mg base 1 "_law_is_bound" m__law_is_bound 1 [] := by
  obtain ⟨f, fd, F, hm, hk⟩ := T.d__law_is_bound
  exact Fu.mk0 (g__law_is_bound F T) hm hk (bd__law_is_bound F)
def sc_is_integer : Scope := { kind := .function, names := [("value", .local), ("low", .local), ("high", .local), ("isinstance", .globalImplicit), ("int", .globalImplicit), ("bool", .globalImplicit)], isGenerator := false, isCoroutine := false, more := [] }
theorem scf_is_integer : FnScope ["value", "low", "high"] ["value", "low", "high"] sc_is_integer := ⟨rfl, rfl, rfl, by decide +kernel, rfl, by decide +kernel, by decide +kernel⟩
noncomputable def b_is_integer (δ : FL.Loc) (μ : Mem) : OutS := (mSeq (mIfS (mOr (mNot (mTb (mC gIsi [(.v 0), (.e (mD (.ty "int")))]))) (mTb (mC gIsi [(.v 0), (.e (mD (.ty "bool")))]))) (mRet (mD (.bl false)))
    mPass)
    (mRet (mAndV (mOrV (m2 (gIsN false) (.v 1) (.e (mD .non))) (m2 gLe (.v 1) (.v 0))) (mOrV (m2 (gIsN false) (.v 2) (.e (mD .non))) (m2 gLe (.v 0) (.v 2)))))) δ μ
noncomputable def m_is_integer : MF := mFn 3 (b_is_integer)
theorem g_is_integer {tb : Nat → Addr} {P : Program} {w : World} {K : PySem.W.Frag} {mg : Str → Option Value} {base : Heap} {f : Addr} {fd : FuncData} (F : Fd K "is_integer" "is_integer" (tp 14) f fd .none) (T : Txt tb P w K mg base) : FnG P w K mg base (L2.CX P w) (0 + 1) f fd ["value", "low", "high"] (spM K mg (mFn 3 (b_is_integer)) 3) := by
  refine fnG_s (N := ["value", "low", "high"]) (sc := sc_is_integer) F scf_is_integer (by kernel_rfl) rfl ?_
  intro X W hP hw hK hM hB C
  subst hP hw hK hM hB
  exact (jss_cons (js_if (jt_w (jw_or (jt_not (jt_e (C.bi (by decide +kernel) T.n_isinstance (by decide +kernel) call_isi j_isi (jos_cons (C.ov (by decide +kernel)) (jos_cons (jo_e (C.ty (by decide +kernel) T.n_int (by decide +kernel))) jos_nil))))) (jw_or1 (jt_e (C.bi (by decide +kernel) T.n_isinstance (by decide +kernel) call_isi j_isi (jos_cons (C.ov (by decide +kernel)) (jos_cons (jo_e (C.ty (by decide +kernel) T.n_bool (by decide +kernel))) jos_nil))))))) (jss_one (js_ret je_bl))
    jss_nil)
    (jss_one (js_ret (je_and (je_or (isN_ (C.ov (by decide +kernel)) (jo_e je_non)) (je_one (le_ (C.ov (by decide +kernel)) (C.ov (by decide +kernel))))) (je_one (je_or (isN_ (C.ov (by decide +kernel)) (jo_e je_non)) (je_one (le_ (C.ov (by decide +kernel)) (C.ov (by decide +kernel))))))))))
theorem bd_is_integer {K : PySem.W.Frag} {f : Addr} {fd : FuncData} (F : Fd K "is_integer" "is_integer" (tp 14) f fd .none) : Binds K fd ["value", "low", "high"] [] :=
  F.binds fun _ _ _ _ _ _ us hl => match us, hl with | [_, _, _], _ => by kernel_rfl
theorem ok_is_integer {tb : Nat → Addr} {P : Program} {w : World} {K : PySem.W.Frag} {mg : Str → Option Value} {base : Heap} (T : Txt tb P w K mg base) : Fu P w K mg base 1 "is_integer" m_is_integer 3 [] := by
  obtain ⟨f, fd, F, hm, hk⟩ := T.d_is_integer
  exact Fu.mk0 (g_is_integer F T) hm hk (bd_is_integer F)
def sc_bound_text : Scope := { kind := .function, names := [("value", .local), ("str", .globalImplicit)], isGenerator := false, isCoroutine := false, more := [] }
theorem scf_bound_text : FnScope ["value"] ["value"] sc_bound_text := ⟨rfl, rfl, rfl, by decide +kernel, rfl, by decide +kernel, by decide +kernel⟩
noncomputable def b_bound_text (δ : FL.Loc) (μ : Mem) : OutS := (mRet (mIf (mTb (m2 (gIsN false) (.v 0) (.e (mD .non)))) (mD (.str (lit ""))) (mC gStrI [(.v 0)]))) δ μ
noncomputable def m_bound_text : MF := mFn 1 (b_bound_text)
theorem g_bound_text {tb : Nat → Addr} {P : Program} {w : World} {K : PySem.W.Frag} {mg : Str → Option Value} {base : Heap} {f : Addr} {fd : FuncData} (F : Fd K "bound_text" "bound_text" (tp 33) f fd .none) (T : Txt tb P w K mg base) : FnG P w K mg base (L2.CX P w) (0 + 1) f fd ["value"] (spM K mg (mFn 1 (b_bound_text)) 1) := by
  refine fnG_s (N := ["value"]) (sc := sc_bound_text) F scf_bound_text (by kernel_rfl) rfl ?_
  intro X W hP hw hK hM hB C
  subst hP hw hK hM hB
  exact (jss_one (js_ret (je_if (isNT (C.ov (by decide +kernel)) (jo_e je_non)) je_str (C.bt (by decide +kernel) T.n_str (by decide +kernel) call_str_int j_strI (jos_cons (C.ov (by decide +kernel)) jos_nil)))))
theorem bd_bound_text {K : PySem.W.Frag} {f : Addr} {fd : FuncData} (F : Fd K "bound_text" "bound_text" (tp 33) f fd .none) : Binds K fd ["value"] [] :=
  F.binds fun _ _ _ _ _ _ us hl => match us, hl with | [_], _ => by kernel_rfl
theorem ok_bound_text {tb : Nat → Addr} {P : Program} {w : World} {K : PySem.W.Frag} {mg : Str → Option Value} {base : Heap} (T : Txt tb P w K mg base) : Fu P w K mg base 1 "bound_text" m_bound_text 1 [] := by
  obtain ⟨f, fd, F, hm, hk⟩ := T.d_bound_text
  exact Fu.mk0 (g_bound_text F T) hm hk (bd_bound_text F)
noncomputable def f1_iRange (δ : FL.Loc) (μ : Mem) : OutS := (mIfS (mAnd (mTb (m2 (gIsN true) (.v 4) (.e (mD .non)))) (mNot (mTb (mCall m_is_integer [(mV 4), (m2 gSub (.e (mD (.int 0))) (.e (mD (.int 1000000000)))), (mD (.int 1000000000))] [])))) (mRaise "BadQuery" "reason" (mD (.str (lit "a bound is neither None nor an integer of at most ten digits"))))
    mPass) δ μ
noncomputable def b_iRange (δ : FL.Loc) (μ : Mem) : OutS := (mSeq (mEx (mCall m_need_field [(mV 1)] []))
    (mSeq (mFor (mIt (mTup [(mV 2), (mV 3)])) (tgV 4) f1_iRange)
    (mSeq (mSuper "Range" m_iQuery [(mTup []), (mTup [(mV 1), (mV 2), (mV 3)]), (mJoined [(mFmt (mV 1)), (mD (.str (lit ":["))), (mFmt (mCall m_bound_text [(mV 2)] [])), (mD (.str (lit ","))), (mFmt (mCall m_bound_text [(mV 3)] [])), (mD (.str (lit "]")))])])
    (mSeq (mStF at_ "field" (.v 0) (mV 1))
    (mSeq (mStF at_ "low" (.v 0) (mV 2))
    (mStF at_ "high" (.v 0) (mV 3))))))) δ μ
noncomputable def m_iRange : MF := mFn 5 b_iRange
theorem g_iRange {tb : Nat → Addr} {P : Program} {w : World} {K : PySem.W.Frag} {mg : Str → Option Value} {base : Heap} {kV : Value} {fd : FuncData} (F : FdK K "__init__" "Range.__init__" (clsDef 1 (tp 56)) (fAdF K (pM "Range" "__init__")) kV (codeAd K (pM "Range" "__init__")) (ccAd K (pM "Range" "__init__")) fd) (T : Txt tb P w K mg base) : FnG P w K mg base (L2.CX P w) (4 + 1) (fAdF K (pM "Range" "__init__")) fd ["self", "field", "low", "high"] (spM K mg (mFn 5 b_iRange) 4) := by
  refine fnG_cs (N := ["self", "field", "low", "high", "bound"]) (sc := sc_iRange) (F.fc T.ce_iRange) scf_iRange (by kernel_rfl) rfl ?_
  intro X W hP hw hK hM hB C ST
  subst hP hw hK hM hB
  exact (jwb_cons (jws_of (js_expr (je_call C.toCs (ok_need_field T) (by decide +kernel) (by decide +kernel) (ja_cons (C.v (by decide +kernel)) ja_nil) rfl)))
    (jwb_cons (jws_of (js_for C.hp C.calm (ji_any (je_tup (ja_cons (C.v (by decide +kernel)) (ja_cons (C.v (by decide +kernel)) ja_nil)))) (C.tg (by decide +kernel)) (jss_one (js_if (jt_w (jw_and (notNT (C.ov (by decide +kernel)) (jo_e je_non)) (jw_and1 (jt_not (jt_e (je_call C.toCs (ok_is_integer T) (by decide +kernel) (by decide +kernel) (ja_cons (C.v (by decide +kernel)) (ja_cons (sub_ (jo_e je_int) (jo_e (C.gInt (by decide +kernel) T.c_MAX_BOUND))) (ja_cons (C.gInt (by decide +kernel) T.c_MAX_BOUND) ja_nil))) rfl)))))) (jss_one (js_raise C.toCs T.x_BadQuery (by decide) (by decide +kernel) je_str))
    jss_nil))))
    (jwb_cons (jws_super C (ST _ T.s_iRange) (SupR.ok (su_Range T)) (by decide) (ja_cons (je_tup ja_nil) (ja_cons (je_tup (ja_cons (C.v (by decide +kernel)) (ja_cons (C.v (by decide +kernel)) (ja_cons (C.v (by decide +kernel)) ja_nil)))) (ja_cons (je_joined (.cons (je_fmt (C.v (by decide +kernel))) (.cons je_str (.cons (je_fmt (je_call C.toCs (ok_bound_text T) (by decide +kernel) (by decide +kernel) (ja_cons (C.v (by decide +kernel)) ja_nil) rfl)) (.cons je_str (.cons (je_fmt (je_call C.toCs (ok_bound_text T) (by decide +kernel) (by decide +kernel) (ja_cons (C.v (by decide +kernel)) ja_nil) rfl)) (.cons je_str JFs.nil))))))) ja_nil))) rfl (by decide +kernel) rfl rfl rfl rfl)
    (jwb_of (jss_cons (js_stF T.atts (C.ov (by decide +kernel)) (C.v (by decide +kernel)))
    (jss_cons (js_stF T.atts (C.ov (by decide +kernel)) (C.v (by decide +kernel)))
    (jss_one (js_stF T.atts (C.ov (by decide +kernel)) (C.v (by decide +kernel))))))))))
theorem cl_Range_3 {tb : Nat → Addr} {P : Program} {w : World} {K : PySem.W.Frag} {mg : Str → Option Value} {base : Heap} (T : Txt tb P w K mg base) : ClW P w K mg base 5 "Range" 3 [] [.pos 0, .pos 1, .pos 2] m_iRange 3 [] := by
  obtain ⟨fd, F⟩ := T.f_iRange
  exact clW_of T.c_Range T.mk_Range (g_iRange F T) (F.bind1 fun _ _ _ _ _ _ s x us ws _ h1 h2 => match us, ws, h1, h2 with | [_, _, _], [], _, _ => .of_eq (by kernel_rfl)) .nil (fun _ _ => .nil) rfl rfl
theorem cl_Range_0_high_low_field {tb : Nat → Addr} {P : Program} {w : World} {K : PySem.W.Frag} {mg : Str → Option Value} {base : Heap} (T : Txt tb P w K mg base) : ClW P w K mg base 5 "Range" 0 ["high", "low", "field"] [.key 2, .key 1, .key 0] m_iRange 3 [] := by
  obtain ⟨fd, F⟩ := T.f_iRange
  exact clW_of T.c_Range T.mk_Range (g_iRange F T) (F.bind1 fun _ _ _ _ _ _ s x us ws _ h1 h2 => match us, ws, h1, h2 with | [], [_, _, _], _, _ => .of_eq (by kernel_rfl)) .nil (fun _ _ => .nil) rfl rfl
def sc__law_ranges_right : Scope := { kind := .function, names := [("_law_name", .cell), ("_law_least", .cell), ("_law_most_here", .cell), ("_law_is_name", .local), ("_law_one", .local), ("_law_is_run", .globalImplicit), ("_law_is_bound", .globalImplicit), ("_law_refused", .globalImplicit), ("Range", .globalImplicit), ("repr", .globalImplicit), ("_law_is_bare", .globalImplicit)], isGenerator := false, isCoroutine := false, more := [] }
theorem scf__law_ranges_right : FnScope ["_law_name", "_law_least", "_law_most_here", "_law_is_name", "_law_one"] ["_law_name", "_law_least", "_law_most_here"] sc__law_ranges_right := ⟨rfl, rfl, rfl, by decide +kernel, rfl, by decide +kernel, by decide +kernel⟩
noncomputable def f1__law_ranges_right (tb : Nat → Addr) (δ : FL.Loc) (μ : Mem) : OutS := (mIfS (mOr (mTb (m2 (gEq true) (.e (mC gRepr [(.e (mLst [(mAt at_ "field" (.v 4)), (mAt at_ "low" (.v 4)), (mAt at_ "high" (.v 4))]))])) (.e (mC gRepr [(.e (mLst [(mV 0), (mV 1), (mV 2)]))])))) (mNot (mTb (mCall (m__law_is_bare tb) [(mV 4)] [])))) (mRet (mD (.bl false)))
    mPass) δ μ
noncomputable def b__law_ranges_right (tb : Nat → Addr) (δ : FL.Loc) (μ : Mem) : OutS := (mSeq (mSet 3 (mCall m__law_is_run [(mV 0), (mD (.str (lit "abcdefghijklmnopqrstuvwxyz"))), (mD (.int 12))] []))
    (mSeq (mIfS (mOr (mNot (mTb (mV 3))) (mOr (mNot (mTb (mCall m__law_is_bound [(mV 1)] []))) (mNot (mTb (mCall m__law_is_bound [(mV 2)] []))))) (mRet (mLam m__law_refused 1 (tb 1) "_law_ranges_right.<locals>.<lambda>" (mCallK (mkF "Range" m_iRange) [.pos 0, .pos 1, .pos 2] [(mV 0), (mV 1), (mV 2)] [] [])))
    mPass)
    (mSeq (mFor (mIt (mTup [(mCallK (mkF "Range" m_iRange) [.pos 0, .pos 1, .pos 2] [(mV 0), (mV 1), (mV 2)] [] []), (mCallK (mkF "Range" m_iRange) [.key 2, .key 1, .key 0] [] [(mV 2), (mV 1), (mV 0)] [])])) (tgV 4) (f1__law_ranges_right tb))
    (mRet (mD (.bl true)))))) δ μ
noncomputable def m__law_ranges_right (tb : Nat → Addr) : MF := mFn 5 (b__law_ranges_right tb)
theorem g__law_ranges_right {tb : Nat → Addr} {P : Program} {w : World} {K : PySem.W.Frag} {mg : Str → Option Value} {base : Heap} {f c : Addr} {fd : FuncData} (F : FdL K "_law_ranges_right" "_law_ranges_right" (tp 73) f fd .none c) (TB : TabB base mg c (tb 1)) (T : Txt tb P w K mg base) : FnG P w K mg base (L2.CX P w) (10 + 1) f fd ["_law_name", "_law_least", "_law_most_here"] (spM K mg (mFn 5 (b__law_ranges_right tb)) 3) := by
  refine fnG_l (N := ["_law_name", "_law_least", "_law_most_here", "_law_is_name", "_law_one"]) (sc := sc__law_ranges_right) (q := "_law_ranges_right.<locals>.<lambda>") F TB scf__law_ranges_right (by kernel_rfl) rfl (fun _ => by kernel_rfl) ?_
  intro X W hP hw hK hM hB C
  subst hP hw hK hM hB
  exact (jss_cons (C.set (by decide +kernel) (je_call C.toCs (ok__law_is_run T) (by decide +kernel) (by decide +kernel) (ja_cons (C.v (by decide +kernel)) (ja_cons je_str (ja_cons je_int ja_nil))) rfl))
    (jss_cons (js_if (jt_w (jw_or (jt_not (jt_e (C.v (by decide +kernel)))) (jw_or (jt_not (jt_e (je_call C.toCs (ok__law_is_bound T) (by decide +kernel) (by decide +kernel) (ja_cons (C.v (by decide +kernel)) ja_nil) rfl))) (jw_or1 (jt_not (jt_e (je_call C.toCs (ok__law_is_bound T) (by decide +kernel) (by decide +kernel) (ja_cons (C.v (by decide +kernel)) ja_nil) rfl))))))) (jss_one (js_ret (C.lam0 (kh := 6) (ok__law_refused T) (by decide) (by decide +kernel) (by decide +kernel) (C.body (Tx := (Txt tb)) T (fun Y V TL CL => (clF CL (cl_Range_3 TL) (by decide) (by decide +kernel) (ja_cons (CL.v (by decide +kernel)) (ja_cons (CL.v (by decide +kernel)) (ja_cons (CL.v (by decide +kernel)) ja_nil))) jk_nil rfl rfl))))))
    jss_nil)
    (jss_cons (js_for C.hp C.calm (ji_any (je_tup (ja_cons (clF C.toCs (cl_Range_3 T) (by decide) (by decide +kernel) (ja_cons (C.v (by decide +kernel)) (ja_cons (C.v (by decide +kernel)) (ja_cons (C.v (by decide +kernel)) ja_nil))) jk_nil rfl rfl) (ja_cons (clF0 C.toCs (cl_Range_0_high_low_field T) (by decide) (by decide +kernel) (jk_cons (C.v (by decide +kernel)) (jk_cons (C.v (by decide +kernel)) (jk_cons (C.v (by decide +kernel)) jk_nil))) rfl) ja_nil)))) (C.tg (by decide +kernel)) (jss_one (js_if (jt_w (jw_or (C.neT (jo_e (C.bi (by decide +kernel) T.n_repr (by decide +kernel) (o_repr C.hg C.hu70) j_repr (jos_cons (jo_e (je_lst (ja_cons (je_at T.atts (C.ov (by decide +kernel))) (ja_cons (je_at T.atts (C.ov (by decide +kernel))) (ja_cons (je_at T.atts (C.ov (by decide +kernel))) ja_nil))))) jos_nil))) (jo_e (C.bi (by decide +kernel) T.n_repr (by decide +kernel) (o_repr C.hg C.hu70) j_repr (jos_cons (jo_e (je_lst (ja_cons (C.v (by decide +kernel)) (ja_cons (C.v (by decide +kernel)) (ja_cons (C.v (by decide +kernel)) ja_nil))))) jos_nil)))) (jw_or1 (jt_not (jt_e (je_call C.toCs (ok__law_is_bare T) (by decide +kernel) (by decide +kernel) (ja_cons (C.v (by decide +kernel)) ja_nil) rfl)))))) (jss_one (js_ret je_bl))
    jss_nil)))
    (jss_one (js_ret je_bl)))))
theorem bd__law_ranges_right {K : PySem.W.Frag} {f : Addr} {fd : FuncData} (F : Fd K "_law_ranges_right" "_law_ranges_right" (tp 73) f fd .none) : Binds K fd ["_law_name", "_law_least", "_law_most_here"] [] :=
  F.binds fun _ _ _ _ _ _ us hl => match us, hl with | [_, _, _], _ => by kernel_rfl
theorem ok__law_ranges_right {tb : Nat → Addr} {P : Program} {w : World} {K : PySem.W.Frag} {mg : Str → Option Value} {base : Heap} (T : Txt tb P w K mg base) : Fu P w K mg base 11 "_law_ranges_right" (m__law_ranges_right tb) 3 [] := by
  obtain ⟨c, f, fd, F, TB, hm, hk⟩ := T.d__law_ranges_right
  exact Fu.mk0 (g__law_ranges_right F TB T) hm hk (bd__law_ranges_right F.fd)
noncomputable def b_iEverything (δ : FL.Loc) (μ : Mem) : OutS := (mSeq (mSuper "Everything" m_iQuery [(mTup []), (mTup []), (mD (.str (lit "#")))])
    mPass) δ μ
noncomputable def m_iEverything : MF := mFn 1 b_iEverything
theorem g_iEverything {tb : Nat → Addr} {P : Program} {w : World} {K : PySem.W.Frag} {mg : Str → Option Value} {base : Heap} {kV : Value} {fd : FuncData} (F : FdK K "__init__" "Everything.__init__" (clsDef 1 (tp 57)) (fAdF K (pM "Everything" "__init__")) kV (codeAd K (pM "Everything" "__init__")) (ccAd K (pM "Everything" "__init__")) fd) (T : Txt tb P w K mg base) : FnG P w K mg base (L2.CX P w) (4 + 1) (fAdF K (pM "Everything" "__init__")) fd ["self"] (spM K mg (mFn 1 b_iEverything) 1) := by
  refine fnG_cs (N := ["self"]) (sc := sc_iEverything) (F.fc T.ce_iEverything) scf_iEverything (by kernel_rfl) rfl ?_
  intro X W hP hw hK hM hB C ST
  subst hP hw hK hM hB
  exact (jwb_cons (jws_super C (ST _ T.s_iEverything) (SupR.ok (su_Everything T)) (by decide) (ja_cons (je_tup ja_nil) (ja_cons (je_tup ja_nil) (ja_cons je_str ja_nil))) rfl (by decide +kernel) rfl rfl rfl rfl)
    (jwb_of jss_nil))
theorem cl_Everything_0 {tb : Nat → Addr} {P : Program} {w : World} {K : PySem.W.Frag} {mg : Str → Option Value} {base : Heap} (T : Txt tb P w K mg base) : ClW P w K mg base 5 "Everything" 0 [] [] m_iEverything 0 [] := by
  obtain ⟨fd, F⟩ := T.f_iEverything
  exact clW_of T.c_Everything T.mk_Everything (g_iEverything F T) (F.bind1 fun _ _ _ _ _ _ s x us ws _ h1 h2 => match us, ws, h1, h2 with | [], [], _, _ => .of_eq (by kernel_rfl)) .nil (fun _ _ => .nil) rfl rfl
def sc_law : Scope := { kind := .function, names := [("_law_script", .cell), ("_law_good", .local), ("_law_names", .local), ("_law_words", .local), ("_law_bounds", .local), ("_law_source_here", .local), ("_law_turn", .local), ("_law_name", .local), ("range", .globalImplicit), ("max", .globalImplicit), ("min", .globalImplicit), ("len", .globalImplicit), ("_law_pick", .globalImplicit), ("_law_next", .globalImplicit), ("_law_words_right", .globalImplicit), ("_law_ranges_right", .globalImplicit), ("_law_is_bare", .globalImplicit), ("Everything", .globalImplicit)], isGenerator := false, isCoroutine := false, more := [("fast", .str "_law_script"), ("fast", .str "_law_good"), ("fast", .str "_law_names"), ("fast", .str "_law_words"), ("fast", .str "_law_bounds"), ("fast", .str "_law_k"), ("fast", .str "_law_source_here"), ("fast", .str "_law_turn"), ("fast", .str "_law_name")] }
theorem scf_law : FnScope ["_law_script", "_law_good", "_law_names", "_law_words", "_law_bounds", "_law_source_here", "_law_turn", "_law_name", "_law_k"] ["_law_script"] sc_law := ⟨rfl, rfl, rfl, by decide +kernel, rfl, by decide +kernel, by decide +kernel⟩
noncomputable def e1_law (tb : Nat → Addr) (δ : FL.Loc) (μ : Mem) : Out FL.Slot := (mCall m__law_source [(mV 0), (mV 8)] []) δ μ
noncomputable def f2_law (tb : Nat → Addr) (δ : FL.Loc) (μ : Mem) : OutS := (mSeq (mSet 7 (mCall m__law_pick [(mV 5), (mIf (mTb (m2 (gEq false) (.e (mCall m__law_next [(mV 5), (mD (.int 2))] [])) (.e (mD (.int 0))))) (mV 1) (mV 2))] []))
    (mSeq (mIfS (mNot (mTb (mCall (m__law_words_right tb) [(mV 7), (mCall m__law_pick [(mV 5), (mV 3)] [])] []))) (mRet (mD (.bl false)))
    mPass)
    (mIfS (mNot (mTb (mCall (m__law_ranges_right tb) [(mV 7), (mCall m__law_pick [(mV 5), (mV 4)] []), (mCall m__law_pick [(mV 5), (mV 4)] [])] []))) (mRet (mD (.bl false)))
    mPass))) δ μ
noncomputable def f3_law (tb : Nat → Addr) (δ : FL.Loc) (μ : Mem) : OutS := (mFor (mRange1 (.e (mD (.int 8)))) (tgV 6) (f2_law tb)) δ μ
noncomputable def b_law (tb : Nat → Addr) (δ : FL.Loc) (μ : Mem) : OutS := (mSeq (mSet 1 (mLst [(mD (.str (lit "t"))), (mD (.str (lit "title"))), (mD (.str (lit "abcdefghijkl"))), (mD (.str (lit "t"))), (mD (.str (lit "n")))]))
    (mSeq (mSet 2 (m2 gAdd (.v 1) (.e (mLst [(mD (.str (lit ""))), (mD (.str (lit "T"))), (mD (.str (lit "t1"))), (mD (.str (lit "a b"))), (mD (.str (lit "abcdefghijklm"))), (mD .non), (mD (.int 5)), (mTup [(mD (.str (lit "t")))]), (mLst [(mD (.str (lit "t")))]), (mD (.bl true))]))))
    (mSeq (mSet 3 (mLst [(mD (.str (lit "a"))), (mD (.str (lit "7"))), (mD (.str (lit "b2"))), (m2 gMulC (.e (mD (.str (lit "x")))) (.e (mD (.int 20)))), (mD (.str (lit "007"))), (mD (.str (lit ""))), (m2 gMulC (.e (mD (.str (lit "x")))) (.e (mD (.int 21)))), (mD (.str (lit "A"))), (mD (.str (lit "a b"))), (mD (.str (lit "a-b"))), (mD .non), (mD (.int 7)), (mTup [(mD (.str (lit "a")))]), (mLst [(mD (.str (lit "a")))]), (mD (.bl true)), (mD (.str (lit "a\n")))]))
    (mSeq (mSet 4 (mLst [(mD .non), (mD (.int 0)), (m2 gPow (.e (mD (.int 10))) (.e (mD (.int 9)))), (m2 gSub (.e (mD (.int 0))) (.e (m2 gPow (.e (mD (.int 10))) (.e (mD (.int 9)))))), (mD (.int 7)), (m2 gAdd (.e (m2 gPow (.e (mD (.int 10))) (.e (mD (.int 9))))) (.e (mD (.int 1)))), (m2 gSub (.e (m2 gSub (.e (mD (.int 0))) (.e (m2 gPow (.e (mD (.int 10))) (.e (mD (.int 9))))))) (.e (mD (.int 1)))), (mD (.bl true)), (mD (.str (lit "1"))), (mTup [(mD (.int 1))]), (mLst []), (m2 gPow (.e (mD (.int 10))) (.e (mD (.int 40))))]))
    (mSeq (mFor (mIt (mLc (mRange1 (.e (mC gMax2 [(.e (mD (.int 1))), (.e (mC gMin2 [(.e (mD (.int 3))), (.e (mC gLen [(.v 0)]))]))]))) (tgV 8) mYes (e1_law tb) [8])) (tgV 5) (f3_law tb))
    (mRet (mCall (m__law_is_bare tb) [(mCallK (mkF "Everything" m_iEverything) [] [] [] [])] []))))))) δ μ
noncomputable def m_law (tb : Nat → Addr) : MF := mFn 9 (b_law tb)
theorem g_law {tb : Nat → Addr} {P : Program} {w : World} {K : PySem.W.Frag} {mg : Str → Option Value} {base : Heap} {f : Addr} {fd : FuncData} (F : Fd K "law" "law" (tp 74) f fd .none) (T : Txt tb P w K mg base) : FnG P w K mg base (L2.CX P w) (11 + 1) f fd ["_law_script"] (spM K mg (mFn 9 (b_law tb)) 1) := by
  refine fnG_s (N := ["_law_script", "_law_good", "_law_names", "_law_words", "_law_bounds", "_law_source_here", "_law_turn", "_law_name", "_law_k"]) (sc := sc_law) F scf_law (by kernel_rfl) rfl ?_
  intro X W hP hw hK hM hB C
  subst hP hw hK hM hB
  exact (jss_cons (C.set (by decide +kernel) (je_lst (ja_cons je_str (ja_cons je_str (ja_cons je_str (ja_cons je_str (ja_cons je_str ja_nil)))))))
    (jss_cons (C.set (by decide +kernel) (add_ (C.ov (by decide +kernel)) (jo_e (je_lst (ja_cons je_str (ja_cons je_str (ja_cons je_str (ja_cons je_str (ja_cons je_str (ja_cons je_non (ja_cons je_int (ja_cons (je_tup (ja_cons je_str ja_nil)) (ja_cons (je_lst (ja_cons je_str ja_nil)) (ja_cons je_bl ja_nil))))))))))))))
    (jss_cons (C.set (by decide +kernel) (je_lst (ja_cons je_str (ja_cons je_str (ja_cons je_str (ja_cons (mulC_ (jo_e je_str) (jo_e je_int)) (ja_cons je_str (ja_cons je_str (ja_cons (mulC_ (jo_e je_str) (jo_e je_int)) (ja_cons je_str (ja_cons je_str (ja_cons je_str (ja_cons je_non (ja_cons je_int (ja_cons (je_tup (ja_cons je_str ja_nil)) (ja_cons (je_lst (ja_cons je_str ja_nil)) (ja_cons je_bl (ja_cons je_str ja_nil))))))))))))))))))
    (jss_cons (C.set (by decide +kernel) (je_lst (ja_cons je_non (ja_cons je_int (ja_cons (pow_ (jo_e je_int) (jo_e je_int)) (ja_cons (sub_ (jo_e je_int) (jo_e (pow_ (jo_e je_int) (jo_e je_int)))) (ja_cons je_int (ja_cons (add_ (jo_e (pow_ (jo_e je_int) (jo_e je_int))) (jo_e je_int)) (ja_cons (sub_ (jo_e (sub_ (jo_e je_int) (jo_e (pow_ (jo_e je_int) (jo_e je_int))))) (jo_e je_int)) (ja_cons je_bl (ja_cons je_str (ja_cons (je_tup (ja_cons je_int ja_nil)) (ja_cons (je_lst ja_nil) (ja_cons (pow_ (jo_e je_int) (jo_e je_int)) ja_nil))))))))))))))
    (jss_cons (js_for C.hp C.calm (ji_any (Cs.lc (Tx := Txt tb) C.toCs T [("_law_k", 8)] (range1_ C.toCs (by decide +kernel) T.n_range (jos_cons (jo_e (C.bi (by decide +kernel) T.n_max (by decide +kernel) (call_max2 C.calm) j_max2 (jos_cons (jo_e je_int) (jos_cons (jo_e (C.bi (by decide +kernel) T.n_min (by decide +kernel) (call_min2 C.calm) j_min2 (jos_cons (jo_e je_int) (jos_cons (jo_e (C.bi (by decide +kernel) T.n_len PySem.boot_len o_len j_len (jos_cons (C.ov (by decide +kernel)) jos_nil))) jos_nil)))) jos_nil)))) jos_nil)) (by decide +kernel) (fun Y T1 C1 => ⟨(C1.tg (by decide +kernel)), jts_nil, (je_call C1 (ok__law_source T1) (by decide +kernel) (by decide +kernel) (ja_cons (C1.v (by decide +kernel)) (ja_cons (C1.v (by decide +kernel)) ja_nil)) rfl)⟩) (by rfl))) (C.tg (by decide +kernel)) (jss_one (js_for C.hp C.calm (range1_ C.toCs (by decide +kernel) T.n_range (jos_cons (jo_e je_int) jos_nil)) (C.tg (by decide +kernel)) (jss_cons (C.set (by decide +kernel) (je_call C.toCs (ok__law_pick T) (by decide +kernel) (by decide +kernel) (ja_cons (C.v (by decide +kernel)) (ja_cons (je_if (C.eqT (jo_e (je_call C.toCs (ok__law_next T) (by decide +kernel) (by decide +kernel) (ja_cons (C.v (by decide +kernel)) (ja_cons je_int ja_nil)) rfl)) (jo_e je_int)) (C.v (by decide +kernel)) (C.v (by decide +kernel))) ja_nil)) rfl))
    (jss_cons (js_if (jt_not (jt_e (je_call C.toCs (ok__law_words_right T) (by decide +kernel) (by decide +kernel) (ja_cons (C.v (by decide +kernel)) (ja_cons (je_call C.toCs (ok__law_pick T) (by decide +kernel) (by decide +kernel) (ja_cons (C.v (by decide +kernel)) (ja_cons (C.v (by decide +kernel)) ja_nil)) rfl) ja_nil)) rfl))) (jss_one (js_ret je_bl))
    jss_nil)
    (jss_one (js_if (jt_not (jt_e (je_call C.toCs (ok__law_ranges_right T) (by decide +kernel) (by decide +kernel) (ja_cons (C.v (by decide +kernel)) (ja_cons (je_call C.toCs (ok__law_pick T) (by decide +kernel) (by decide +kernel) (ja_cons (C.v (by decide +kernel)) (ja_cons (C.v (by decide +kernel)) ja_nil)) rfl) (ja_cons (je_call C.toCs (ok__law_pick T) (by decide +kernel) (by decide +kernel) (ja_cons (C.v (by decide +kernel)) (ja_cons (C.v (by decide +kernel)) ja_nil)) rfl) ja_nil))) rfl))) (jss_one (js_ret je_bl))
    jss_nil)))))))
    (jss_one (js_ret (je_call C.toCs (ok__law_is_bare T) (by decide +kernel) (by decide +kernel) (ja_cons (clF0 C.toCs (cl_Everything_0 T) (by decide) (by decide +kernel) jk_nil rfl) ja_nil) rfl))))))))
def qs_BadQuery : Nat → Pos := fun i => match i with
  | 0 => ⟨10, 8, 10, 13⟩
  | 1 => ⟨10, 8, 10, 15⟩
  | 2 => ⟨10, 8, 10, 24⟩
  | 3 => ⟨10, 25, 10, 31⟩
  | 4 => ⟨10, 8, 10, 32⟩
  | 5 => ⟨10, 8, 10, 32⟩
  | 6 => ⟨11, 8, 11, 12⟩
  | 7 => ⟨11, 8, 11, 19⟩
  | 8 => ⟨11, 22, 11, 28⟩
  | 9 => ⟨11, 8, 11, 28⟩
  | _ => ⟨0, 0, 0, 0⟩
def ss_BadQuery : Scope := { kind := .function, names := [("self", .local), ("reason", .local), ("__class__", .free), ("super", .globalImplicit)], isGenerator := false, isCoroutine := false, more := [] }
theorem sup_BadQuery : SupS PySem.Challenge.pw_findlang_k09_terms_prefixes_and_ranges (clsDef 0 (tp 3)) "self" "reason" "reason" qs_BadQuery ss_BadQuery := ⟨by kernel_rfl, by kernel_rfl, ⟨_, rfl, rfl⟩, by kernel_rfl, fun _ _ _ _ => ⟨_, fun _ => rfl⟩, fun _ _ _ _ _ => rfl, fun _ _ _ _ _ => rfl, rfl, rfl, rfl, by decide +kernel, by decide +kernel, by decide +kernel, by decide +kernel, by decide +kernel, by decide +kernel, ⟨by decide +kernel, by decide +kernel⟩, ⟨by decide +kernel, by decide +kernel⟩⟩
end L09
namespace FL
open PySem L2
theorem lcDY_map {α : Type} {nb : Nat} {f : TgF} {tests : MT} {elt : ME} {vs : List Nat} {μ : Mem} (hb : tabLow nb μ = true) (h : α → D) (p : α → Bool) (q : α → D) (I : FL.Loc → Prop) :
    ∀ (ds : List α) (acc : List D) (δ : FL.Loc), I δ → acc.length + ds.length ≤ 16777216 → (∀ d ∈ ds, ∀ δ, I δ → ∃ δ', f (h d) δ = some δ' ∧ ∃ δ2, tests δ' μ = .ok (p d) δ2 μ ∧ (p d = false → I (wipeD δ2 vs)) ∧ (p d = true → ∃ δ3, elt δ2 μ = .ok (.fr (q d)) δ3 μ ∧ I (wipeD δ3 vs))) →
      ∃ δ', lcDY nb f tests elt vs (ds.map h) acc δ μ = .ok (.own (.lst (acc ++ (ds.filter p).map q))) δ' μ ∧ I δ'
  | [], acc, δ, hI, _, _ => ⟨δ, by rw [List.map_nil]; unfold lcDY; rw [if_pos hb]; simp, hI⟩
  | d :: ds, acc, δ, hI, hl, hh => by
    obtain ⟨δ', e1, δ2, e2, e0, e3⟩ := hh d List.mem_cons_self δ hI
    rw [List.map_cons]
    unfold lcDY
    rw [if_pos hb]
    simp only [e1]
    rw [e2]
    show ∃ δ', (if p d = true then _ else _) = _ ∧ _
    cases hp : p d with
    | false =>
      rw [if_neg Bool.false_ne_true]
      obtain ⟨δf, ef, If⟩ := lcDY_map hb h p q I ds acc (wipeD δ2 vs) (e0 hp) (by simp only [List.length_cons] at hl; omega) fun x hx => hh x (List.mem_cons_of_mem _ hx)
      exact ⟨δf, by rw [ef, List.filter_cons_of_neg (by simp [hp])], If⟩
    | true =>
      obtain ⟨δ3, e4, I3⟩ := e3 hp
      rw [if_pos rfl, e4]
      show ∃ δ', (if acc.length < 16777216 then _ else _) = _ ∧ _
      rw [if_pos (by simp only [List.length_cons] at hl; omega)]
      obtain ⟨δf, ef, If⟩ := lcDY_map hb h p q I ds (acc ++ [q d]) (wipeD δ3 vs) I3 (by simp only [List.length_cons, List.length_append, List.length_nil] at hl ⊢; omega) fun x hx => hh x (List.mem_cons_of_mem _ hx)
      exact ⟨δf, by rw [show (Slot.fr (q d)).d = q d from rfl, ef, List.filter_cons_of_pos (by simp [hp])]; simp, If⟩
end FL
namespace L09
open PySem L2 FL
theorem en : m__law_next = mNext := rfl
theorem ep : m__law_pick = mPick := rfl
theorem eT : m_iTerm = S.m_iTerm at_ := rfl
theorem eX : m_iPrefix = S.m_iPrefix at_ := rfl
theorem eR : m_iRange = S.m_iRange at_ := rfl
theorem eE : m_iEverything = S.m_iEverything at_ := rfl
theorem eQ : m_Query___eq__ = S.m_Query___eq__ at_ isa isb := rfl
structure Cl (c kind : String) : Prop where
  A : QAt at_ c kind
  p : pt_parts c "parts" = some m_Query_parts
  s : pt_size c "size" = some m_Query_size
  l : pt_levels c "levels" = some m_Query_levels
  y : gy_walk c "walk" = some (gm_walk, 3)
  i : c ∈ eqcs
  q : isa c "Query" = some true
  k : kind ∈ kinds9
  n : kind ≠ "some"
theorem cT : Cl "Term" "term" := ⟨⟨by kernel_rfl, by kernel_rfl, by kernel_rfl, by kernel_rfl, by kernel_rfl, by kernel_rfl, by kernel_rfl⟩, by kernel_rfl, by kernel_rfl, by kernel_rfl, by kernel_rfl, by decide +kernel, by kernel_rfl, by decide +kernel, by decide +kernel⟩
theorem cX : Cl "Prefix" "prefix" := ⟨⟨by kernel_rfl, by kernel_rfl, by kernel_rfl, by kernel_rfl, by kernel_rfl, by kernel_rfl, by kernel_rfl⟩, by kernel_rfl, by kernel_rfl, by kernel_rfl, by kernel_rfl, by decide +kernel, by kernel_rfl, by decide +kernel, by decide +kernel⟩
theorem cR : Cl "Range" "range" := ⟨⟨by kernel_rfl, by kernel_rfl, by kernel_rfl, by kernel_rfl, by kernel_rfl, by kernel_rfl, by kernel_rfl⟩, by kernel_rfl, by kernel_rfl, by kernel_rfl, by kernel_rfl, by decide +kernel, by kernel_rfl, by decide +kernel, by decide +kernel⟩
theorem cE : Cl "Everything" "everything" := ⟨⟨by kernel_rfl, by kernel_rfl, by kernel_rfl, by kernel_rfl, by kernel_rfl, by kernel_rfl, by kernel_rfl⟩, by kernel_rfl, by kernel_rfl, by kernel_rfl, by kernel_rfl, by decide +kernel, by kernel_rfl, by decide +kernel, by decide +kernel⟩
theorem aTf : at_ "Term" "field" = .fld := by kernel_rfl
theorem aTw : at_ "Term" "word" = .fld := by kernel_rfl
theorem aXf : at_ "Prefix" "field" = .fld := by kernel_rfl
theorem aXs : at_ "Prefix" "start" = .fld := by kernel_rfl
theorem aRf : at_ "Range" "field" = .fld := by kernel_rfl
theorem aRl : at_ "Range" "low" = .fld := by kernel_rfl
theorem aRh : at_ "Range" "high" = .fld := by kernel_rfl
theorem eqm_of {c : String} (h : c ∈ eqcs) : eqm c = some m_Query___eq__ := if_pos h
structure Lf (x : D) : Prop where
  ex : ∃ c ks vs kind key, x = .ins c ks vs ∧ Cl c kind ∧ getF ks vs "own_parts" = some (.tup []) ∧ getF ks vs "own_size" = some (.int 1) ∧ getF ks vs "own_levels" = some (.int 0) ∧ getF ks vs "parts" = none ∧ getF ks vs "size" = none ∧ getF ks vs "levels" = none ∧ getF ks vs "walk" = none ∧ qkD at_ x = .tup key ∧ Sh 3 10000 (.tup key)
  v : QV at_ isa x
section
variable {μ : Mem} {tb : Nat → Addr}
theorem eq_self {x : D} (h : Lf x) : mEqO eqm eqcs eqts false (mV 1) (mV 0) [some (.fr x), some (.fr x)] μ = .ok (.fr (.bl true)) [some (.fr x), some (.fr x)] μ := by
  have hq : m_Query___eq__ [x, x] μ = .ok (.fr (.bl true)) μ := by
    rw [eQ]
    refine eq_sp h.v h.v ?_
    obtain ⟨c, ks, vs, kind, key, -, -, -, -, -, -, -, -, -, e, s⟩ := h.ex
    rw [e]
    exact s.same false (by decide) rfl
  obtain ⟨c, ks, vs, kind, key, rfl, C, -⟩ := h.ex
  unfold mEqO
  simp [C.i, sideOk, eqm_of C.i, hq]
theorem walk_one {x : D} (h : Lf x) : GS0 gm_walk [x] (startD 3 [x]) := by
  obtain ⟨c, ks, vs, kind, key, rfl, C, g1, -⟩ := h.ex
  have hA := C.A.p
  refine ⟨[some (.fr (.ins c ks vs)), some (.own (.lst [.ins c ks vs])), none], fun μ => by simp [gm_walk, startD], ?_⟩
  refine ⟨[some (.fr (.ins c ks vs)), some (.own (.lst [.ins c ks vs])), none], [some (.fr (.ins c ks vs)), some (.own (.lst [])), some (.fr (.ins c ks vs))], [some (.fr (.ins c ks vs)), some (.own (.lst [])), some (.fr (.ins c ks vs))], [some (.fr (.ins c ks vs)), some (.own (.lst [])), some (.fr (.ins c ks vs))], fun μ => ?_, fun μ => ?_, fun μ => ?_, fun i o e => ?_, fun μ => ?_, [some (.fr (.ins c ks vs)), some (.own (.lst [])), some (.fr (.ins c ks vs))], fun μ => ?_, fun i o e => ?_⟩
  · have e := eqN_nl true [D.ins c ks vs]
    simp at e
    simp [gm_walk, e]
  · simp [gm_walk, gPop0]
  · simp [gm_walk]
  · match i, e with
    | 0, e => simp at e
    | 1, e => simp at e; exact ⟨_, e.symm⟩
    | 2, e => simp at e
    | i + 3, e => simp at e
  · simp [gm_walk, gExtT, mRv, gRv, hA, g1]
  · have e := eqN_nl true []
    simp at e
    simp [gm_walk, e]
  · match i, e with
    | 0, e => simp at e
    | 1, e => simp at e; exact ⟨_, e.symm⟩
    | 2, e => simp at e
    | i + 3, e => simp at e
theorem bare_sp {x : D} (h : Lf x) (hb : tabLow (nbT tb 2) μ = true) : m__law_is_bare tb [x] μ = .ok (.fr (.bl true)) μ := by
  have hw : mItY gy_walk "walk" (.v 0) [some (.fr x), none] μ = .ok [x] [some (.fr x), none] μ := by
    have w := walk_one h
    obtain ⟨c, ks, vs, kind, key, rfl, C, -, -, -, -, -, -, g7, -⟩ := h.ex
    exact mItY_ok (r := .i 0) (d := .ins c ks vs) (c := c) (ks := ks) (vs := vs) (by rw [ev_v]; rfl) (by rw [ec_sf2]; rfl) rfl g7 C.y w
  obtain ⟨δ', hl, rfl⟩ := lcDY_map (nb := nbT tb 2) (f := tgV 1) (tests := mYes) (elt := e1__law_is_bare tb) (vs := [1]) (μ := μ) hb (fun x : D => x) (fun _ => true) (fun _ => .bl true) (fun δ => δ = [some (.fr x), none]) [x] [] [some (.fr x), none] rfl (by simp) (fun d hd δ hδ => by
    subst hδ
    rw [List.mem_singleton.mp hd]
    exact ⟨[some (.fr x), some (.fr x)], rfl, [some (.fr x), some (.fr x)], rfl, by simp, fun _ => ⟨_, eq_self h, rfl⟩⟩)
  have hc : mLcY (nbT tb 2) (mItY gy_walk "walk" (.v 0)) (tgV 1) mYes (e1__law_is_bare tb) [1] [some (.fr x), none] μ = .ok (.own (.lst [.bl true])) [some (.fr x), none] μ := by
    unfold mLcY
    rw [hw]
    exact hl
  have hr : gRepr [.lst [.tup [], .int 1, .int 0, .lst [.bl true]]] = some (.fr (.str (lit "[(), 1, 0, [True]]"))) := by kernel_rfl
  obtain ⟨c, ks, vs, kind, key, rfl, C, g1, g2, g3, g4, g5, g6, g7, -⟩ := h.ex
  rw [show m__law_is_bare tb = mFn 2 (b__law_is_bare tb) from rfl, ev_Fn]
  unfold b__law_is_bare
  generalize lit "[(), 1, 0, [True]]" = R at *
  generalize nbT tb 2 = nb at *
  simp [startD, C.p, C.s, C.l, C.A.p, C.A.s, C.A.l, g1, g2, g3, g4, g5, g6, m_Query_parts, b_Query_parts, m_Query_size, b_Query_size, m_Query_levels, b_Query_levels, hc, hr]
end
end L09
namespace L09
open PySem L2 FL
structure El (d : D) : Prop where
  s : shortD d = true
  a : ∀ x, d = .str x → ∀ c ∈ x, c < 128
  h : Sh 1 200 d
abbrev DG : Tx := lit "0123456789"
theorem ws_cat : FL.LT ++ DG = WS := by decide +kernel
def isRn (s : Tx) (n : Int) : D → Bool
  | .str x => decide (Made x s n)
  | _ => false
theorem isRn_nm {d : D} : isRn FL.LT 12 d = isNm d := by cases d <;> rfl
theorem isRn_wd {d : D} : isRn WS 20 d = isWd d := by cases d <;> rfl
def isBd : D → Bool
  | .non => true
  | d => inI (-1000000000) 1000000000 d
def Fb (d : D) : Prop := flatD d = true ∧ ∀ ks vs, d ≠ .dct ks vs
theorem isBd_ne {d : D} (h : d ≠ .non) : isBd d = inI (-1000000000) 1000000000 d := by cases d <;> first | rfl | exact absurd rfl h
theorem bd_of {d : D} (h : isBd d = true) : ∃ b, d = bdD b ∧ Bd b := by
  cases d <;> first | (cases h; done) | exact ⟨none, rfl, trivial⟩ | skip
  rename_i i
  exact ⟨some i, rfl, of_decide_eq_true (p := -1000000000 ≤ i ∧ i ≤ 1000000000) h⟩
theorem Sh.bd {b : Option Int} (h : Bd b) : Sh 0 200 (bdD b) := by
  cases b with
  | none => exact ⟨.none, rfl, by simp [PyData.showable], by simp [PyData.hasDict], by simp [PyData.canLay0], by simp [PyData.depth], by decide +kernel⟩
  | some i =>
    have h1 := int_text2 h.1 h.2
    have e : (intT i).length = (PyData.shown (.int i)).length := by
      rw [← toS_len, intT_toS]
      rfl
    refine ⟨.int i, rfl, ?_, by simp [PyData.hasDict], by simp [PyData.canLay0], by simp [PyData.depth], by omega⟩
    simp [PyData.showable]
    have := h1.2
    omega
section
variable {μ : Mem} {tb : Nat → Addr} {at_ : String → String → Att}
theorem run_sp {d : D} {s : Tx} {n : Int} (h : El d) (hn : n ≤ 100) : m__law_is_run [d, .str s, .int n] μ = .ok (.fr (.bl (isRn s n d))) μ := by
  have e1 := isi_st (shortD.flat h.s)
  have el := look_flatD (μ := μ) (shortD.flat h.s)
  by_cases hs : isStrD d = true
  · cases d <;> first | (cases hs; done) | skip
    rename_i x
    have hx := of_decide_eq_true (p := x.length < 16777216) h.s
    have hl : x.length ≤ 16777216 := by omega
    have hc := lcD_pure (f := tgV 3) (t := t1__law_is_run) (m := e2__law_is_run) (vs := [3]) (δ := [some (.fr (.str x)), some (.fr (.str s)), some (.fr (.int n)), none]) (μ := μ) (fun d => match d with | .str [c] => if c ∈ s then none else some (.str [c]) | _ => none) (ds := chars x) (acc := []) (fun d hd => by
      obtain ⟨c, _, rfl⟩ := List.mem_map.mp hd
      by_cases hc : c ∈ s <;> simp [lc1, t1__law_is_run, e2__law_is_run, hc]) (by simp [chars]; exact hx)
    have hfm : (chars x).filterMap (fun d => match d with | .str [c] => if c ∈ s then none else some (.str [c]) | _ => none) = ((x.filter fun c => decide (c ∉ s)).map fun c => [c]).map D.str := by
      clear hl hx e1 el h hs hc
      induction x with
      | nil => rfl
      | cons c x ih =>
        show List.filterMap _ (D.str [c] :: chars x) = _
        by_cases hc : c ∈ s
        · rw [List.filterMap_cons_none (by simp [hc]), ih, List.filter_cons_of_neg (by simp [hc])]
        · rw [List.filterMap_cons_some (b := .str [c]) (by simp [hc]), ih, List.filter_cons_of_pos (by simp [hc])]
          rfl
    rw [List.nil_append, hfm] at hc
    have hq := eq_strs false (xs := (x.filter fun c => decide (c ∉ s)).map fun c => [c]) (ys := []) (fun y hy c hcy => by
      obtain ⟨c', h1, rfl⟩ := List.mem_map.mp hy
      rw [List.mem_singleton.mp hcy]
      exact h.a x rfl c' (List.mem_filter.mp h1).1) (by simp)
    have hb : decide ((x.filter fun c => decide (c ∉ s)).map (fun c => [c]) = []) = decide (∀ c ∈ x, c ∈ s) := by
      rw [decide_eq_decide, List.map_eq_nil_iff, List.filter_eq_nil_iff]
      simp
    rw [hb] at hq
    simp only [List.map_nil] at hq
    generalize List.map D.str (List.map (fun c => [c]) (List.filter (fun c => decide (c ∉ s)) x)) = L at hc hq
    by_cases h1 : (1 : Int) ≤ x.length
    · by_cases h2 : (x.length : Int) ≤ n
      · have e : isRn s n (.str x) = decide (∀ c ∈ x, c ∈ s) := by
          show decide (Made x s n) = _
          rw [decide_eq_decide]
          exact ⟨fun w => w.2.2, fun w => ⟨by omega, h2, w⟩⟩
        rw [e]
        simp [m__law_is_run, b__law_is_run, startD, e1, isStrD, hl, h1, h2, hc, hq]
      · rw [show isRn s n (.str x) = false from decide_eq_false fun z : Made x s n => h2 z.2.1]
        simp [m__law_is_run, b__law_is_run, startD, e1, isStrD, hl, h1, h2]
    · rw [show isRn s n (.str x) = false from decide_eq_false fun z : Made x s n => h1 (by have := z.1; omega)]
      simp [m__law_is_run, b__law_is_run, startD, e1, isStrD, hl, h1]
  · have hs : isStrD d = false := by simpa using hs
    rw [hs] at e1
    have hw : isRn s n d = false := by cases d <;> first | rfl | (cases hs; done)
    rw [hw]
    simp [m__law_is_run, b__law_is_run, startD, e1, el]
theorem isbd_sp {d : D} (hf : Fb d) : m__law_is_bound [d] μ = .ok (.fr (.bl (isBd d))) μ := by
  obtain ⟨h, hn⟩ := hf
  have e1 := isi_int h
  have e2 := isi_bl h
  have pw : FL.gPow (.int 10) (.int 9) = some (.fr (.int 1000000000)) := by simp [gPow, gInt]
  cases d <;> first | (cases h; done) | (exact absurd rfl (hn _ _)) | skip
  case int i =>
    by_cases h1 : -1000000000 ≤ i <;> by_cases h2 : i ≤ 1000000000 <;> simp [m__law_is_bound, b__law_is_bound, startD, e1, e2, isIntD, isBlD, isBd, inI, h1, h2, pw]
  all_goals simp [m__law_is_bound, b__law_is_bound, startD, e1, e2, isIntD, isBlD, isBd, inI]
theorem refused {act : Mem → OutF} {v : D} {a : String} {μ' : Mem} (h : act μ = .exc ⟨"BadQuery", a, v⟩ μ') : m__law_refused act μ = .ok (.fr (.bl true)) μ' := by
  simp [m__law_refused, mHelp, h, sub__law_refused, subl__law_refused, subT, r__law_refused]
  rfl
theorem term_no {d e : D} (hd : shortD d = true) (he : shortD e = true) (n : isNm d = false ∨ isWd e = false) : ∃ t, mkF "Term" (S.m_iTerm at_) [d, e] μ = .exc (BQ t) μ := by
  cases hn : isNm d with
  | false =>
    have k := need_field_no (μ := newM μ "Term" [] []) hd hn
    exact ⟨lit "not a field name", mkF_exc (by simp [S.m_iTerm, S.b_iTerm, startD, k]; rfl) (by simp)⟩
  | true =>
    have hw : isWd e = false := by rcases n with n | n; · rw [hn] at n; cases n
                                   · exact n
    have k1 := need_field_sp (μ := newM μ "Term" [] []) hd
    rw [if_pos hn] at k1
    have k := need_word_no (μ := newM μ "Term" [] []) he hw
    exact ⟨lit "not a word", mkF_exc (by simp [S.m_iTerm, S.b_iTerm, startD, k1, k]; rfl) (by simp)⟩
theorem pref_no {d e : D} (hd : shortD d = true) (he : shortD e = true) (n : isNm d = false ∨ isWd e = false) : ∃ t, mkF "Prefix" (S.m_iPrefix at_) [d, e] μ = .exc (BQ t) μ := by
  cases hn : isNm d with
  | false =>
    have k := need_field_no (μ := newM μ "Prefix" [] []) hd hn
    exact ⟨lit "not a field name", mkF_exc (by simp [S.m_iPrefix, S.b_iPrefix, startD, k]; rfl) (by simp)⟩
  | true =>
    have hw : isWd e = false := by rcases n with n | n; · rw [hn] at n; cases n
                                   · exact n
    have k1 := need_field_sp (μ := newM μ "Prefix" [] []) hd
    rw [if_pos hn] at k1
    have k := need_word_no (μ := newM μ "Prefix" [] []) he hw
    exact ⟨lit "not a word", mkF_exc (by simp [S.m_iPrefix, S.b_iPrefix, startD, k1, k]; rfl) (by simp)⟩
theorem rg_turn {d : D} {a0 a1 a2 a3 a4 : Option FL.Slot} (hf : Fb d) : (turnD (tgV 4) S.f1_iRange) d [a0, a1, a2, a3, a4] μ = if isBd d = true then .nx [a0, a1, a2, a3, some (.fr d)] μ else .exc (BQ (lit "a bound is neither None nor an integer of at most ten digits")) [a0, a1, a2, a3, some (.fr d)] μ := by
  have e := int_sp (μ := μ) (lo := -1000000000) (hi := 1000000000) hf.1
  by_cases hz : d = .non
  · subst hz
    simp [S.f1_iRange, isBd]
  · rw [← isBd_ne hz] at e
    obtain ⟨h, hn⟩ := hf
    cases hb : isBd d <;> rw [hb] at e <;> cases d <;> first | (exact absurd rfl hz) | (exact absurd rfl (hn _ _)) | (cases h; done) | simp [S.f1_iRange, e]
theorem range_no {d a b : D} (hd : shortD d = true) (ha : Fb a) (hb : Fb b) (n : isNm d = false ∨ isBd a = false ∨ isBd b = false) : ∃ t, mkF "Range" (S.m_iRange at_) [d, a, b] μ = .exc (BQ t) μ := by
  cases hn : isNm d with
  | false =>
    have k := need_field_no (μ := newM μ "Range" [] []) hd hn
    exact ⟨lit "not a field name", mkF_exc (by simp [S.m_iRange, S.b_iRange, startD, k]; rfl) (by simp)⟩
  | true =>
    have hw : isBd a = false ∨ isBd b = false := by rcases n with n | n; · rw [hn] at n; cases n
                                                    · exact n
    have k1 := need_field_sp (μ := newM μ "Range" [] []) hd
    rw [if_pos hn] at k1
    suffices key : S.m_iRange at_ [.obj μ.length, d, a, b] (newM μ "Range" [] []) = .exc (BQ (lit "a bound is neither None nor an integer of at most ten digits")) (newM μ "Range" [] []) from ⟨_, mkF_exc key (by simp)⟩
    generalize newM μ "Range" [] [] = μ1 at *
    have t1 := fun a4 => rg_turn (μ := μ1) (a0 := some (.fr (.obj μ.length))) (a1 := some (.fr d)) (a2 := some (.fr a)) (a3 := some (.fr b)) (a4 := a4) ha
    have t2 := fun a4 => rg_turn (μ := μ1) (a0 := some (.fr (.obj μ.length))) (a1 := some (.fr d)) (a2 := some (.fr a)) (a3 := some (.fr b)) (a4 := a4) hb
    have hf : ∃ δ', forD (turnD (tgV 4) S.f1_iRange) [a, b] [some (.fr (.obj μ.length)), some (.fr d), some (.fr a), some (.fr b), none] μ1 = .exc (BQ (lit "a bound is neither None nor an integer of at most ten digits")) δ' μ1 := by
      show ∃ δ', ((turnD (tgV 4) S.f1_iRange) a _ μ1).loop _ = _
      rw [t1]
      cases h1 : isBd a with
      | false => exact ⟨_, rfl⟩
      | true =>
        have h2 : isBd b = false := by rcases hw with z | z; · rw [h1] at z; cases z
                                       · exact z
        rw [if_pos rfl]
        show ∃ δ', ((turnD (tgV 4) S.f1_iRange) b _ μ1).loop _ = _
        rw [t2, h2]
        exact ⟨_, rfl⟩
    obtain ⟨δ', hf⟩ := hf
    simp [S.m_iRange, S.b_iRange, startD, k1, hf]
end
end L09
namespace L09
open PySem L2 FL
theorem Sh.bl {b : Bool} : Sh 0 5 (.bl b) := ⟨.bool b, rfl, by simp [PyData.showable], by simp [PyData.hasDict], by simp [PyData.canLay0], by simp [PyData.depth], by cases b <;> decide +kernel⟩
theorem Sh.lit' {x : String} (h1 : ∀ c ∈ lit x, c < 128) (h2 : (PyData.shown (.str (toS (lit x)))).length ≤ 200) : Sh 1 200 (.str (lit x)) :=
  ⟨.str (toS (lit x)), rfl, by simp [PyData.showable], by simp [PyData.hasDict], by simp only [PyData.canLay0]; exact strOk_ascii fun c hc => h1 c hc, by simp [PyData.depth], h2⟩
theorem Sh.nil : Sh 1 200 (.tup []) := (Sh.tup (d := 0) (n := 0) fun z hz => by simp at hz).mono (by decide) (by decide)
theorem key_sh {t : D} {vals : List D} (ht : Sh 1 200 t) (hv : ∀ v ∈ vals, Sh 1 200 v) (hl : vals.length ≤ 3) : Sh 3 10000 (.tup [t, .tup vals, .tup []]) := by
  refine (Sh.tup (d := 2) (n := 1300) fun y hy => ?_).mono (by decide) (by simp)
  simp only [List.mem_cons, List.not_mem_nil, or_false] at hy
  rcases hy with rfl | rfl | rfl
  · exact ht.mono (by decide) (by decide)
  · exact (Sh.tup (d := 1) (n := 200) hv).mono (by decide) (by omega)
  · exact Sh.nil.mono (by decide) (by decide)
theorem lf_term {f w : Tx} (hf : El (.str f)) (hw : El (.str w)) : Lf (termD f w) :=
  ⟨⟨"Term", _, _, "term", [.str (lit "term"), .tup [.str f, .str w], .tup []], rfl, cT, rfl, rfl, rfl, rfl, rfl, rfl, rfl, by simp [qkD, dF, cT.A.k], key_sh (Sh.lit' (by decide +kernel) (by decide +kernel)) (by simpa using ⟨hf.h, hw.h⟩) (by simp)⟩,
    leaf_qv cT.A cT.q cT.k cT.n (fun k => by simp) (fun k => by simp) (by kernel_rfl)⟩
theorem lf_pref {f w : Tx} (hf : El (.str f)) (hw : El (.str w)) : Lf (prefD f w) :=
  ⟨⟨"Prefix", _, _, "prefix", [.str (lit "prefix"), .tup [.str f, .str w], .tup []], rfl, cX, rfl, rfl, rfl, rfl, rfl, rfl, rfl, by simp [qkD, dF, cX.A.k], key_sh (Sh.lit' (by decide +kernel) (by decide +kernel)) (by simpa using ⟨hf.h, hw.h⟩) (by simp)⟩,
    leaf_qv cX.A cX.q cX.k cX.n (fun k => by simp) (fun k => by simp) (by kernel_rfl)⟩
theorem lf_rang {f : Tx} {a b : Option Int} (hf : El (.str f)) (ha : Bd a) (hb : Bd b) : Lf (rangD f a b) :=
  ⟨⟨"Range", _, _, "range", [.str (lit "range"), .tup [.str f, bdD a, bdD b], .tup []], rfl, cR, rfl, rfl, rfl, rfl, rfl, rfl, rfl, by simp [qkD, dF, cR.A.k], key_sh (Sh.lit' (by decide +kernel) (by decide +kernel)) (by simpa using ⟨hf.h, (Sh.bd ha).mono (by decide) (by decide), (Sh.bd hb).mono (by decide) (by decide)⟩) (by simp)⟩,
    leaf_qv cR.A cR.q cR.k cR.n (fun k => by simp [bd_lb]) (fun k => by simp [bd_lb]) (by cases a <;> cases b <;> rfl)⟩
theorem lf_ever : Lf everD :=
  ⟨⟨"Everything", _, _, "everything", [.str (lit "everything"), .tup [], .tup []], rfl, cE, rfl, rfl, rfl, rfl, rfl, rfl, rfl, by simp [qkD, dF, cE.A.k], key_sh (Sh.lit' (by decide +kernel) (by decide +kernel)) (by simp) (by simp)⟩,
    leaf_qv cE.A cE.q cE.k cE.n (fun k => by simp) (fun k => by simp) (by kernel_rfl)⟩
section
variable {μ : Mem} {tb : Nat → Addr}
abbrev TB0 (tb : Nat → Addr) : Own := .tab (tb 0) "_law_words_right.<locals>.<lambda>"
abbrev TB1 (tb : Nat → Addr) : Own := .tab (tb 1) "_law_ranges_right.<locals>.<lambda>"
structure Tb (tb : Nat → Addr) (μ : Mem) : Prop where
  t0 : μ[0]? = some (TB0 tb)
  t1 : μ[1]? = some (TB1 tb)
  lo : tabLow (nbT tb 2) μ = true
theorem words_sp {d e : D} (hd : El d) (he : El e) (ht : Tb tb μ) : m__law_words_right tb [d, e] μ = .ok (.fr (.bl true)) μ := by
  have r1 := run_sp (μ := μ) (s := FL.LT) (n := 12) hd (by decide)
  have r2 := run_sp (μ := μ) (s := WS) (n := 20) he (by decide)
  rw [isRn_nm] at r1
  rw [isRn_wd] at r2
  have t0 := ht.t0
  have hws : gAdd (.str FL.LT) (.str (lit "0123456789")) = some (.fr (.str WS)) := by
    rw [ev_addS, if_pos (by decide +kernel), ws_cat]
  rw [show m__law_words_right tb = mFn 4 (b__law_words_right tb) from rfl, ev_Fn]
  unfold b__law_words_right
  generalize lit "0123456789" = dg at *
  rw [ev_Seq]
  have h1 : mSet 2 (mD (.str (lit "abcdefghijklmnopqrstuvwxyz"))) (startD 4 [d, e]) μ = .nx [some (.fr d), some (.fr e), some (.fr (.str FL.LT)), none] μ := by
    simp [startD]
  rw [h1, ev_s1]
  generalize FL.LT = lt at *
  by_cases hb : isNm d = false ∨ isWd e = false
  · obtain ⟨t, k⟩ := term_no (μ := μ) (at_ := at_) hd.s he.s hb
    obtain ⟨t', k'⟩ := pref_no (μ := μ) (at_ := at_) hd.s he.s hb
    have q : m__law_refused (actOf (mCallK (mkF "Term" m_iTerm) [.pos 0, .pos 1] [(mV 0), (mV 1)] [] []) [some (.fr d), some (.fr e), some (.fr (.str lt)), none]) μ = .ok (.fr (.bl true)) μ := refused (a := "reason") (v := .str t) (by simp [hide, eT, k])
    have q' : m__law_refused (actOf (mCallK (mkF "Prefix" m_iPrefix) [.pos 0, .pos 1] [(mV 0), (mV 1)] [] []) [some (.fr d), some (.fr e), some (.fr (.str lt)), none]) μ = .ok (.fr (.bl true)) μ := refused (a := "reason") (v := .str t') (by simp [hide, eX, k'])
    rcases hb with hb | hb
    · simp [r1, r2, hb, hws, t0, q, q', -ev_addS]
    · cases hg : isNm d <;> simp [hb, hg, r1, r2, hws, t0, q, q', -ev_addS]
  · have hb1 : isNm d = true := by cases hg : isNm d <;> simp [hg] at hb ⊢
    have hb2 : isWd e = true := by cases hg : isWd e <;> simp [hg] at hb ⊢
    cases d <;> first | (cases hb1; done) | skip
    cases e <;> first | (cases hb2; done) | skip
    rename_i f w
    have k := term_ok (μ := μ) cT.A aTf aTw (of_decide_eq_true (p := Nm f) hb1) (of_decide_eq_true (p := Wd w) hb2)
    have k' := pref_ok (μ := μ) cX.A aXf aXs (of_decide_eq_true (p := Nm f) hb1) (of_decide_eq_true (p := Wd w) hb2)
    have b1 := bare_sp (μ := μ) (tb := tb) (lf_term hd he) ht.lo
    have b2 := bare_sp (μ := μ) (tb := tb) (lf_pref hd he) ht.lo
    have q := eq_strs true (xs := [f, w]) (ys := [f, w]) (by simpa using ⟨hd.a f rfl, he.a w rfl⟩) (by simpa using ⟨hd.a f rfl, he.a w rfl⟩)
    simp only [List.map_cons, List.map_nil, decide_true] at q
    simp [r1, r2, hb1, hb2, hws, k, k', eT, eX, forD, f1__law_words_right, f2__law_words_right, aTf, aTw, aXf, aXs, b1, b2, q, -ev_addS]
theorem ranges_sp {d a b : D} (hd : El d) (ha : Fb a) (hb : Fb b) (ht : Tb tb μ) : m__law_ranges_right tb [d, a, b] μ = .ok (.fr (.bl true)) μ := by
  have r1 := run_sp (μ := μ) (s := FL.LT) (n := 12) hd (by decide)
  rw [isRn_nm] at r1
  have r2 := isbd_sp (μ := μ) ha
  have r3 := isbd_sp (μ := μ) hb
  have t1 := ht.t1
  rw [show m__law_ranges_right tb = mFn 5 (b__law_ranges_right tb) from rfl, ev_Fn]
  unfold b__law_ranges_right
  rw [ev_Seq]
  have h1 : mSet 3 (mCall m__law_is_run [(mV 0), (mD (.str (lit "abcdefghijklmnopqrstuvwxyz"))), (mD (.int 12))] []) (startD 5 [d, a, b]) μ = .nx [some (.fr d), some (.fr a), some (.fr b), some (.fr (.bl (isNm d))), none] μ := by
    simp [startD, r1]
  rw [h1, ev_s1]
  by_cases hn : isNm d = false ∨ isBd a = false ∨ isBd b = false
  · obtain ⟨t, k⟩ := range_no (μ := μ) (at_ := at_) hd.s ha hb hn
    have q : m__law_refused (actOf (mCallK (mkF "Range" m_iRange) [.pos 0, .pos 1, .pos 2] [(mV 0), (mV 1), (mV 2)] [] []) [some (.fr d), some (.fr a), some (.fr b), some (.fr (.bl (isNm d))), none]) μ = .ok (.fr (.bl true)) μ := refused (a := "reason") (v := .str t) (by simp [hide, eR, k])
    cases hg : isNm d <;> cases hg2 : isBd a <;> cases hg3 : isBd b <;> rw [hg] at q <;> simp [hg, hg2, hg3] at hn <;> simp [hg, hg2, hg3, r2, r3, t1, q]
  · have hb1 : isNm d = true := by cases hg : isNm d <;> simp [hg] at hn ⊢
    have hb2 : isBd a = true := by cases hg : isBd a <;> simp [hg] at hn ⊢
    have hb3 : isBd b = true := by cases hg : isBd b <;> simp [hg] at hn ⊢
    rw [hb2] at r2
    rw [hb3] at r3
    obtain ⟨a, rfl, ha'⟩ := bd_of hb2
    obtain ⟨b, rfl, hb'⟩ := bd_of hb3
    cases d <;> first | (cases hb1; done) | skip
    rename_i f
    have k := range_ok (μ := μ) cR.A aRf aRl aRh (of_decide_eq_true (p := Nm f) hb1) ha' hb'
    have b1 := bare_sp (μ := μ) (tb := tb) (lf_rang hd ha' hb') ht.lo
    obtain ⟨t, hr⟩ := Sh.rep (x := .lst [.str f, bdD a, bdD b]) (d := 2) (n := 610) ((Sh.lst (d := 1) (n := 200) fun y hy => by
      simp only [List.mem_cons, List.not_mem_nil, or_false] at hy
      rcases hy with rfl | rfl | rfl
      · exact hd.h
      · exact (Sh.bd ha').mono (by decide) (by decide)
      · exact (Sh.bd hb').mono (by decide) (by decide)).mono (by decide) (by simp)) (by decide) (by decide)
    rw [hb1]
    simp [r2, r3, k, eR, forD, f1__law_ranges_right, aRf, aRl, aRh, b1, hr]
end
end L09
namespace L09
open PySem L2 FL
abbrev goods : List D := [.str (lit "t"), .str (lit "title"), .str (lit "abcdefghijkl"), .str (lit "t"), .str (lit "n")]
abbrev odds : List D := [.str (lit ""), .str (lit "T"), .str (lit "t1"), .str (lit "a b"), .str (lit "abcdefghijklm"), .non, .int 5, .tup [.str (lit "t")], .lst [.str (lit "t")], .bl true]
abbrev words : List D := [.str (lit "a"), .str (lit "7"), .str (lit "b2"), .str (List.replicate 20 120), .str (lit "007"), .str (lit ""), .str (List.replicate 21 120), .str (lit "A"), .str (lit "a b"), .str (lit "a-b"), .non, .int 7, .tup [.str (lit "a")], .lst [.str (lit "a")], .bl true, .str (lit "a\n")]
abbrev bnds : List D := [.non, .int 0, .int 1000000000, .int (-1000000000), .int 7, .int 1000000001, .int (-1000000001), .bl true, .str (lit "1"), .tup [.int 1], .lst [], .int 10000000000000000000000000000000000000000]
theorem el_str {x : Tx} (h1 : x.length < 16777216) (h2 : ∀ c ∈ x, c < 128) (h3 : (PyData.shown (.str (toS x))).length ≤ 200) : El (.str x) :=
  ⟨decide_eq_true h1, fun y e => by cases e; exact h2, .str (toS x), rfl, by simp [PyData.showable], by simp [PyData.hasDict], by simp only [PyData.canLay0]; exact strOk_ascii fun c hc => h2 c hc, by simp [PyData.depth], h3⟩
theorem el_non : El .non := ⟨rfl, (fun x e => by cases e), .none, rfl, by simp [PyData.showable], by simp [PyData.hasDict], by simp [PyData.canLay0], by simp [PyData.depth], by decide +kernel⟩
theorem el_int {i : Int} (h0 : 0 ≤ i) (h1 : i < 100) : El (.int i) := ⟨rfl, (fun x e => by cases e), (Sh.int h0 h1).mono (by decide) (by decide)⟩
theorem el_bl {b : Bool} : El (.bl b) := ⟨rfl, (fun x e => by cases e), Sh.bl.mono (by decide) (by decide)⟩
theorem el_tup {c : Nat} (h0 : 97 ≤ c) (h1 : c < 123) : El (.tup [.str [c]]) := ⟨rfl, (fun x e => by cases e), (Sh.tup (d := 0) (n := 3) fun y hy => by rw [List.mem_singleton.mp hy]; exact Sh.letter h0 h1).mono (by decide) (by simp)⟩
theorem el_lst {c : Nat} (h0 : 97 ≤ c) (h1 : c < 123) : El (.lst [.str [c]]) := ⟨rfl, (fun x e => by cases e), (Sh.lst (d := 0) (n := 3) fun y hy => by rw [List.mem_singleton.mp hy]; exact Sh.letter h0 h1).mono (by decide) (by simp)⟩
theorem el_good {d : D} (h : d ∈ goods) : El d := by
  simp only [List.mem_cons, List.not_mem_nil, or_false] at h
  rcases h with rfl | rfl | rfl | rfl | rfl <;> exact el_str (by decide +kernel) (by decide +kernel) (by decide +kernel)
theorem el_odd {d : D} (h : d ∈ odds) : El d := by
  simp only [List.mem_cons, List.not_mem_nil, or_false] at h
  rcases h with rfl | rfl | rfl | rfl | rfl | rfl | rfl | rfl | rfl | rfl <;> first
    | exact el_str (by decide +kernel) (by decide +kernel) (by decide +kernel)
    | exact el_non | exact el_bl | exact el_int (by decide) (by decide) | exact el_tup (c := 116) (by decide) (by decide) | exact el_lst (c := 116) (by decide) (by decide)
theorem el_word {d : D} (h : d ∈ words) : El d := by
  simp only [List.mem_cons, List.not_mem_nil, or_false] at h
  rcases h with rfl | rfl | rfl | rfl | rfl | rfl | rfl | rfl | rfl | rfl | rfl | rfl | rfl | rfl | rfl | rfl <;> first
    | exact el_str (by decide +kernel) (by decide +kernel) (by decide +kernel)
    | exact el_non | exact el_bl | exact el_int (by decide) (by decide) | exact el_tup (c := 97) (by decide) (by decide) | exact el_lst (c := 97) (by decide) (by decide)
theorem fb_bnd {d : D} (h : d ∈ bnds) : Fb d := by
  simp only [List.mem_cons, List.not_mem_nil, or_false] at h
  rcases h with rfl | rfl | rfl | rfl | rfl | rfl | rfl | rfl | rfl | rfl | rfl | rfl <;> exact ⟨rfl, fun _ _ e => by cases e⟩
theorem el_name {d : D} (h : d ∈ goods ++ odds) : El d := by
  rcases List.mem_append.mp h with h | h
  · exact el_good h
  · exact el_odd h
section
variable {μ : Mem} {tb : Nat → Addr} {z : D} {j : Nat} {B : Int} {a5 a6 a7 a8 : Option FL.Slot} {s1 s2 s3 s4 : FL.Slot}
theorem Tb.fr {μ' : Mem} (h : Tb tb μ) (f : Fr j μ μ') (s : Src μ' j B) (hj : 2 ≤ j) : Tb tb μ' :=
  ⟨by rw [f.2 0 (by omega)]; exact h.t0, by rw [f.2 1 (by omega)]; exact h.t1, tabLow_fr h.lo f s⟩
def StT (z : D) (o : Option FL.Slot) (P : Option FL.Slot → Prop) (δ : FL.Loc) : Prop := ∃ s1 s2 s3 s4 b6 b7 b8, δ = [some (.fr z), some s1, some s2, some s3, some s4, o, b6, b7, b8] ∧ s1.d = .lst goods ∧ s2.d = .lst (goods ++ odds) ∧ s3.d = .lst words ∧ s4.d = .lst bnds ∧ P b7
theorem draw {δ : FL.Loc} (hst : StT z (some (.fr (.obj j))) (fun _ => True) δ) (h : Src μ j B) (hB : B + 100 ≤ 2 ^ 40) :
    Nx (mSet 7 (mCall m__law_pick [(mV 5), (mIf (mTb (m2 (gEq false) (.e (mCall m__law_next [(mV 5), (mD (.int 2))] [])) (.e (mD (.int 0))))) (mV 1) (mV 2))] []) δ μ) fun δ μ' => StT z (some (.fr (.obj j))) (fun b => ∃ d, b = some (.fr d) ∧ El d) δ ∧ Src μ' j (B + 10) ∧ Fr j μ μ' := by
  obtain ⟨s1, s2, s3, s4, b6, b7, b8, rfl, h1, h2, h3, h4, -⟩ := hst
  obtain ⟨r, μ1, e1, r0, r2, hs, hf⟩ := next_spec (n := 2) h (by omega) (by decide) (by decide)
  by_cases hr : r = 0
  · subst hr
    obtain ⟨x, μ3, hx, e3, hs3, hf3⟩ := pick_lst (xs := goods) hs (by omega) (by simp) (by simp)
    refine ⟨[some (.fr z), some (.fr (.lst goods)), some s2, some s3, some s4, some (.fr (.obj j)), b6, some (.fr x), b8], μ3, ?_, ⟨_, s2, s3, s4, _, _, _, rfl, rfl, h2, h3, h4, _, rfl, el_good hx⟩, hs3.mono (by omega), hf.trans hf3⟩
    generalize goods = G at *
    simp [en, ep, e1, e3, h1]
  · obtain ⟨x, μ3, hx, e3, hs3, hf3⟩ := pick_lst (xs := goods ++ odds) hs (by omega) (by simp) (by simp)
    refine ⟨[some (.fr z), some s1, some (.fr (.lst (goods ++ odds))), some s3, some s4, some (.fr (.obj j)), b6, some (.fr x), b8], μ3, ?_, ⟨s1, _, s3, s4, _, _, _, rfl, h1, rfl, h3, h4, _, rfl, el_name hx⟩, hs3.mono (by omega), hf.trans hf3⟩
    generalize goods ++ odds = G at *
    simp [en, ep, e1, e3, h2, hr]
theorem twords {δ : FL.Loc} (hst : StT z (some (.fr (.obj j))) (fun b => ∃ d, b = some (.fr d) ∧ El d) δ) (h : Src μ j B) (hB : B + 100 ≤ 2 ^ 40) (hj : 2 ≤ j) (ht : Tb tb μ) :
    Nx (mIfS (mNot (mTb (mCall (m__law_words_right tb) [(mV 7), (mCall m__law_pick [(mV 5), (mV 3)] [])] []))) (mRet (mD (.bl false)))
    mPass δ μ) fun δ μ' => StT z (some (.fr (.obj j))) (fun b => ∃ d, b = some (.fr d) ∧ El d) δ ∧ Src μ' j (B + 10) ∧ Fr j μ μ' := by
  obtain ⟨s1, s2, s3, s4, b6, b7, b8, rfl, h1, h2, h3, h4, d, rfl, hd⟩ := hst
  obtain ⟨x, μ3, hx, e3, hs3, hf3⟩ := pick_lst (xs := words) h (by omega) (by simp) (by simp)
  have k := words_sp (tb := tb) hd (el_word hx) (ht.fr hf3 hs3 hj)
  refine ⟨[some (.fr z), some s1, some s2, some (.fr (.lst words)), some s4, some (.fr (.obj j)), b6, some (.fr d), b8], μ3, ?_, ⟨s1, s2, _, s4, _, _, _, rfl, h1, h2, rfl, h4, _, rfl, hd⟩, hs3.mono (by omega), hf3⟩
  generalize words = G at *
  simp [ep, e3, h3, k]
theorem tranges {δ : FL.Loc} (hst : StT z (some (.fr (.obj j))) (fun b => ∃ d, b = some (.fr d) ∧ El d) δ) (h : Src μ j B) (hB : B + 100 ≤ 2 ^ 40) (hj : 2 ≤ j) (ht : Tb tb μ) :
    Nx (mIfS (mNot (mTb (mCall (m__law_ranges_right tb) [(mV 7), (mCall m__law_pick [(mV 5), (mV 4)] []), (mCall m__law_pick [(mV 5), (mV 4)] [])] []))) (mRet (mD (.bl false)))
    mPass δ μ) fun δ μ' => StT z (some (.fr (.obj j))) (fun _ => True) δ ∧ Src μ' j (B + 10) ∧ Fr j μ μ' := by
  obtain ⟨s1, s2, s3, s4, b6, b7, b8, rfl, h1, h2, h3, h4, d, rfl, hd⟩ := hst
  obtain ⟨x, μ3, hx, e3, hs3, hf3⟩ := pick_lst (xs := bnds) h (by omega) (by simp) (by simp)
  obtain ⟨y, μ4, hy, e4, hs4, hf4⟩ := pick_lst (xs := bnds) hs3 (by omega) (by simp) (by simp)
  have k := ranges_sp (tb := tb) hd (fb_bnd hx) (fb_bnd hy) ((ht.fr hf3 hs3 hj).fr hf4 hs4 hj)
  refine ⟨[some (.fr z), some s1, some s2, some s3, some (.fr (.lst bnds)), some (.fr (.obj j)), b6, some (.fr d), b8], μ4, ?_, ⟨s1, s2, s3, _, _, _, _, rfl, h1, h2, h3, rfl, trivial⟩, hs4.mono (by omega), hf3.trans hf4⟩
  generalize bnds = G at *
  simp [ep, e3, e4, h4, k]
theorem turn_sp {δ : FL.Loc} {t : Int} (hst : StT z (some (.fr (.obj j))) (fun _ => True) δ) (h : Src μ j B) (hB : B + 1000 ≤ 2 ^ 40) (hj : 2 ≤ j) (ht : Tb tb μ) :
    Nx (turnD (tgV 6) (f2_law tb) (.int t) δ μ) fun δ μ' => StT z (some (.fr (.obj j))) (fun _ => True) δ ∧ Src μ' j (B + 30) ∧ Fr j μ μ' := by
  obtain ⟨s1, s2, s3, s4, b6, b7, b8, rfl, h1, h2, h3, h4, -⟩ := hst
  rw [ev_turn, ev_tgV]
  show Nx (f2_law tb [some (.fr z), some s1, some s2, some s3, some s4, some (.fr (.obj j)), some (.fr (.int t)), b7, b8] μ) _
  unfold f2_law
  refine Nx.seq (draw ⟨s1, s2, s3, s4, _, _, _, rfl, h1, h2, h3, h4, trivial⟩ h (by omega)) fun δ1 μ1 ⟨c1, d1, f1⟩ => ?_
  refine Nx.seq (twords c1 d1 (by omega) hj (ht.fr f1 d1 hj)) fun δ2 μ2 ⟨c2, d2, f2⟩ => ?_
  exact (tranges c2 d2 (by omega) hj ((ht.fr f1 d1 hj).fr f2 d2 hj)).imp fun δ3 μ3 ⟨c3, d3, f3⟩ => ⟨c3, d3.mono (by omega), (f1.trans f2).trans f3⟩
theorem source_sp {δ : FL.Loc} {o : Option FL.Slot} (hst : StT z o (fun _ => True) δ) (h : Src μ j B) (hB : B + 1000 ≤ 2 ^ 39) (hj : 2 ≤ j) (ht : Tb tb μ) :
    Nx (turnD (tgV 5) (f3_law tb) (.obj j) δ μ) fun δ μ' => StT z (some (.fr (.obj j))) (fun _ => True) δ ∧ Src μ' j (B + 240) ∧ Fr j μ μ' := by
  obtain ⟨s1, s2, s3, s4, b6, b7, b8, rfl, h1, h2, h3, h4, -⟩ := hst
  rw [ev_turn, ev_tgV]
  show Nx (f3_law tb [some (.fr z), some s1, some s2, some s3, some s4, some (.fr (.obj j)), b6, b7, b8] μ) _
  have key := forNx (g := turnD (tgV 6) (f2_law tb)) (fun i δ μ' => StT z (some (.fr (.obj j))) (fun _ => True) δ ∧ Src μ' j (B + i * 30) ∧ Fr j μ μ') (ds := rangeD 0 8) (δ := [some (.fr z), some s1, some s2, some s3, some s4, some (.fr (.obj j)), b6, b7, b8]) (μ := μ)
    ⟨⟨s1, s2, s3, s4, _, _, _, rfl, h1, h2, h3, h4, trivial⟩, h.mono (by omega), .refl⟩ fun i d δ μ' hd ⟨c, hs, hf⟩ => by
      obtain ⟨rfl, hi⟩ := range_at hd
      exact (turn_sp c hs (by omega) hj (ht.fr hf hs hj)).imp fun δ μ2 ⟨x1, x2, x3⟩ => ⟨x1, x2.mono (by omega), hf.trans x3⟩
  have hF : f3_law tb [some (.fr z), some s1, some s2, some s3, some s4, some (.fr (.obj j)), b6, b7, b8] μ = forD (turnD (tgV 6) (f2_law tb)) (rangeD 0 8) [some (.fr z), some s1, some s2, some s3, some s4, some (.fr (.obj j)), b6, b7, b8] μ := by
    have hr : r1K 8 [some (.fr z), some s1, some s2, some s3, some s4, some (.fr (.obj j)), b6, b7, b8] μ = .ok (rangeD 0 8) _ μ := r1K_ok (by decide) (by decide)
    unfold f3_law
    rw [ev_For, ev_R1]
    simp only [ev_evs1, ev_evs0, ev_e, ev_D, ev_b1, ev_dfr, ev_ats1, ev_ats0, ev_at1, ev_lk2, hr, ev_t1]
  rw [hF]
  rw [range_len] at key
  exact key.imp fun δ μ2 ⟨x1, x2, x3⟩ => ⟨x1, x2.mono (by omega), x3⟩
theorem walk_srcT {g : D → MS} {K m : Nat} {I : FL.Loc → Prop} {T : Mem → Prop} {μ1 : Mem} {δ : FL.Loc} (hI : I δ) (hs : ∀ i : Nat, i < K → Src μ1 (m + i) 1000) (hT : T μ1)
    (step : ∀ (i : Nat) (δ : FL.Loc) (μ : Mem), i < K → I δ → Src μ (m + i) 1000 → T μ → Nx (g (.obj (m + i)) δ μ) fun δ' μ' => I δ' ∧ T μ' ∧ Fr (m + i) μ μ') :
    Nx (forD g ((List.range K).map fun i => D.obj (m + i)) δ μ1) fun δ' μ' => I δ' ∧ T μ' := by
  have key := forNx (g := g) (fun i δ μ => I δ ∧ T μ ∧ ∀ i' : Nat, i ≤ i' → i' < K → Src μ (m + i') 1000) (ds := (List.range K).map fun i => D.obj (m + i)) (δ := δ) (μ := μ1) ⟨hI, hT, fun i' _ h => hs i' h⟩ fun i d δ μ hd ⟨h1, h2, h4⟩ => by
    rw [List.getElem?_map] at hd
    obtain ⟨i', hi', rfl⟩ := Option.map_eq_some_iff.mp hd
    have hlt : i < K := by
      have := (List.getElem?_eq_some_iff.mp hi').1
      simpa using this
    rw [List.getElem?_range hlt] at hi'
    cases hi'
    refine (step i δ μ hlt h1 (h4 i (Nat.le_refl _) hlt) h2).imp fun δ' μ' ⟨k1, k2, k3⟩ => ⟨k1, k2, fun i' hi1 hi2 => ?_⟩
    obtain ⟨x1, x2, x3, x4, x5⟩ := h4 i' (by omega) hi2
    exact ⟨x1, x2, x3, by rw [k3.2 _ (by omega)]; exact x4, x5⟩
  exact key.imp fun δ' μ' ⟨h1, h2, _⟩ => ⟨h1, h2⟩
end
theorem law_ok (tb : Nat → Addr) (ns : List Int) (hl : ns.length ≤ 63) : ∃ μ, m_law tb [.ro (ns.map .int)] [.tab (tb 0) (Str.ofString "_law_words_right.<locals>.<lambda>"), .tab (tb 1) (Str.ofString "_law_ranges_right.<locals>.<lambda>")] = .ok (.fr (.bl true)) μ := by
  have q1 : gMulC (.str (lit "x")) (.int 20) = some (.fr (.str (List.replicate 20 120))) := mulC_one (by decide) (by decide)
  have q2 : gMulC (.str (lit "x")) (.int 21) = some (.fr (.str (List.replicate 21 120))) := mulC_one (by decide) (by decide)
  have p9 : FL.gPow (.int 10) (.int 9) = some (.fr (.int 1000000000)) := by simp [gPow, gInt]
  have p40 : FL.gPow (.int 10) (.int 40) = some (.fr (.int 10000000000000000000000000000000000000000)) := by simp [gPow, gInt]
  generalize hM : ([.tab (tb 0) (Str.ofString "_law_words_right.<locals>.<lambda>"), .tab (tb 1) (Str.ofString "_law_ranges_right.<locals>.<lambda>")] : Mem) = M0
  have hT0 : Tb tb M0 := by
    subst hM
    refine ⟨rfl, rfl, tabLow_all.mpr fun k P q e => ?_⟩
    match k, e with
    | 0, e => cases e; exact nbT_lt (by decide)
    | 1, e => cases e; exact nbT_lt (by decide)
    | k + 2, e => cases e
  have hL0 : M0.length = 2 := by subst hM; rfl
  clear hM
  have h1 : mSet 1 (mLst [(mD (.str (lit "t"))), (mD (.str (lit "title"))), (mD (.str (lit "abcdefghijkl"))), (mD (.str (lit "t"))), (mD (.str (lit "n")))]) (startD 9 [.ro (ns.map .int)]) M0 = .nx [some (.fr (.ro (ns.map .int))), some (.own (.lst goods)), none, none, none, none, none, none, none] M0 := by
    unfold goods
    simp [startD]
  have h2 : mSet 2 (m2 gAdd (.v 1) (.e (mLst [(mD (.str (lit ""))), (mD (.str (lit "T"))), (mD (.str (lit "t1"))), (mD (.str (lit "a b"))), (mD (.str (lit "abcdefghijklm"))), (mD .non), (mD (.int 5)), (mTup [(mD (.str (lit "t")))]), (mLst [(mD (.str (lit "t")))]), (mD (.bl true))]))) [some (.fr (.ro (ns.map .int))), some (.own (.lst goods)), none, none, none, none, none, none, none] M0 = .nx [some (.fr (.ro (ns.map .int))), some (.own (.lst goods)), some (.own (.lst (goods ++ odds))), none, none, none, none, none, none] M0 := by
    have hlen : goods.length = 5 := rfl
    generalize goods = G at *
    unfold odds
    simp [gAdd, gInt, gAddS, gAddL, gAddT, hlen]
  have h3 : mSet 3 (mLst [(mD (.str (lit "a"))), (mD (.str (lit "7"))), (mD (.str (lit "b2"))), (m2 gMulC (.e (mD (.str (lit "x")))) (.e (mD (.int 20)))), (mD (.str (lit "007"))), (mD (.str (lit ""))), (m2 gMulC (.e (mD (.str (lit "x")))) (.e (mD (.int 21)))), (mD (.str (lit "A"))), (mD (.str (lit "a b"))), (mD (.str (lit "a-b"))), (mD .non), (mD (.int 7)), (mTup [(mD (.str (lit "a")))]), (mLst [(mD (.str (lit "a")))]), (mD (.bl true)), (mD (.str (lit "a\n")))]) [some (.fr (.ro (ns.map .int))), some (.own (.lst goods)), some (.own (.lst (goods ++ odds))), none, none, none, none, none, none] M0
      = .nx [some (.fr (.ro (ns.map .int))), some (.own (.lst goods)), some (.own (.lst (goods ++ odds))), some (.own (.lst words)), none, none, none, none, none] M0 := by
    generalize goods ++ odds = G2
    generalize goods = G
    unfold words
    generalize List.replicate 20 120 = R1 at *
    generalize List.replicate 21 120 = R2 at *
    simp [q1, q2]
  have h4 : mSet 4 (mLst [(mD .non), (mD (.int 0)), (m2 gPow (.e (mD (.int 10))) (.e (mD (.int 9)))), (m2 gSub (.e (mD (.int 0))) (.e (m2 gPow (.e (mD (.int 10))) (.e (mD (.int 9)))))), (mD (.int 7)), (m2 gAdd (.e (m2 gPow (.e (mD (.int 10))) (.e (mD (.int 9))))) (.e (mD (.int 1)))), (m2 gSub (.e (m2 gSub (.e (mD (.int 0))) (.e (m2 gPow (.e (mD (.int 10))) (.e (mD (.int 9))))))) (.e (mD (.int 1)))), (mD (.bl true)), (mD (.str (lit "1"))), (mTup [(mD (.int 1))]), (mLst []), (m2 gPow (.e (mD (.int 10))) (.e (mD (.int 40))))]) [some (.fr (.ro (ns.map .int))), some (.own (.lst goods)), some (.own (.lst (goods ++ odds))), some (.own (.lst words)), none, none, none, none, none] M0
      = .nx [some (.fr (.ro (ns.map .int))), some (.own (.lst goods)), some (.own (.lst (goods ++ odds))), some (.own (.lst words)), some (.own (.lst bnds)), none, none, none, none] M0 := by
    generalize words = W
    generalize goods ++ odds = G2
    generalize goods = G
    simp [p9, p40]
  obtain ⟨K, μ1, k1, k10, e3, hs, hkeep, hlen⟩ := sources_sp (ns := ns) (μ := M0) (rest := [some (.own (.lst goods)), some (.own (.lst (goods ++ odds))), some (.own (.lst words)), some (.own (.lst bnds)), none, none, none, none]) (c := 7) (n := 3) (e := e1_law tb) hl (by simp) (by decide) (by decide) (fun δ μ => rfl)
  have hT1 : Tb tb μ1 := by
    refine ⟨by rw [hkeep 0 (by omega)]; exact hT0.t0, by rw [hkeep 1 (by omega)]; exact hT0.t1, tabLow_all.mpr fun k P q e => ?_⟩
    by_cases hk : k < 2
    · rw [hkeep k (by omega)] at e
      exact tabLow_all.mp hT0.lo k P q e
    · have hk2 := (List.getElem?_eq_some_iff.mp e).1
      obtain ⟨c, i, g, e1, -⟩ := hs (k - 2) (by omega)
      rw [show M0.length + (k - 2) = k by omega, e] at e1
      cases e1
  rw [hL0] at e3 hs
  obtain ⟨δ, μ2, e4, ⟨o, hst⟩, hT2⟩ := walk_srcT (g := turnD (tgV 5) (f3_law tb)) (K := K) (m := 2) (I := fun δ => ∃ o, StT (.ro (ns.map .int)) o (fun _ => True) δ) (T := Tb tb)
    (δ := [some (.fr (.ro (ns.map .int))), some (.own (.lst goods)), some (.own (.lst (goods ++ odds))), some (.own (.lst words)), some (.own (.lst bnds)), none, none, none, none]) (μ1 := μ1) ⟨none, _, _, _, _, _, _, _, rfl, rfl, rfl, rfl, rfl, trivial⟩ hs hT1 fun i δ μ hi ⟨o, hδ⟩ hsr hk =>
      (source_sp hδ hsr (by decide) (by omega) hk).imp fun δ' μ' ⟨h1, h2, h3⟩ => ⟨⟨_, h1⟩, hk.fr h3 h2 (by omega), h3⟩
  obtain ⟨s1, s2, s3, s4, b6, b7, b8, rfl, -, -, -, -, -⟩ := hst
  have ka := every_ok (μ := μ2) cE.A
  have kb := bare_sp (μ := μ2) (tb := tb) lf_ever hT2.lo
  rw [show m_law tb = mFn 9 (b_law tb) from rfl, ev_Fn]
  unfold b_law
  refine ⟨μ2, ?_⟩
  rw [ev_Seq, h1, ev_s1, ev_Seq, h2, ev_s1, ev_Seq, h3, ev_s1, ev_Seq, h4, ev_s1, ev_Seq, ev_For, e3, ev_t1]
  show ((forD (turnD (tgV 5) (f3_law tb)) (List.map (fun i => D.obj (2 + i)) (List.range K)) [some (.fr (.ro (ns.map .int))), some (.own (.lst goods)), some (.own (.lst (goods ++ odds))), some (.own (.lst words)), some (.own (.lst bnds)), none, none, none, none] μ1).seq _).fin = _
  rw [e4, ev_s1]
  simp [eE, ka, kb]
end L09
namespace L09
open PySem PySem.Spec PyProof.Rows L2 FL LamX
theorem txt {w : World} {mg : Str → Option Value} {h base : Heap} {K : PySem.W.Frag} (X : K.In h) (G : h.Ns mainGlobals mg) (c : HkSays fs ds ts K) (_ : K.In base) (_ : base.Ns mainGlobals mg) (TB : ∀ p ∈ csOf K ts, TabB base mg p.1 p.2.1) : Txt (tbOf K ts) PySem.Challenge.pw_findlang_k09_terms_prefixes_and_ranges w K mg base where
  n_all := He.free_ok X G (c.fact 0 rfl)
  n_bool := He.free_ok X G (c.fact 1 rfl)
  n_int := He.free_ok X G (c.fact 2 rfl)
  n_isinstance := He.free_ok X G (c.fact 3 rfl)
  n_len := He.free_ok X G (c.fact 4 rfl)
  n_list := He.free_ok X G (c.fact 5 rfl)
  n_max := He.free_ok X G (c.fact 6 rfl)
  n_min := He.free_ok X G (c.fact 7 rfl)
  n_range := He.free_ok X G (c.fact 8 rfl)
  n_repr := He.free_ok X G (c.fact 9 rfl)
  n_set := He.free_ok X G (c.fact 10 rfl)
  n_sorted := He.free_ok X G (c.fact 11 rfl)
  n_str := He.free_ok X G (c.fact 12 rfl)
  n_sum := He.free_ok X G (c.fact 13 rfl)
  n_super := He.free_ok X G (c.fact 14 rfl)
  n_tuple := He.free_ok X G (c.fact 15 rfl)
  c_LETTERS := He.str_ok X G (c.fact 16 rfl)
  c_MAX_BOUND := He.int_ok X G (c.fact 17 rfl)
  c_MAX_LEVELS := He.int_ok X G (c.fact 18 rfl)
  c_MAX_NAME := He.int_ok X G (c.fact 19 rfl)
  c_MAX_SIZE := He.int_ok X G (c.fact 20 rfl)
  c_MAX_WORD := He.int_ok X G (c.fact 21 rfl)
  c_WORD_SIGNS := He.str_ok X G (c.fact 22 rfl)
  t_FIELD_KINDS := tTup_ok X G (c.fact 23 rfl)
  x_BadQuery := (let ⟨_, Fx⟩ := c.fk 0 rfl rfl; xcH (h := h) sup_BadQuery (He.glo_ok X G (c.fact 24 rfl)) (He.free_ok X G (c.fact 14 rfl)) (c.fact 25 rfl) Fx (tCell_ok (c.fact 26 rfl)) (fun _ _ _ _ _ _ _ us hl => match us, hl with | [_, _], _ => by kernel_rfl))
  s__law_refused := ⟨_, He.glo_ok X G (c.fact 24 rfl), subs_of X G subl__law_refused (c.fact 27 rfl)⟩
  c_Everything := He.glo_ok X G (c.fact 28 rfl)
  c_Prefix := He.glo_ok X G (c.fact 29 rfl)
  c_Query := He.glo_ok X G (c.fact 30 rfl)
  c_Range := He.glo_ok X G (c.fact 31 rfl)
  c_Term := He.glo_ok X G (c.fact 32 rfl)
  atts := attsOk_of X G attl (c.fact 33 rfl)
  prp := prpB_of X G prps (c.fact 34 rfl)
  isa := isaC_of X G isal (c.fact 35 rfl)
  isb := isbC_of X G isbl (c.fact 36 rfl)
  eqb := eqB_of X G (c.fact 37 rfl)
  nf := nfOk_of X G (c.fact 38 rfl)
  mth_walk := mthB_of X G (c.fact 39 rfl)
  mk_Prefix := (by have e : fAdF K (pM "Prefix" "__init__") = _ := tInit_ok (c.fact 40 rfl); rw [e]; exact He.mkr_ok (c.fact 41 rfl))
  mk_Term := (by have e : fAdF K (pM "Term" "__init__") = _ := tInit_ok (c.fact 42 rfl); rw [e]; exact He.mkr_ok (c.fact 43 rfl))
  mk_Range := (by have e : fAdF K (pM "Range" "__init__") = _ := tInit_ok (c.fact 44 rfl); rw [e]; exact He.mkr_ok (c.fact 45 rfl))
  mk_Everything := (by have e : fAdF K (pM "Everything" "__init__") = _ := tInit_ok (c.fact 46 rfl); rw [e]; exact He.mkr_ok (c.fact 47 rfl))
  f_iQuery := c.fd 1 rfl rfl
  f_iPrefix := c.fk 2 rfl rfl
  ce_iPrefix := (tCell_ok (c.fact 48 rfl))
  s_iPrefix := (let ⟨_, Fx⟩ := c.fk 2 rfl rfl; supP_of (sc := sc_iPrefix) Fx (tCell_ok (c.fact 48 rfl)) (He.free_ok X G (c.fact 14 rfl)) (by kernel_rfl) ⟨_, rfl, rfl⟩ (by kernel_rfl) (by decide +kernel) (by decide +kernel) (by decide +kernel) rfl)
  f_iTerm := c.fk 3 rfl rfl
  ce_iTerm := (tCell_ok (c.fact 49 rfl))
  s_iTerm := (let ⟨_, Fx⟩ := c.fk 3 rfl rfl; supP_of (sc := sc_iTerm) Fx (tCell_ok (c.fact 49 rfl)) (He.free_ok X G (c.fact 14 rfl)) (by kernel_rfl) ⟨_, rfl, rfl⟩ (by kernel_rfl) (by decide +kernel) (by decide +kernel) (by decide +kernel) rfl)
  f_Query_parts := c.fd 4 rfl rfl
  f_Query_size := c.fd 5 rfl rfl
  f_Query_levels := c.fd 6 rfl rfl
  f_Query_walk := c.fd 7 rfl rfl
  f_Query___eq__ := c.fd 8 rfl rfl
  f_iRange := c.fk 9 rfl rfl
  ce_iRange := (tCell_ok (c.fact 50 rfl))
  s_iRange := (let ⟨_, Fx⟩ := c.fk 9 rfl rfl; supP_of (sc := sc_iRange) Fx (tCell_ok (c.fact 50 rfl)) (He.free_ok X G (c.fact 14 rfl)) (by kernel_rfl) ⟨_, rfl, rfl⟩ (by kernel_rfl) (by decide +kernel) (by decide +kernel) (by decide +kernel) rfl)
  f_iEverything := c.fk 10 rfl rfl
  ce_iEverything := (tCell_ok (c.fact 51 rfl))
  s_iEverything := (let ⟨_, Fx⟩ := c.fk 10 rfl rfl; supP_of (sc := sc_iEverything) Fx (tCell_ok (c.fact 51 rfl)) (He.free_ok X G (c.fact 14 rfl)) (by kernel_rfl) ⟨_, rfl, rfl⟩ (by kernel_rfl) (by decide +kernel) (by decide +kernel) (by decide +kernel) rfl)
  sb_Prefix := supB_of (He.glo_ok X G (c.fact 29 rfl)) (c.fact 52 rfl)
  sb_Term := supB_of (He.glo_ok X G (c.fact 32 rfl)) (c.fact 53 rfl)
  sb_Range := supB_of (He.glo_ok X G (c.fact 31 rfl)) (c.fact 54 rfl)
  sb_Everything := supB_of (He.glo_ok X G (c.fact 28 rfl)) (c.fact 55 rfl)
  d__law_source := (let ⟨_, Fx⟩ := c.fd 11 rfl rfl; ⟨_, _, Fx, (tFn_ok X G (c.fact 56 rfl)).1, (tFn_ok X G (c.fact 56 rfl)).2⟩)
  d__law_next := (let ⟨_, Fx⟩ := c.fd 12 rfl rfl; ⟨_, _, Fx, (tFn_ok X G (c.fact 57 rfl)).1, (tFn_ok X G (c.fact 57 rfl)).2⟩)
  d__law_pick := (let ⟨_, Fx⟩ := c.fd 13 rfl rfl; ⟨_, _, Fx, (tFn_ok X G (c.fact 58 rfl)).1, (tFn_ok X G (c.fact 58 rfl)).2⟩)
  d__law_is_run := (let ⟨_, Fx⟩ := c.fd 14 rfl rfl; ⟨_, _, Fx, (tFn_ok X G (c.fact 59 rfl)).1, (tFn_ok X G (c.fact 59 rfl)).2⟩)
  d__law_refused := (let ⟨_, Fx⟩ := c.fd 15 rfl rfl; ⟨_, _, Fx, (tFn_ok X G (c.fact 60 rfl)).1, (tFn_ok X G (c.fact 60 rfl)).2⟩)
  d_is_made_of := (let ⟨_, Fx⟩ := c.fd 16 rfl rfl; ⟨_, _, Fx, (tFn_ok X G (c.fact 61 rfl)).1, (tFn_ok X G (c.fact 61 rfl)).2⟩)
  d_is_field_name := (let ⟨_, Fx⟩ := c.fd 17 rfl rfl; ⟨_, _, Fx, (tFn_ok X G (c.fact 62 rfl)).1, (tFn_ok X G (c.fact 62 rfl)).2⟩)
  d_need_field := (let ⟨_, Fx⟩ := c.fd 18 rfl rfl; ⟨_, _, Fx, (tFn_ok X G (c.fact 63 rfl)).1, (tFn_ok X G (c.fact 63 rfl)).2⟩)
  d_is_word := (let ⟨_, Fx⟩ := c.fd 19 rfl rfl; ⟨_, _, Fx, (tFn_ok X G (c.fact 64 rfl)).1, (tFn_ok X G (c.fact 64 rfl)).2⟩)
  d_need_word := (let ⟨_, Fx⟩ := c.fd 20 rfl rfl; ⟨_, _, Fx, (tFn_ok X G (c.fact 65 rfl)).1, (tFn_ok X G (c.fact 65 rfl)).2⟩)
  d_fields_of := (let ⟨_, Fx⟩ := c.fd 21 rfl rfl; ⟨_, _, Fx, (tFn_ok X G (c.fact 66 rfl)).1, (tFn_ok X G (c.fact 66 rfl)).2⟩)
  d__law_is_bare := (let ⟨_, Fx⟩ := c.fd 22 rfl rfl; ⟨_, _, Fx, (tFn_ok X G (c.fact 67 rfl)).1, (tFn_ok X G (c.fact 67 rfl)).2⟩)
  d__law_words_right := (let ⟨_, Fx⟩ := c.fl 23 rfl rfl; ⟨_, _, _, Fx, TB _ (List.mem_of_getElem? (i := 0) rfl), (tFn_ok X G (c.fact 68 rfl)).1, (tFn_ok X G (c.fact 68 rfl)).2⟩)
  d__law_is_bound := (let ⟨_, Fx⟩ := c.fd 24 rfl rfl; ⟨_, _, Fx, (tFn_ok X G (c.fact 69 rfl)).1, (tFn_ok X G (c.fact 69 rfl)).2⟩)
  d_is_integer := (let ⟨_, Fx⟩ := c.fd 25 rfl rfl; ⟨_, _, Fx, (tFn_ok X G (c.fact 70 rfl)).1, (tFn_ok X G (c.fact 70 rfl)).2⟩)
  d_bound_text := (let ⟨_, Fx⟩ := c.fd 26 rfl rfl; ⟨_, _, Fx, (tFn_ok X G (c.fact 71 rfl)).1, (tFn_ok X G (c.fact 71 rfl)).2⟩)
  d__law_ranges_right := (let ⟨_, Fx⟩ := c.fl 27 rfl rfl; ⟨_, _, _, Fx, TB _ (List.mem_of_getElem? (i := 1) rfl), (tFn_ok X G (c.fact 72 rfl)).1, (tFn_ok X G (c.fact 72 rfl)).2⟩)
  nb := nb_of (n := 2) rfl (c.fact 73 rfl) ‹K.In base›
theorem lawF (w : World) (mg : Str → Option Value) (fa : Addr) (h : Heap) (K : PySem.W.Frag) (X : K.In h) (c : HkSays fs ds ts K) (G : h.Ns mainGlobals mg) (hfa : mg "law" = some (.ref fa)) :
    ∃ fd : FuncData, (∀ (s : Shared) (u : Value), BindsTo s fd ⟨[u], []⟩ [("_law_script", u)]) ∧
      ∀ base : Heap, K.In base → base.Ns mainGlobals mg → (∀ p ∈ csOf K ts, TabB base mg p.1 p.2.1) → FnG PySem.Challenge.pw_findlang_k09_terms_prefixes_and_ranges w K mg base (L2.CX PySem.Challenge.pw_findlang_k09_terms_prefixes_and_ranges w) 200 fa fd ["_law_script"] (spM K mg (m_law (tbOf K ts)) 1) := by
  have e := hfa.symm.trans (tFn_ok X G (c.fact 74 rfl)).1
  cases e
  obtain ⟨fd, Fx⟩ := c.fd 28 rfl rfl
  refine ⟨fd, fun s u => ?_, fun base hb hg TB => (g_law Fx (txt X G c hb hg TB)).mono (by decide)⟩
  obtain ⟨_, _, _, _, _, _, _, _, _, rfl, _, _⟩ := Fx.ex
  exact .of_eq (by kernel_rfl)
theorem lawM (K : PySem.W.Frag) (ns : List Int) (hl : ns.length ≤ 63) : ∃ μ', m_law (tbOf K ts) [.ro (ns.map .int)] (memT (csOf K ts)) = .ok (.fr (.bl true)) μ' := law_ok (tbOf K ts) ns hl
end L09
open PySem PySem.Spec PySem.W PySem.Calls PyProof.Rows in
set_option maxRecDepth 100000 in
set_option maxHeartbeats 0 in
theorem PySem.Challenge.cw_findlang_k09_terms_prefixes_and_ranges_holds : PySem.Challenge.rw_findlang_k09_terms_prefixes_and_ranges.Holds := by
  w_on; o_law
  refine HandSHeadRun.head_any (r := OpenLaw.row PySem.Challenge.rw_findlang_k09_terms_prefixes_and_ranges) (q := view (OpenLaw.row PySem.Challenge.rw_findlang_k09_terms_prefixes_and_ranges).prog [74]) (H := L09.hk) (ob := L09.ob) (M := 30000) (loose := L09.names) (d := HandSHeadRun.topDef (OpenLaw.row PySem.Challenge.rw_findlang_k09_terms_prefixes_and_ranges).prog 74) (kwd := []) L09.ob_eq
    (by kernel_rfl) (fun s => by kernel_rfl) L09.run (by kernel_rfl) (by kernel_rfl) (by kernel_rfl) (by rfl) (by first | assumption | decide +kernel) (by decide +kernel) ⟨rfl, rfl, rfl, rfl, rfl, by decide +kernel⟩ ?hw ?hc
  case hw => w_witness2
  case hc => exact FL.walkH (l := PySem.Challenge.rw_findlang_k09_terms_prefixes_and_ranges) (k := 200) (n := 5) (m := L09.m_law) rfl (by kernel_rfl) FL.room_caller L09.lawF L09.lawM
