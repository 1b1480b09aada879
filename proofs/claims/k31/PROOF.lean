import PyProof.Rows.All
import PySem.Challenge.RW_findlang_k31_schemas
import Wide.All
import OpenK.AllK
import Wide.FinOn
import HandS.ForMost
import HandS.ForExc
import HandS.CallSlots
import HandS.ExcInit
import HandS.Wide
import HandS.IsInst
import HandS.Flow
import HandS.Lambda
import HandS.EndTab
import HandS.TupAny
import KE.KExcSuper
import KE.KDflt
import HandS.Style
import KE.KExcIs
import HandS.Property
import HandS.MakeKwOnly
import HandS.ClsMeth
import HandS.Nested
import HandS.HeadHook1
import HandS.Head2
import HandS.More
import HandS.SortRule
import HandS.Iter
import HandS.Deep
import HandS.DictComp
import KE.GoesEnum
import HandS.FStr
import HandS.SetTxt0
import HandS.SetFor
import HandS.SortOrd
import HandS.Strs
import HandS.Conv
import HandS.SortInts
import HandS.Star
import HandS.OwnEq
import HandS.ListEq
import HandS.Text
import HandS.GenList
import KE.KUnpackStar
import KE.KOpsOwn
import HandS.NoneIn
import PyProof.RulesMatch
import PyProof.WalksMore
import HandS.WordsDict
import HandS.ExcField
import PyProof.InstStoreFacts
import PyProof.ExcBaseAll.LookupError
import PyProof.ExcBaseAll.ArithmeticError
set_option Elab.async false
set_option linter.all false
set_option maxRecDepth 100000
set_option maxHeartbeats 4000000
namespace FL
open PySem L2 LamX
abbrev Tx := List Nat
def toS (x : Tx) : Str := ⟨x.toArray⟩
theorem toS_inj {x y : Tx} (h : toS x = toS y) : x = y := by
  have := congrArg (fun z => z.cps.toList) h
  simpa [toS] using this
def lit (s : String) : Tx := s.toList.map Char.toNat
inductive DK where
  | i (n : Int) | s (x : Tx)
  deriving DecidableEq
def DK.key : DK → Key
  | .i n => .inl n
  | .s x => .inr (toS x)
inductive FxM where
  | ro | rc | df
inductive D where
  | non | bl (b : Bool) | int (i : Int) | str (x : Tx)
  | lst (xs : List D) | tup (xs : List D)
  | fx (b : FxM) (ks : List DK) (vs : List D)
  | dct (ks : List DK) (vs : List D)
  | obj (k : Nat)
  | glo (x : String)
  | ty (n : String)
  | exn (c attr : String) (v : D)
  | ins (c : String) (ks : List String) (vs : List D)
  | unk
abbrev D.ro (xs : List D) : D := .fx .ro [] xs
abbrev D.rc (xs : List D) : D := .fx .rc [] xs
abbrev D.dcf (ks : List DK) (vs : List D) : D := .fx .df ks vs
inductive Own where
  | lst (xs : List D)
  | dct (ks : List DK) (vs : List D)
  | tab (P : Addr) (q : Str)
  | ins (c : String) (kd : Nat) (ks : List String) (vs : List D)
  | idc (k : Nat)
def Own.d : Own → D
  | .lst xs => .lst xs
  | .dct ks vs => .dct ks vs
  | .tab _ _ => .unk
  | .ins _ _ _ _ => .unk
  | .idc _ => .unk
inductive Slot where
  | fr (d : D) | own (o : Own)
def Slot.d : Slot → D
  | .fr d => d
  | .own o => o.d
def ErrO (a : Addr) (cls : Value) (d : Option Addr) : HO := .ext fun h => ∃ oe vs, h.get? a = some oe ∧ oe.cls = cls ∧ oe.dict = d ∧ oe.data = .fields vs
section
variable (K : PySem.W.Frag) (mg : Str → Option Value) (F : Hp) (ρ : List Addr)
mutual
inductive Rep : V → D → Prop where
  | non : Rep .non .non
  | bl {b} : Rep (.bl b) (.bl b)
  | int {i} : Rep (.int i) (.int i)
  | str {x} : Rep (.str (toS x)) (.str x)
  | lst {p vs ds} (h : F p = some (.lst vs)) (r : RepL vs ds) : Rep (.ref p) (.lst ds)
  | ro {p vs ds} (h : SqL K F p vs) (r : RepL vs ds) : Rep (.ref p) (.ro ds)
  | tup {p vs ds} (h : SqT K F p vs) (r : RepL vs ds) : Rep (.ref p) (.tup ds)
  | dct {p ks vs ds} (h : Rd F p (.dK ((ks.map DK.key).zip vs))) (l : ks.length = vs.length) (r : RepL vs ds) : Rep (.ref p) (.dct ks ds)
  | obj {k p} (h : ρ[k]? = some p) : Rep (.ref p) (.obj k)
  | glo {x v u} (h : mg (Str.ofString x) = some u) (r : RelV v u) : Rep v (.glo x)
  | ty {n} : Rep (.ty n) (.ty n)
  | exn {c attr C dx v d p} (h : mg (Str.ofString c) = some (.ref C)) (e : Rd F dx (.xd [(Str.ofString attr, v)])) (o : F p = some (ErrO p (.ref C) (some dx))) (r : Rep v d) : Rep (.ref p) (.exn c attr d)
  | ins {c C dx ks vs ds p} (h : mg (Str.ofString c) = some (.ref C)) (e : F p = some (.ins C dx ((ks.map Str.ofString).zip vs))) (o : F dx = some (.own p)) (l : ks.length = vs.length) (r : RepL vs ds) : Rep (.ref p) (.ins c ks ds)
  | unk {p} : Rep (.ref p) .unk
  | rc {o p vs ds} (h : F p = some (.frz o (.tup vs))) (hd : o.dict = none) (r : RepL vs ds) : Rep (.ref p) (.rc ds)
  | dcf {o p ks vs ds} (h : F p = some (.frz o (.dK ((ks.map DK.key).zip vs)))) (l : ks.length = vs.length) (r : RepL vs ds) : Rep (.ref p) (.dcf ks ds)
inductive RepL : List V → List D → Prop where
  | nil : RepL [] []
  | cons {v d vs ds} (h : Rep v d) (t : RepL vs ds) : RepL (v :: vs) (d :: ds)
end
end
structure Le (Z F F' : Hp) : Prop where
  to : ∀ p o, F p = some o → F' p = some o
  new : ∀ p o, F' p = some o → F p = some o ∨ Z p = none
structure LeR (Z : Hp) (ρ ρ' : List Addr) : Prop where
  to : ∀ (k : Nat) p, ρ[k]? = some p → ρ'[k]? = some p
  new : ∀ p ∈ ρ', p ∈ ρ ∨ Z p = none
theorem Le.refl {Z F : Hp} : Le Z F F := ⟨fun _ _ h => h, fun _ _ h => .inl h⟩
theorem Le.trans {Z F F1 F2 : Hp} (a : Le Z F F1) (b : Le Z F1 F2) : Le Z F F2 :=
  ⟨fun p o h => b.to p o (a.to p o h), fun p o h => (b.new p o h).elim (fun h => a.new p o h) .inr⟩
theorem LeR.refl {Z : Hp} {ρ : List Addr} : LeR Z ρ ρ := ⟨fun _ _ h => h, fun _ h => .inl h⟩
theorem LeR.trans {Z : Hp} {ρ ρ1 ρ2 : List Addr} (a : LeR Z ρ ρ1) (b : LeR Z ρ1 ρ2) : LeR Z ρ ρ2 :=
  ⟨fun k p h => b.to k p (a.to k p h), fun p h => (b.new p h).elim (fun h => a.new p h) .inr⟩
section
variable {K : PySem.W.Frag} {mg : Str → Option Value} {Z F F' : Hp} {ρ ρ' : List Addr}
theorem Rd.up (l : ∀ p o, F p = some o → F' p = some o) {p : Addr} {u : HO} (h : Rd F p u) : Rd F' p u := by
  rcases h with h | ⟨o, h⟩
  · exact .inl (l _ _ h)
  · exact .inr ⟨o, l _ _ h⟩
theorem SqL.up (l : ∀ p o, F p = some o → F' p = some o) {p : Addr} {xs : List V} (h : SqL K F p xs) : SqL K F' p xs :=
  h.elim (fun h => .inl (Rd.up l h)) .inr
theorem SqT.up (l : ∀ p o, F p = some o → F' p = some o) {p : Addr} {xs : List V} (h : SqT K F p xs) : SqT K F' p xs :=
  h.elim (fun h => .inl (Rd.up l h)) .inr
mutual
theorem Rep.up (l : ∀ p o, F p = some o → F' p = some o) (lr : ∀ (k : Nat) p, ρ[k]? = some p → ρ'[k]? = some p) :
    ∀ {v : V} {d : D}, Rep K mg F ρ v d → Rep K mg F' ρ' v d
  | _, _, .non => .non
  | _, _, .bl => .bl
  | _, _, .int => .int
  | _, _, .str => .str
  | _, _, .lst h r => .lst (l _ _ h) (RepL.up l lr r)
  | _, _, .ro h r => .ro (SqL.up l h) (RepL.up l lr r)
  | _, _, .tup h r => .tup (SqT.up l h) (RepL.up l lr r)
  | _, _, .dct h e r => .dct (Rd.up l h) e (RepL.up l lr r)
  | _, _, .obj h => .obj (lr _ _ h)
  | _, _, .glo h r => .glo h r
  | _, _, .ty => .ty
  | _, _, .exn h e o r => .exn h (Rd.up l e) (l _ _ o) (Rep.up l lr r)
  | _, _, .ins h e o n r => .ins h (l _ _ e) (l _ _ o) n (RepL.up l lr r)
  | _, _, .unk => .unk
  | _, _, .rc h hd r => .rc (l _ _ h) hd (RepL.up l lr r)
  | _, _, .dcf h e r => .dcf (l _ _ h) e (RepL.up l lr r)
theorem RepL.up (l : ∀ p o, F p = some o → F' p = some o) (lr : ∀ (k : Nat) p, ρ[k]? = some p → ρ'[k]? = some p) :
    ∀ {vs : List V} {ds : List D}, RepL K mg F ρ vs ds → RepL K mg F' ρ' vs ds
  | _, _, .nil => .nil
  | _, _, .cons h t => .cons (Rep.up l lr h) (RepL.up l lr t)
end
theorem RepL.len : ∀ {vs : List V} {ds : List D}, RepL K mg F ρ vs ds → vs.length = ds.length
  | _, _, .nil => rfl
  | _, _, .cons _ t => by rw [List.length_cons, List.length_cons, RepL.len t]
theorem RepL.app : ∀ {vs ws : List V} {ds es : List D}, RepL K mg F ρ vs ds → RepL K mg F ρ ws es → RepL K mg F ρ (vs ++ ws) (ds ++ es)
  | _, _, _, _, .nil, h => h
  | _, _, _, _, .cons h t, r => .cons h (RepL.app t r)
theorem RepL.get : ∀ {vs : List V} {ds : List D} {i : Nat} {d : D}, RepL K mg F ρ vs ds → ds[i]? = some d → ∃ v, vs[i]? = some v ∧ Rep K mg F ρ v d
  | _, _, _, _, .nil, e => by simp at e
  | _, _, 0, _, .cons h _, e => by simp at e; subst e; exact ⟨_, rfl, h⟩
  | _, _, i + 1, _, .cons _ t, e => by
    obtain ⟨v, h1, h2⟩ := RepL.get (i := i) t (by simpa using e)
    exact ⟨v, by simpa using h1, h2⟩
theorem RepL.drop : ∀ {vs : List V} {ds : List D} (n : Nat), RepL K mg F ρ vs ds → RepL K mg F ρ (vs.drop n) (ds.drop n)
  | _, _, 0, r => r
  | _, _, _ + 1, .nil => .nil
  | _, _, n + 1, .cons h t => RepL.drop n t
theorem RepL.set {v : V} {d : D} (r : Rep K mg F ρ v d) : ∀ {vs : List V} {ds : List D} (i : Nat), RepL K mg F ρ vs ds → RepL K mg F ρ (vs.set i v) (ds.set i d)
  | _, _, _, .nil => .nil
  | _, _, 0, .cons _ t => .cons r t
  | _, _, i + 1, .cons h t => .cons h (RepL.set r i t)
end
abbrev Loc := List (Option Slot)
abbrev Mem := List Own
section
variable (K : PySem.W.Frag) (mg : Str → Option Value)
def OwnR (F : Hp) (ρ : List Addr) (H : Hp) (p : Addr) : Own → Prop
  | .lst ds => ∃ vs, H p = some (.lst vs) ∧ RepL K mg F ρ vs ds
  | .dct ks ds => ∃ vs, H p = some (.dK ((ks.map DK.key).zip vs)) ∧ ks.length = vs.length ∧ RepL K mg F ρ vs ds
  | .ins c kd ks ds => ∃ C dx vs, mg (Str.ofString c) = some (.ref C) ∧ ρ[kd]? = some dx ∧ H p = some (.ins C dx ((ks.map Str.ofString).zip vs)) ∧ ks.length = vs.length ∧ RepL K mg F ρ vs ds
  | .idc k => ∃ q, ρ[k]? = some q ∧ H p = some (.own q)
  | .tab P q => p = P ∧ ∃ ps, H p = some (.tbl ps) ∧ TriplesOk ps.toList ∧ ∀ (pos : Pos) (cv : Value), codeAmong pos ps.toList = some cv → ∃ c, cv = .ref c ∧ F c = some (CodeO c q)
structure Free (Z F : Hp) (ρ : List Addr) (p : Addr) : Prop where
  f : F p = none
  z : Z p = none
  r : p ∉ ρ
def SlotR (Z F : Hp) (ρ : List Addr) (H : Hp) (v : V) : Slot → Prop
  | .fr d => Rep K mg F ρ v d
  | .own o => ∃ p, v = .ref p ∧ Free Z F ρ p ∧ OwnR K mg F ρ H p o
structure Sim (Z F : Hp) (ρ : List Addr) (μ : Mem) (δ : Loc) (σ : St) (H : Hp) : Prop where
  le : ∀ p o, F p = some o → H p = some o ∨ ∃ ob kvs, o = .dK kvs ∧ H p = some (.frz ob (.dK kvs))
  zk : ∀ p o, Z p = some o → H p = some o
  len : σ.length = δ.length
  slot : ∀ (i : Nat) s, δ[i]? = some (some s) → ∃ v, σ[i]? = some (some v) ∧ SlotR K mg Z F ρ H v s
  apart : ∀ (i j : Nat) p s s', δ[i]? = some (some (.own s)) → δ[j]? = some (some (.own s')) → σ[i]? = some (some (.ref p)) → σ[j]? = some (some (.ref p)) → i = j
  mem : ∀ (k : Nat) c, μ[k]? = some c → ∃ a, ρ[k]? = some a ∧ F a = none ∧ Z a = none ∧ OwnR K mg F ρ H a c
  mlen : ρ.length = μ.length
  nod : ρ.Nodup
structure VR (Z F : Hp) (ρ : List Addr) (δ : Loc) (σ : St) (H : Hp) (v : V) (s : Slot) : Prop where
  r : SlotR K mg Z F ρ H v s
  no : ∀ o p, s = .own o → v = .ref p → ∀ (i : Nat) o', δ[i]? = some (some (.own o')) → σ[i]? ≠ some (some (.ref p))
end
section
variable {K : PySem.W.Frag} {mg : Str → Option Value} {Z F F' : Hp} {ρ ρ' : List Addr} {μ : Mem} {δ : Loc} {σ : St} {H H' : Hp} {p : Addr} {o : HO} {v : V} {s : Slot}
theorem OwnR.up {c : Own} (l : ∀ p o, F p = some o → F' p = some o) (lr : ∀ (k : Nat) p, ρ[k]? = some p → ρ'[k]? = some p) (hp : H' p = H p) (h : OwnR K mg F ρ H p c) : OwnR K mg F' ρ' H' p c := by
  cases c with
  | lst ds =>
    obtain ⟨vs, e, r⟩ := h
    exact ⟨vs, by rw [hp]; exact e, r.up l lr⟩
  | dct ks ds =>
    obtain ⟨vs, e, n, r⟩ := h
    exact ⟨vs, by rw [hp]; exact e, n, r.up l lr⟩
  | tab P q =>
    obtain ⟨e0, ps, e, t, r⟩ := h
    exact ⟨e0, ps, by rw [hp]; exact e, t, fun pos cv hc => by
      obtain ⟨c, e1, e2⟩ := r pos cv hc
      exact ⟨c, e1, l _ _ e2⟩⟩
  | ins c kd ks ds =>
    obtain ⟨C, dx, vs, e1, e2, e3, n, r⟩ := h
    exact ⟨C, dx, vs, e1, lr _ _ e2, by rw [hp]; exact e3, n, r.up l lr⟩
  | idc k =>
    obtain ⟨q, e1, e2⟩ := h
    exact ⟨q, lr _ _ e1, by rw [hp]; exact e2⟩
theorem OwnR.some {c : Own} (h : OwnR K mg F ρ H p c) : ∃ o, H p = Option.some o := by
  cases c with
  | lst ds => obtain ⟨vs, e, r⟩ := h; exact ⟨_, e⟩
  | dct ks ds => obtain ⟨vs, e, n, r⟩ := h; exact ⟨_, e⟩
  | tab P q => obtain ⟨_, ps, e, _⟩ := h; exact ⟨_, e⟩
  | ins c kd ks ds => obtain ⟨C, dx, vs, _, _, e, _⟩ := h; exact ⟨_, e⟩
  | idc k => obtain ⟨q, _, e⟩ := h; exact ⟨_, e⟩
theorem Sim.rd (S : Sim K mg Z F ρ μ δ σ H) {u : HO} (h : Rd F p u) : Rd H p u := by
  rcases h with h | ⟨ob, h⟩
  · rcases S.le p u h with q | ⟨ob, kvs, e, q⟩
    · exact .inl q
    · subst e; exact .inr ⟨ob, q⟩
  · rcases S.le p _ h with q | ⟨ob, kvs, e, q⟩
    · exact .inr ⟨_, q⟩
    · have e' : HO.frz _ u = HO.dK kvs := e
      cases e'
theorem Sim.notIn (S : Sim K mg Z F ρ μ δ σ H) (h : H p = none) : F p = none ∧ Z p = none ∧ p ∉ ρ ∧ ∀ (i : Nat) s, δ[i]? = some (some (.own s)) → σ[i]? ≠ some (some (.ref p)) := by
  refine ⟨?_, ?_, ?_, ?_⟩
  · cases e : F p with
    | none => rfl
    | some o =>
      rcases S.le p o e with q | ⟨_, _, _, q⟩ <;> rw [h] at q <;> cases q
  · cases e : Z p with
    | none => rfl
    | some o => have := S.zk p o e; rw [h] at this; cases this
  · intro hm
    obtain ⟨k, hk⟩ := List.getElem?_of_mem hm
    have hlt : k < μ.length := by
      rw [← S.mlen]; exact (List.getElem?_eq_some_iff.mp hk).1
    obtain ⟨a, e, _, _, r⟩ := S.mem k μ[k] (List.getElem?_eq_getElem hlt)
    rw [hk] at e; cases e
    obtain ⟨o, q⟩ := r.some
    rw [h] at q; cases q
  · intro i s hi hs
    obtain ⟨v, e, p', ev, fr, r⟩ := S.slot i _ hi
    rw [hs] at e; cases e
    cases ev
    obtain ⟨o, q⟩ := r.some
    rw [h] at q; cases q
theorem Sim.free (S : Sim K mg Z F ρ μ δ σ H) (h : H p = none) : Free Z F ρ p := let ⟨a, b, c, _⟩ := S.notIn h; ⟨a, b, c⟩
theorem Sim.heap (S : Sim K mg Z F ρ μ δ σ H) (hk : ∀ a, a ≠ p → H' a = H a) (hF : F p = none) (hZ : Z p = none) (hρ : p ∉ ρ)
    (hs : ∀ (i : Nat) s, δ[i]? = some (some (.own s)) → σ[i]? ≠ some (some (.ref p))) : Sim K mg Z F ρ μ δ σ H' := by
  refine ⟨fun a u h => ?_, fun a u h => ?_, S.len, fun i s h => ?_, S.apart, fun k c h => ?_, S.mlen, S.nod⟩
  · have ne : a ≠ p := fun e => by
      subst e
      rw [hF] at h; cases h
    have := S.le a u h
    rw [hk a ne]; exact this
  · have ne : a ≠ p := fun e => by subst e; rw [hZ] at h; cases h
    rw [hk a ne]; exact S.zk a u h
  · obtain ⟨v, e, r⟩ := S.slot i s h
    refine ⟨v, e, ?_⟩
    cases s with
    | fr d => exact r
    | own c =>
      obtain ⟨q, ev, fr, r⟩ := r
      subst ev
      have ne : q ≠ p := fun z => by subst z; exact hs i c h e
      exact ⟨q, rfl, fr, r.up (fun _ _ h => h) (fun _ _ h => h) (hk q ne)⟩
  · obtain ⟨a, e, f1, f2, r⟩ := S.mem k c h
    have ne : a ≠ p := fun z => by subst z; exact hρ (List.mem_of_getElem? e)
    exact ⟨a, e, f1, f2, r.up (fun _ _ h => h) (fun _ _ h => h) (hk a ne)⟩
theorem Sim.laid (S : Sim K mg Z F ρ μ δ σ H) (h : H p = none) : Sim K mg Z F ρ μ δ σ (upd H p o) := by
  obtain ⟨a, b, c, d⟩ := S.notIn h
  exact S.heap (fun q ne => upd_ne ne) a b c d
theorem Sim.freeze (S : Sim K mg Z F ρ μ δ σ H) (h : H p = some o) (fr : Free Z F ρ p) (hs : ∀ (i : Nat) s, δ[i]? = some (some (.own s)) → σ[i]? ≠ some (some (.ref p))) :
    Le Z F (upd F p o) ∧ Sim K mg Z (upd F p o) ρ μ δ σ H := by
  have to : ∀ q u, F q = some u → upd F p o q = some u := fun q u e => by
    rw [upd_ne (fun z => by subst z; rw [fr.f] at e; cases e)]; exact e
  refine ⟨⟨to, fun q u e => ?_⟩, ⟨fun q u e => ?_, S.zk, S.len, fun i s e => ?_, S.apart, fun k c e => ?_, S.mlen, S.nod⟩⟩
  · by_cases z : q = p
    · subst z; exact .inr fr.z
    · rw [upd_ne z] at e; exact .inl e
  · by_cases z : q = p
    · subst z
      rw [upd_same] at e; cases e; exact .inl h
    · refine S.le q u ?_
      rw [upd_ne z] at e; exact e
  · obtain ⟨v, e1, r⟩ := S.slot i s e
    refine ⟨v, e1, ?_⟩
    cases s with
    | fr d => exact Rep.up to (fun _ _ h => h) r
    | own c =>
      obtain ⟨q, ev, f1, r⟩ := r
      subst ev
      have ne : q ≠ p := fun z => by subst z; exact hs i c e e1
      exact ⟨q, rfl, ⟨by rw [upd_ne ne]; exact f1.f, f1.z, f1.r⟩, r.up to (fun _ _ h => h) rfl⟩
  · obtain ⟨a, e1, f1, f2, r⟩ := S.mem k c e
    have ne : a ≠ p := fun z => by subst z; exact fr.r (List.mem_of_getElem? e1)
    exact ⟨a, e1, by rw [upd_ne ne]; exact f1, f2, r.up to (fun _ _ h => h) rfl⟩
theorem OwnR.rep {c : Own} (h : OwnR K mg F ρ H p c) : ∃ o, H p = Option.some o ∧ ∀ F' ρ', (∀ p o, F p = Option.some o → F' p = Option.some o) → (∀ (k : Nat) p, ρ[k]? = Option.some p → ρ'[k]? = Option.some p) → F' p = Option.some o → Rep K mg F' ρ' (.ref p) c.d := by
  cases c with
  | lst ds =>
    obtain ⟨vs, e, r⟩ := h
    exact ⟨_, e, fun F' ρ' l lr q => .lst q (r.up l lr)⟩
  | dct ks ds =>
    obtain ⟨vs, e, n, r⟩ := h
    exact ⟨_, e, fun F' ρ' l lr q => .dct (.inl q) n (r.up l lr)⟩
  | tab P q =>
    obtain ⟨_, ps, e, _⟩ := h
    exact ⟨_, e, fun F' ρ' l lr q => .unk⟩
  | ins c kd ks ds =>
    obtain ⟨C, dx, vs, _, _, e, _⟩ := h
    exact ⟨_, e, fun F' ρ' l lr q => .unk⟩
  | idc k =>
    obtain ⟨q, _, e⟩ := h
    exact ⟨_, e, fun F' ρ' l lr q => .unk⟩
theorem Sim.lock (S : Sim K mg Z F ρ μ δ σ H) (h : VR K mg Z F ρ δ σ H v s) : ∃ F', Le Z F F' ∧ Sim K mg Z F' ρ μ δ σ H ∧ Rep K mg F' ρ v s.d := by
  cases s with
  | fr d => exact ⟨F, .refl, S, h.r⟩
  | own c =>
    obtain ⟨p, ev, fr, r⟩ := h.r
    subst ev
    obtain ⟨o, e, rep⟩ := r.rep
    obtain ⟨l, S'⟩ := S.freeze e fr (h.no c p rfl rfl)
    exact ⟨_, l, S', rep _ _ l.to (fun _ _ h => h) upd_same⟩
theorem Sim.store {i : Nat} (S : Sim K mg Z F ρ μ δ σ H) (h : VR K mg Z F ρ δ σ H v s) (hi : i < δ.length) : Sim K mg Z F ρ μ (δ.set i (some s)) (σ.set i (some v)) H := by
  refine ⟨S.le, S.zk, by simp [S.len], fun j t e => ?_, fun j k p t t' e1 e2 e3 e4 => ?_, S.mem, S.mlen, S.nod⟩
  · by_cases z : j = i
    · subst z
      rw [List.getElem?_set_self hi] at e
      cases e
      exact ⟨v, List.getElem?_set_self (by rw [S.len]; exact hi), h.r⟩
    · rw [List.getElem?_set_ne (Ne.symm z)] at e
      obtain ⟨w, e1, r⟩ := S.slot j t e
      exact ⟨w, by rw [List.getElem?_set_ne (Ne.symm z)]; exact e1, r⟩
  · by_cases z1 : j = i
    · by_cases z2 : k = i
      · rw [z1, z2]
      · subst z1
        rw [List.getElem?_set_self hi] at e1
        cases e1
        rw [List.getElem?_set_self (by rw [S.len]; exact hi)] at e3
        cases e3
        rw [List.getElem?_set_ne (Ne.symm z2)] at e2 e4
        exact absurd e4 (h.no _ _ rfl rfl k _ e2)
    · by_cases z2 : k = i
      · subst z2
        rw [List.getElem?_set_self hi] at e2
        cases e2
        rw [List.getElem?_set_self (by rw [S.len]; exact hi)] at e4
        cases e4
        rw [List.getElem?_set_ne (Ne.symm z1)] at e1 e3
        exact absurd e3 (h.no _ _ rfl rfl j _ e1)
      · rw [List.getElem?_set_ne (Ne.symm z1)] at e1 e3
        rw [List.getElem?_set_ne (Ne.symm z2)] at e2 e4
        exact S.apart j k p t t' e1 e2 e3 e4
theorem Sim.forget {i : Nat} {x : Option V} (S : Sim K mg Z F ρ μ δ σ H) : Sim K mg Z F ρ μ (δ.set i none) (σ.set i x) H := by
  refine ⟨S.le, S.zk, by simp [S.len], fun j t e => ?_, fun j k p t t' e1 e2 e3 e4 => ?_, S.mem, S.mlen, S.nod⟩
  · by_cases z : j = i
    · subst z
      by_cases hj : j < δ.length
      · rw [List.getElem?_set_self hj] at e; cases e
      · rw [List.getElem?_eq_none (by simpa using hj)] at e; cases e
    · rw [List.getElem?_set_ne (Ne.symm z)] at e
      obtain ⟨w, e1, r⟩ := S.slot j t e
      exact ⟨w, by rw [List.getElem?_set_ne (Ne.symm z)]; exact e1, r⟩
  · have n : ∀ {j : Nat} {t}, (δ.set i none)[j]? = some (some t) → j ≠ i := fun {j t} e z => by
      subst z
      by_cases hj : j < δ.length
      · rw [List.getElem?_set_self hj] at e; cases e
      · rw [List.getElem?_eq_none (by simpa using hj)] at e; cases e
    have z1 := n e1
    have z2 := n e2
    rw [List.getElem?_set_ne (Ne.symm z1)] at e1 e3
    rw [List.getElem?_set_ne (Ne.symm z2)] at e2 e4
    exact S.apart j k p t t' e1 e2 e3 e4
theorem Sim.lockAt {i : Nat} (S : Sim K mg Z F ρ μ δ σ H) (e : δ[i]? = some (some s)) :
    ∃ F' v, Le Z F F' ∧ σ[i]? = some (some v) ∧ Sim K mg Z F' ρ μ (δ.set i (some (.fr s.d))) σ H ∧ Rep K mg F' ρ v s.d := by
  obtain ⟨v, ev, r⟩ := S.slot i s e
  have hi : i < δ.length := (List.getElem?_eq_some_iff.mp e).1
  have same : σ.set i (some v) = σ := by
    apply List.ext_getElem?
    intro j
    by_cases z : j = i
    · subst z; rw [List.getElem?_set_self (by rw [S.len]; exact hi), ev]
    · rw [List.getElem?_set_ne (Ne.symm z)]
  cases s with
  | fr d =>
    have S1 := S.store (i := i) (v := v) (s := .fr d) ⟨r, fun o p z => by cases z⟩ hi
    rw [same] at S1
    exact ⟨F, v, .refl, ev, S1, r⟩
  | own c =>
    obtain ⟨p, evp, fr, r⟩ := r
    subst evp
    obtain ⟨o, eo, rep⟩ := r.rep
    have S0 := S.forget (i := i) (x := some (.ref p))
    rw [same] at S0
    obtain ⟨l, S1⟩ := S0.freeze eo fr (fun j t ej => by
      have nj : j ≠ i := fun z => by
        subst z; rw [List.getElem?_set_self hi] at ej; cases ej
      rw [List.getElem?_set_ne (Ne.symm nj)] at ej
      intro q
      exact nj (S.apart j i p t c ej e q ev))
    have rp := rep _ ρ l.to (fun _ _ h => h) upd_same
    have S2 := S1.store (i := i) (v := .ref p) (s := .fr c.d) ⟨rp, fun o p z => by cases z⟩ (by simpa using hi)
    rw [same, List.set_set] at S2
    exact ⟨_, _, l, ev, S2, rp⟩
end
end FL
namespace FL
open PySem L2
structure Exc where
  cls : String
  attr : String
  arg : D
inductive Out (α : Type) where
  | ok (a : α) (δ : Loc) (μ : Mem)
  | exc (x : Exc) (δ : Loc) (μ : Mem)
  | bad
def Out.bind {α β : Type} (r : Out α) (f : α → Loc → Mem → Out β) : Out β :=
  match r with
  | .ok a δ μ => f a δ μ
  | .exc x δ μ => .exc x δ μ
  | .bad => .bad
abbrev MM (α : Type) := Loc → Mem → Out α
abbrev ME := MM Slot
abbrev MT := MM Bool
def ExcR (K : PySem.W.Frag) (mg : Str → Option Value) (F : Hp) (ρ : List Addr) (c : Value) (d : Option Addr) (x : Exc) : Prop :=
  ∃ C dx v, c = .ref C ∧ d = some dx ∧ mg (Str.ofString x.cls) = some (.ref C) ∧ Rd F dx (.xd [(Str.ofString x.attr, v)]) ∧ Rep K mg F ρ v x.arg
section
variable (X : Cx) (W : WX)
def FinE {α : Type} (Z F : Hp) (ρ : List Addr) (σ : St) (P : α → Loc → Mem → Hp → List Addr → Hp → Prop) : Out α → Prop
  | .ok a δ μ => ∀ H' F' ρ', Le Z F F' → LeR Z ρ ρ' → Sim X.K X.mg Z F' ρ' μ δ σ H' → P a δ μ F' ρ' H'
  | .exc x δ μ => ∀ c d H' F' ρ', Le Z F F' → LeR Z ρ ρ' → Sim X.K X.mg Z F' ρ' μ δ σ H' → ExcR X.K X.mg F' ρ' c d x → W c d σ H'
  | .bad => False
end
section
variable {X : Cx} {W : WX} {Z F F1 : Hp} {ρ ρ1 : List Addr} {σ : St} {α β : Type}
theorem FinE.mono {P : α → Loc → Mem → Hp → List Addr → Hp → Prop} {r : Out α} (h : FinE X W Z F ρ σ P r) (l : Le Z F F1) (lr : LeR Z ρ ρ1) : FinE X W Z F1 ρ1 σ P r := by
  cases r with
  | ok a δ μ => exact fun H' F' ρ' l' lr' S => h H' F' ρ' (l.trans l') (lr.trans lr') S
  | exc x δ μ => exact fun c d H' F' ρ' l' lr' S e => h c d H' F' ρ' (l.trans l') (lr.trans lr') S e
  | bad => exact h
theorem FinE.bind {P : β → Loc → Mem → Hp → List Addr → Hp → Prop} {r : Out α} {f : α → Loc → Mem → Out β} (h : FinE X W Z F ρ σ P (r.bind f)) :
    FinE X W Z F ρ σ (fun a δ μ F' ρ' H' => Sim X.K X.mg Z F' ρ' μ δ σ H' ∧ Le Z F F' ∧ LeR Z ρ ρ' ∧ FinE X W Z F' ρ' σ P (f a δ μ)) r := by
  cases r with
  | ok a δ μ => exact fun H' F' ρ' l lr S => ⟨S, l, lr, h.mono l lr⟩
  | exc x δ μ => exact h
  | bad => exact h
theorem FinE.imp {P P' : α → Loc → Mem → Hp → List Addr → Hp → Prop} {r : Out α} (h : FinE X W Z F ρ σ P r)
    (hp : ∀ a δ μ H' F' ρ', Le Z F F' → LeR Z ρ ρ' → Sim X.K X.mg Z F' ρ' μ δ σ H' → P a δ μ F' ρ' H' → P' a δ μ F' ρ' H') : FinE X W Z F ρ σ P' r := by
  cases r with
  | ok a δ μ => exact fun H' F' ρ' l lr S => hp a δ μ H' F' ρ' l lr S (h H' F' ρ' l lr S)
  | exc x δ μ => exact h
  | bad => exact h
end
theorem _root_.L2.PE.imp {X : Cx} {e : Expr} {t t' : TE} (h : PE X e t) (hi : ∀ σ H Q, t' σ H Q → t σ H Q) : PE X e t' := ⟨fun pins s σ H Q I q => h.run pins s σ H Q I (hi σ H Q q)⟩
theorem _root_.L2.PT.imp {X : Cx} {e : Expr} {t t' : TT} (h : PT X e t) (hi : ∀ σ H Q, t' σ H Q → t σ H Q) : PT X e t' := ⟨fun pins s σ H Q I q => h.run pins s σ H Q I (hi σ H Q q)⟩
theorem _root_.L2.PW.imp {X : Cx} {e : Expr} {t t' : TT} (h : PW X e t) (hi : ∀ σ H Q, t' σ H Q → t σ H Q) : PW X e t' := ⟨fun wh pins s σ H Q I q => h.run wh pins s σ H Q I (hi σ H Q q)⟩
theorem _root_.L2.PA.imp {X : Cx} {e : List Expr} {t t' : TA} (h : PA X e t) (hi : ∀ σ H Q, t' σ H Q → t σ H Q) : PA X e t' := ⟨fun pos pins s σ H Q I q => h.run pos pins s σ H Q I (hi σ H Q q)⟩
section
variable (X : Cx) (W : WX)
def rdE (m : ME) : TE := fun σ H Q => ∃ Z F ρ μ δ, Sim X.K X.mg Z F ρ μ δ σ H ∧
  FinE X W Z F ρ σ (fun s δ' _ F' ρ' H' => ∀ v, VR X.K X.mg Z F' ρ' δ' σ H' v s → Q v H') (m δ μ)
def rdT (m : MT) : TT := fun σ H Q => ∃ Z F ρ μ δ, Sim X.K X.mg Z F ρ μ δ σ H ∧ FinE X W Z F ρ σ (fun b _ _ _ _ H' => Q b H') (m δ μ)
end
abbrev JE (X : Cx) (W : WX) (e : Expr) (m : ME) : Prop := PE X e (rdE X W m)
inductive Opn where
  | e (m : ME) | v (i : Nat)
inductive OR where
  | d (d : D) | i (i : Nat)
def Opn.ev : Opn → MM OR
  | .e m => fun δ μ => (m δ μ).bind fun s δ1 μ1 => .ok (.d s.d) δ1 μ1
  | .v i => fun δ μ => match δ[i]? with
    | some (some _) => .ok (.i i) δ μ
    | _ => .bad
def look (μ : Mem) : D → Option D
  | .obj k => (μ[k]?).map Own.d
  | d => some d
def OR.at (δ : Loc) (μ : Mem) : OR → Option D
  | .d x => look μ x
  | .i j => match δ[j]? with
    | some (some s) => look μ s.d
    | _ => none
section
variable (K : PySem.W.Frag) (mg : Str → Option Value)
def OrR (F : Hp) (ρ : List Addr) (σ : St) (v : V) : OR → Prop
  | .d x => Rep K mg F ρ v x
  | .i j => σ[j]? = some (some v)
inductive Bor (F : Hp) (ρ : List Addr) (H : Hp) : V → D → Prop where
  | fr {v d} (h : Rep K mg F ρ v d) : Bor F ρ H v d
  | own {p o} (h : OwnR K mg F ρ H p o) : Bor F ρ H (.ref p) o.d
inductive OrRs (F : Hp) (ρ : List Addr) (σ : St) : List V → List OR → Prop where
  | nil : OrRs F ρ σ [] []
  | cons {v d vs ds} (h : OrR K mg F ρ σ v d) (t : OrRs F ρ σ vs ds) : OrRs F ρ σ (v :: vs) (d :: ds)
end
section
variable {K : PySem.W.Frag} {mg : Str → Option Value} {Z F F' : Hp} {ρ ρ' : List Addr} {μ : Mem} {δ : Loc} {σ : St} {H H' : Hp} {v : V} {d : D}
theorem OrR.up {r : OR} (h : OrR K mg F ρ σ v r) (l : Le Z F F') (lr : LeR Z ρ ρ') : OrR K mg F' ρ' σ v r := by
  cases r with
  | d x => exact Rep.up l.to lr.to h
  | i j => exact h
theorem OrRs.up {vs : List V} {rs : List OR} (h : OrRs K mg F ρ σ vs rs) (l : Le Z F F') (lr : LeR Z ρ ρ') : OrRs K mg F' ρ' σ vs rs := by
  induction h with
  | nil => exact .nil
  | cons h t ih => exact .cons (h.up l lr) ih
theorem look_flat {d d' : D} (e : look μ d = some d') : (∃ k c, d = .obj k ∧ μ[k]? = some c ∧ d' = c.d) ∨ d' = d := by
  cases d <;> first
    | (right; have e' := e; unfold look at e'; exact (Option.some.inj e').symm)
    | (rename_i k
       left
       unfold look at e
       obtain ⟨c, e1, e2⟩ := Option.map_eq_some_iff.mp e
       exact ⟨k, c, rfl, e1, e2.symm⟩)
theorem Rep.seen (S : Sim K mg Z F ρ μ δ σ H) {d' : D} (h : Rep K mg F ρ v d) (e : look μ d = some d') : Bor K mg F ρ H v d' := by
  rcases look_flat e with ⟨k, c, rfl, hc, rfl⟩ | rfl
  · cases h with
    | obj hp =>
      obtain ⟨a, ea, _, _, r⟩ := S.mem k c hc
      rw [hp] at ea; cases ea
      exact .own r
  · exact .fr h
theorem Bor.lst (S : Sim K mg Z F ρ μ δ σ H) {ds : List D} (h : Bor K mg F ρ H v (.lst ds)) : ∃ p vs, v = .ref p ∧ H p = some (.lst vs) ∧ RepL K mg F ρ vs ds := by
  generalize e : D.lst ds = d at h
  cases h with
  | fr h =>
    subst e
    cases h with
    | lst h r =>
      refine ⟨_, _, rfl, ?_, r⟩
      rcases S.le _ _ h with q | ⟨ob, kvs, e, q⟩
      · exact q
      · cases e
  | @own p o h =>
    cases o with
    | lst xs =>
      cases e
      obtain ⟨vs, e, r⟩ := h
      exact ⟨p, vs, rfl, e, r⟩
    | dct ks xs => cases e
    | tab P q => cases e
    | ins c kd ks xs => cases e
    | idc k => cases e
theorem Bor.tup (S : Sim K mg Z F ρ μ δ σ H) {ds : List D} (h : Bor K mg F ρ H v (.tup ds)) : ∃ p vs, v = .ref p ∧ SqT K H p vs ∧ RepL K mg F ρ vs ds := by
  generalize e : D.tup ds = d at h
  cases h with
  | fr h =>
    subst e
    cases h with
    | tup h r => exact ⟨_, _, rfl, h.elim (fun h => .inl (S.rd h)) .inr, r⟩
  | @own p o h => cases o <;> cases e
theorem Bor.rc (S : Sim K mg Z F ρ μ δ σ H) {ds : List D} (h : Bor K mg F ρ H v (.rc ds)) : ∃ p o vs, v = .ref p ∧ H p = some (.frz o (.tup vs)) ∧ o.dict = none ∧ RepL K mg F ρ vs ds := by
  generalize e : D.rc ds = d at h
  cases h with
  | fr h =>
    subst e
    cases h with
    | rc h hd r =>
      refine ⟨_, _, _, rfl, ?_, hd, r⟩
      rcases S.le _ _ h with q | ⟨ob, kvs, e, q⟩
      · exact q
      · cases e
  | @own p o h => cases o <;> cases e
theorem Bor.ro (S : Sim K mg Z F ρ μ δ σ H) {ds : List D} (h : Bor K mg F ρ H v (.ro ds)) : ∃ p vs, v = .ref p ∧ SqL K H p vs ∧ RepL K mg F ρ vs ds := by
  generalize e : D.ro ds = d at h
  cases h with
  | fr h =>
    subst e
    cases h with
    | ro h r => exact ⟨_, _, rfl, h.elim (fun h => .inl (S.rd h)) .inr, r⟩
  | @own p o h => cases o <;> cases e
theorem Bor.dct (S : Sim K mg Z F ρ μ δ σ H) {ks : List DK} {ds : List D} (h : Bor K mg F ρ H v (.dct ks ds)) : ∃ p vs, v = .ref p ∧ Rd H p (.dK ((ks.map DK.key).zip vs)) ∧ ks.length = vs.length ∧ RepL K mg F ρ vs ds := by
  generalize e : D.dct ks ds = d at h
  cases h with
  | fr h =>
    subst e
    cases h with
    | dct h l r => exact ⟨_, _, rfl, S.rd h, l, r⟩
  | @own p o h =>
    cases o with
    | lst xs => cases e
    | dct ks xs =>
      cases e
      obtain ⟨vs, e, n, r⟩ := h
      exact ⟨p, vs, rfl, .inl e, n, r⟩
    | tab P q => cases e
    | ins c kd ks xs => cases e
    | idc k => cases e
theorem Bor.rep (h : Bor K mg F ρ H v d) (n : ∀ o, d ≠ Own.d o) : Rep K mg F ρ v d := by
  cases h with
  | fr h => exact h
  | own h => exact absurd rfl (n _)
theorem Bor.int {i : Int} (h : Bor K mg F ρ H v (.int i)) : v = .int i := by
  cases h.rep (fun o e => by cases o <;> cases e); rfl
theorem Bor.bl {i : Bool} (h : Bor K mg F ρ H v (.bl i)) : v = .bl i := by
  cases h.rep (fun o e => by cases o <;> cases e); rfl
theorem Bor.str {i : Tx} (h : Bor K mg F ρ H v (.str i)) : v = .str (toS i) := by
  cases h.rep (fun o e => by cases o <;> cases e); rfl
theorem Bor.non (h : Bor K mg F ρ H v .non) : v = .non := by
  cases h.rep (fun o e => by cases o <;> cases e); rfl
end
section
variable {X : Cx} {W : WX} {e a b : Expr} {es : List Expr} {pos : Pos}
def mD (d : D) : ME := fun δ μ => .ok (.fr d) δ μ
theorem je_c {v : V} {d : D} (h : PE X e (tC v)) (r : ∀ F ρ, Rep X.K X.mg F ρ v d) : JE X W e (mD d) :=
  h.imp fun σ H Q ⟨Z, F, ρ, μ, δ, S, q⟩ => q H F ρ .refl .refl S v ⟨r F ρ, fun o p z => by cases z⟩
def mV (i : Nat) : ME := fun δ μ => match δ[i]? with
  | some (some s) => .ok (.fr s.d) (δ.set i (some (.fr s.d))) μ
  | _ => .bad
theorem je_v {i : Nat} (h : PE X e (tVar i)) : JE X W e (mV i) := by
  refine h.imp fun σ H Q ⟨Z, F, ρ, μ, δ, S, q⟩ => ?_
  unfold mV at q
  cases e1 : δ[i]? with
  | none => simp only [e1] at q; exact q.elim
  | some o =>
    cases o with
    | none => simp only [e1] at q; exact q.elim
    | some s =>
      simp only [e1] at q
      obtain ⟨F', v, l, ev, S', r⟩ := S.lockAt e1
      exact ⟨v, ev, q H F' ρ l .refl S' v ⟨r, fun o p z => by cases z⟩⟩
theorem je_glo {x : String} {u : Value} {v : V} {p : Pos} (hg : Gl X (Str.ofString x)) (hm : X.mg (Str.ofString x) = some u) (r : RelV v u) (hd : (Str.ofString x == ("__debug__" : Str)) = false := by decide +kernel) : JE X W (.Name (Str.ofString x) p) (mD (.glo x)) :=
  je_c (pe_glob hg hm r hd) fun _ _ => .glo hm r
theorem VR.bl {K : PySem.W.Frag} {mg : Str → Option Value} {Z F H : Hp} {ρ : List Addr} {δ : Loc} {σ : St} {b : Bool} : VR K mg Z F ρ δ σ H (.bl b) (.fr (.bl b)) := ⟨.bl, fun o p z => by cases z⟩
end
end FL
namespace FL
open PySem L2
theorem line_eq : sizeLine = 16777216 := sizeLine_eq
section
variable {X : Cx} {W : WX} {e a b : Expr} {es : List Expr} {pos : Pos}
theorem RepL.rep {F : Hp} {ρ : List Addr} {vs : List V} {ds : List D} (h : RepL X.K X.mg F ρ vs ds) : ∀ n : Nat, RepL X.K X.mg F ρ (List.replicate n vs).flatten (List.replicate n ds).flatten
  | 0 => .nil
  | n + 1 => by
    rw [List.replicate_succ, List.replicate_succ, List.flatten_cons, List.flatten_cons]
    exact h.app (RepL.rep h n)
mutual
def D.py : D → Option PyData
  | .non => some .none
  | .bl b => some (.bool b)
  | .int i => some (.int i)
  | .str x => some (.str (toS x))
  | .lst xs => (D.pys xs).map .list
  | .tup xs => (D.pys xs).map .tuple
  | .fx .ro [] xs => (D.pys xs).map .list
  | .fx .rc [] xs => (D.pys xs).map .tuple
  | _ => none
def D.pys : List D → Option (List PyData)
  | [] => some []
  | x :: xs => match D.py x, D.pys xs with
    | some a, some r => some (a :: r)
    | _, _ => none
end
end
end FL
namespace FL
open PySem L2
section
variable {X : Cx} {W : WX} {e a b o : Expr} {es : List Expr} {pos p apos : Pos}
theorem je_ty {x : Str} {T : String} (hg : Gl X x) (hm : X.mg x = none) (hv : bootBuiltins x = some (.type T)) (hn : x ≠ "__name__" := by decide) (hdb : (x == ("__debug__" : Str)) = false := by decide) : JE X W (.Name x pos) (mD (.ty T)) :=
  je_c (pe_bltn hg hm hv (v := .ty T) rfl hn hdb) fun _ _ => .ty
theorem Bor.ty {F H : Hp} {ρ : List Addr} {v : V} {T : String} (h : Bor X.K X.mg F ρ H v (.ty T)) : v = .ty T := by
  cases h.rep (fun o e => by cases o <;> cases e)
  rfl
end
end FL
namespace FL
open PySem L2
section
variable {K : PySem.W.Frag} {mg : Str → Option Value} {Z F F' : Hp} {ρ ρ' : List Addr} {μ : Mem} {δ : Loc} {σ : St} {H H' : Hp} {p : Addr} {o : HO} {v : V} {s : Slot}
theorem Sim.put {i : Nat} (S : Sim K mg Z F ρ μ δ σ H) (h : VR K mg Z F ρ δ σ H v s) : Sim K mg Z F ρ μ (δ.set i (some s)) (σ.set i (some v)) H := by
  by_cases hi : i < δ.length
  · exact S.store h hi
  · rw [List.set_eq_of_length_le (by omega), List.set_eq_of_length_le (by rw [S.len]; omega)]
    exact S
theorem Sim.drop (S : Sim K mg Z F ρ μ δ σ H) : Sim K mg Z F ρ μ [] [] H :=
  ⟨S.le, S.zk, rfl, fun i s e => by simp at e, fun i j p s s' e => by simp at e, S.mem, S.mlen, S.nod⟩
theorem Sim.guard (S : Sim K mg Z F ρ μ δ σ H) (hp : H p = some o) (fr : Free Z F ρ p) (no : ∀ (i : Nat) s, δ[i]? = some (some (.own s)) → σ[i]? ≠ some (some (.ref p))) : Sim K mg (upd Z p o) F ρ μ δ σ H := by
  refine ⟨S.le, fun q u h => ?_, S.len, fun i t e => ?_, S.apart, fun k c e => ?_, S.mlen, S.nod⟩
  · by_cases z : q = p
    · subst z; rw [upd_same] at h; cases h; exact hp
    · rw [upd_ne z] at h; exact S.zk q u h
  · obtain ⟨w, e1, r⟩ := S.slot i t e
    refine ⟨w, e1, ?_⟩
    cases t with
    | fr d => exact r
    | own c =>
      obtain ⟨q, ev, f1, r⟩ := r
      subst ev
      have ne : q ≠ p := fun z => by subst z; exact no i c e e1
      exact ⟨q, rfl, ⟨f1.f, by rw [upd_ne ne]; exact f1.z, f1.r⟩, r⟩
  · obtain ⟨a, e1, f1, f2, r⟩ := S.mem k c e
    have ne : a ≠ p := fun z => by subst z; exact fr.r (List.mem_of_getElem? e1)
    exact ⟨a, e1, f1, by rw [upd_ne ne]; exact f2, r⟩
theorem guard_z {q : Addr} (h : upd Z p o q = none) : q ≠ p ∧ Z q = none := by
  by_cases z : q = p
  · subst z; rw [upd_same] at h; cases h
  · rw [upd_ne z] at h; exact ⟨z, h⟩
theorem Sim.unguard (S : Sim K mg (upd Z p o) F ρ μ δ σ H) (hz : Z p = none) : Sim K mg Z F ρ μ δ σ H := by
  refine ⟨S.le, fun q u h => S.zk q u ?_, S.len, fun i t e => ?_, S.apart, fun k c e => ?_, S.mlen, S.nod⟩
  · rw [upd_ne (fun z => by subst z; rw [hz] at h; cases h)]; exact h
  · obtain ⟨w, e1, r⟩ := S.slot i t e
    refine ⟨w, e1, ?_⟩
    cases t with
    | fr d => exact r
    | own c =>
      obtain ⟨q, ev, f1, r⟩ := r
      exact ⟨q, ev, ⟨f1.f, (guard_z f1.z).2, f1.r⟩, r⟩
  · obtain ⟨a, e1, f1, f2, r⟩ := S.mem k c e
    exact ⟨a, e1, f1, (guard_z f2).2, r⟩
theorem Sim.guarded (S : Sim K mg (upd Z p o) F ρ μ δ σ H) : H p = some o := S.zk p o upd_same
theorem Sim.guardNo (S : Sim K mg (upd Z p o) F ρ μ δ σ H) : ∀ (i : Nat) s, δ[i]? = some (some (.own s)) → σ[i]? ≠ some (some (.ref p)) := by
  intro i c e e1
  obtain ⟨w, e2, q, ev, f1, r⟩ := S.slot i _ e
  rw [e1] at e2; cases e2; cases ev
  exact (guard_z f1.z).1 rfl
theorem Le.unguard (l : Le (upd Z p o) F F') : Le Z F F' := ⟨l.to, fun q u h => (l.new q u h).elim .inl fun z => .inr (guard_z z).2⟩
theorem LeR.unguard (l : LeR (upd Z p o) ρ ρ') : LeR Z ρ ρ' := ⟨l.to, fun q h => (l.new q h).elim .inl fun z => .inr (guard_z z).2⟩
theorem Free.on (fr : Free Z F ρ p) (l : Le (upd Z p o) F F') (lr : LeR (upd Z p o) ρ ρ') : Free Z F' ρ' p := by
  refine ⟨?_, fr.z, fun h => ?_⟩
  · cases e : F' p with
    | none => rfl
    | some u =>
      rcases l.new p u e with h | h
      · rw [fr.f] at h; cases h
      · exact absurd rfl (guard_z h).1
  · rcases lr.new p h with h | h
    · exact fr.r h
    · exact absurd rfl (guard_z h).1
end
inductive OutS where
  | nx (δ : Loc) (μ : Mem)
  | rt (s : Slot) (μ : Mem)
  | bk (δ : Loc) (μ : Mem)
  | ct (δ : Loc) (μ : Mem)
  | exc (x : Exc) (δ : Loc) (μ : Mem)
  | bad
abbrev MS := Loc → Mem → OutS
def Out.thn {α : Type} (r : Out α) (f : α → Loc → Mem → OutS) : OutS :=
  match r with
  | .ok a δ μ => f a δ μ
  | .exc x δ μ => .exc x δ μ
  | .bad => .bad
def OutS.seq (r : OutS) (k : MS) : OutS :=
  match r with
  | .nx δ μ => k δ μ
  | .rt s μ => .rt s μ
  | .bk δ μ => .bk δ μ
  | .ct δ μ => .ct δ μ
  | .exc x δ μ => .exc x δ μ
  | .bad => .bad
section
variable (X : Cx) (W : WX)
def FinS (Z F : Hp) (ρ : List Addr) (D : Ends) : OutS → Prop
  | .nx δ μ => ∀ σ' H' F' ρ', Le Z F F' → LeR Z ρ ρ' → Sim X.K X.mg Z F' ρ' μ δ σ' H' → D.nx σ' H'
  | .bk δ μ => ∀ σ' H' F' ρ', Le Z F F' → LeR Z ρ ρ' → Sim X.K X.mg Z F' ρ' μ δ σ' H' → D.bk σ' H'
  | .ct δ μ => ∀ σ' H' F' ρ', Le Z F F' → LeR Z ρ ρ' → Sim X.K X.mg Z F' ρ' μ δ σ' H' → D.ct σ' H'
  | .rt s μ => ∀ v H' F' ρ', Le Z F F' → LeR Z ρ ρ' → Sim X.K X.mg Z F' ρ' μ [] [] H' → SlotR X.K X.mg Z F' ρ' H' v s → D.rt v H'
  | .exc x δ μ => ∀ c d σ' H' F' ρ', Le Z F F' → LeR Z ρ ρ' → Sim X.K X.mg Z F' ρ' μ δ σ' H' → ExcR X.K X.mg F' ρ' c d x → W c d σ' H'
  | .bad => False
def rdS (m : MS) : TS := fun D σ H => ∃ Z F ρ μ δ, Sim X.K X.mg Z F ρ μ δ σ H ∧ FinS X W Z F ρ D (m δ μ)
end
theorem _root_.L2.PS.imp {X : Cx} {s : Stmt} {t t' : TS} (h : PS X s t) (hi : ∀ D σ H, t' D σ H → t D σ H) : PS X s t' := ⟨fun pins s σ H D I q => h.run pins s σ H D I (hi D σ H q)⟩
theorem _root_.L2.PSs.imp {X : Cx} {s : List Stmt} {t t' : TS} (h : PSs X s t) (hi : ∀ D σ H, t' D σ H → t D σ H) : PSs X s t' := ⟨fun pins s σ H D I q => h.run pins s σ H D I (hi D σ H q)⟩
abbrev JS (X : Cx) (W : WX) (s : Stmt) (m : MS) : Prop := PS X s (rdS X W m)
section
variable {X : Cx} {W : WX} {Z F F1 : Hp} {ρ ρ1 : List Addr} {D : Ends} {σ : St} {H : Hp} {μ : Mem} {δ : Loc}
theorem FinS.mono {r : OutS} (h : FinS X W Z F ρ D r) (l : Le Z F F1) (lr : LeR Z ρ ρ1) : FinS X W Z F1 ρ1 D r := by
  cases r with
  | nx δ μ => exact fun σ' H' F' ρ' l' lr' S => h σ' H' F' ρ' (l.trans l') (lr.trans lr') S
  | bk δ μ => exact fun σ' H' F' ρ' l' lr' S => h σ' H' F' ρ' (l.trans l') (lr.trans lr') S
  | ct δ μ => exact fun σ' H' F' ρ' l' lr' S => h σ' H' F' ρ' (l.trans l') (lr.trans lr') S
  | rt s μ => exact fun v H' F' ρ' l' lr' S r => h v H' F' ρ' (l.trans l') (lr.trans lr') S r
  | exc x δ μ => exact fun c d σ' H' F' ρ' l' lr' S e => h c d σ' H' F' ρ' (l.trans l') (lr.trans lr') S e
  | bad => exact h
theorem FinS.thn {α : Type} {r : Out α} {f : α → Loc → Mem → OutS} (h : FinS X W Z F ρ D (r.thn f)) :
    FinE X W Z F ρ σ (fun a δ μ F' ρ' H' => Sim X.K X.mg Z F' ρ' μ δ σ H' ∧ FinS X W Z F' ρ' D (f a δ μ)) r := by
  cases r with
  | ok a δ μ => exact fun H' F' ρ' l lr S => ⟨S, h.mono l lr⟩
  | exc x δ μ => exact fun c d H' F' ρ' l lr S e => h c d σ H' F' ρ' l lr S e
  | bad => exact h
theorem FinS.nx {δ : Loc} {μ : Mem} {σ' : St} {H' : Hp} (h : FinS X W Z F ρ D (.nx δ μ)) (S : Sim X.K X.mg Z F ρ μ δ σ' H') : D.nx σ' H' := h σ' H' F ρ .refl .refl S
theorem FinS.seq {r : OutS} {k : MS} (h : FinS X W Z F ρ D (r.seq k)) : FinS X W Z F ρ { D with nx := rdS X W k D } r := by
  cases r with
  | nx δ μ => exact fun σ' H' F' ρ' l lr S => ⟨Z, F', ρ', μ, δ, S, FinS.mono h l lr⟩
  | bk δ μ => exact h
  | ct δ μ => exact h
  | rt s μ => exact h
  | exc x δ μ => exact h
  | bad => exact h
variable {st : Stmt} {sts rest : List Stmt} {e : Expr} {pos : Pos}
def mSet (i : Nat) (m : ME) : MS := fun δ μ => (m δ μ).thn fun s δ1 μ1 => .nx (δ1.set i (some s)) μ1
theorem set_read {i : Nat} {m : ME} : ∀ D σ H, rdS X W (mSet i m) D σ H → tAsg (rdE X W m) (gName i) D σ H := by
  intro D σ H ⟨Z, F, ρ, μ, δ, S, q⟩
  exact ⟨Z, F, ρ, μ, δ, S, (FinS.thn q).imp fun a δ1 μ1 H1 F1 ρ1 l lr S1 ⟨_, p⟩ v vr => p.nx (S1.put vr)⟩
theorem js_set {i : Nat} {x : Str} {m : ME} {pos' : Pos} (hN : X.N.Nodup) (hi : X.N[i]? = some x) (hx : L2.Loc X.env.scope x) (he : JE X W e m) (hs : swapsWith e (some (.Name x pos')) pos.line X.env = pure false := by rfl) (hf : X.fn x = true ∨ X.env.scope.names.lookup x = some .local := by first | exact .inl rfl | exact .inr rfl | assumption) :
    JS X W (.Assign [.Name x pos'] e pos) (mSet i m) := (ps_set hN hi hx he hs hf).imp set_read
end
end FL
namespace FL
open PySem L2
section
variable {X : Cx} {W : WX} {e a b : Expr} {es : List Expr} {pos : Pos}
abbrev TgF := D → Loc → Option Loc
def rdG (X : Cx) (f : TgF) (is : List Nat) : TG := fun v σ H Q => ∃ Z F ρ μ δ d, Sim X.K X.mg Z F ρ μ δ σ H ∧ Rep X.K X.mg F ρ v d ∧ ∃ δ', f d δ = some δ' ∧
  ∀ σ', (∀ j : Nat, j ∉ is → σ'[j]? = σ[j]?) → σ'.length = σ.length → Sim X.K X.mg Z F ρ μ δ' σ' H → Q σ' H
theorem _root_.L2.PG.imp {X : Cx} {e : Expr} {t t' : TG} (h : PG X e t) (hi : ∀ v σ H Q, t' v σ H Q → t v σ H Q) : PG X e t' := ⟨fun pins s σ H v u Q I r q => h.run pins s σ H v u Q I r (hi v σ H Q q)⟩
theorem _root_.L2.PGs.imp {X : Cx} {e : List Expr} {t t' : TGs} (h : PGs X e t) (hi : ∀ v σ H Q, t' v σ H Q → t v σ H Q) : PGs X e t' := ⟨fun pins s σ H v u Q I r q => h.run pins s σ H v u Q I r (hi v σ H Q q)⟩
abbrev JG (X : Cx) (e : Expr) (f : TgF) (is : List Nat) : Prop := PG X e (rdG X f is)
def tgV (i : Nat) : TgF := fun d δ => some (δ.set i (some (.fr d)))
theorem jg_v {i : Nat} {x : Str} (hN : X.N.Nodup) (hi : X.N[i]? = some x) (hx : L2.Loc X.env.scope x) (hf : X.fn x = true ∨ X.env.scope.names.lookup x = some .local := by first | exact .inl rfl | exact .inr rfl | assumption) : JG X (.Name x pos) (tgV i) [i] :=
  (pg_name hN hi hx hf).imp fun v σ H Q ⟨Z, F, ρ, μ, δ, d, S, r, δ', e1, q⟩ => by
    cases e1
    refine q _ (fun j hj => ?_) (by simp) (S.put ⟨r, fun o p z => by cases z⟩)
    rw [List.getElem?_set_ne (fun z => hj (by simp [z]))]
def ItR (X : Cx) (F : Hp) (ρ : List Addr) (J : It) (ds : List D) : Prop := ∀ Z' F' ρ' μ δ σ H (i : Nat), (∀ p o, F p = some o → F' p = some o) → (∀ (k : Nat) p, ρ[k]? = some p → ρ'[k]? = some p) → Sim X.K X.mg Z' F' ρ' μ δ σ H →
  (ds.length ≤ i → J.stop i H) ∧ ∀ d, ds[i]? = some d → J.go i H ∧ ∀ x H', J.yld i H x H' → ∃ F2, Le Z' F' F2 ∧ Sim X.K X.mg Z' F2 ρ' μ δ σ H' ∧ Rep X.K X.mg F2 ρ' x d
def rdI (X : Cx) (W : WX) (m : MM (List D)) : TI := fun σ H R => ∃ Z F ρ μ δ, Sim X.K X.mg Z F ρ μ δ σ H ∧
  FinE X W Z F ρ σ (fun ds _ _ F' ρ' H' => ∀ J, ItR X F' ρ' J ds → R J H') (m δ μ)
theorem _root_.L2.PI.imp {X : Cx} {tg e : Expr} {t t' : TI} (h : PI X tg e t) (hi : ∀ σ H Q, t' σ H Q → t σ H Q) : PI X tg e t' := ⟨fun pins s σ H R I q => h.run pins s σ H R I (hi σ H R q)⟩
abbrev JI (X : Cx) (W : WX) (tg e : Expr) (m : MM (List D)) : Prop := PI X tg e (rdI X W m)
def Out.cut {α : Type} (r : Out α) : Out α := match r with
  | .exc _ _ _ => .bad
  | r => r
def wipeD (δ : Loc) : List Nat → Loc
  | [] => δ
  | v :: vs => (wipeD δ vs).set v none
theorem Sim.wipe {K : PySem.W.Frag} {mg : Str → Option Value} {Z F H : Hp} {ρ : List Addr} {μ : Mem} {δ : Loc} {σ : St} (S : Sim K mg Z F ρ μ δ σ H) : ∀ vs, Sim K mg Z F ρ μ (wipeD δ vs) (L2.wipe σ vs) H
  | [] => S
  | v :: vs => (Sim.wipe S vs).forget
theorem Sim.agree {K : PySem.W.Frag} {mg : Str → Option Value} {Z F H : Hp} {ρ : List Addr} {μ : Mem} {δ : Loc} {σ σ' : St} (S : Sim K mg Z F ρ μ δ σ H) (hl : σ'.length = σ.length) (ha : ∀ (i : Nat) s, δ[i]? = some (some s) → σ'[i]? = σ[i]?) : Sim K mg Z F ρ μ δ σ' H :=
  ⟨S.le, S.zk, hl.trans S.len, fun i s e => by rw [ha i s e]; exact S.slot i s e, fun i j p s s' e1 e2 e3 e4 => S.apart i j p s s' e1 e2 (by rw [← ha i _ e1]; exact e3) (by rw [← ha j _ e2]; exact e4), S.mem, S.mlen, S.nod⟩
theorem wipeD_in {δ : Loc} {i : Nat} {s : Slot} : ∀ {vs : List Nat}, (wipeD δ vs)[i]? = some (some s) → i ∉ vs
  | [], _ => by simp
  | v :: vs, h => by
    unfold wipeD at h
    by_cases z : i = v
    · subst z
      by_cases hl : i < (wipeD δ vs).length
      · rw [List.getElem?_set_self hl] at h; cases h
      · rw [List.getElem?_eq_none (by simpa using hl)] at h; cases h
    · rw [List.getElem?_set_ne (Ne.symm z)] at h
      have := wipeD_in h
      simp [z, this]
theorem wipe_out {σ : St} {i : Nat} : ∀ {vs : List Nat}, i ∉ vs → (L2.wipe σ vs)[i]? = σ[i]?
  | [], _ => rfl
  | v :: vs, h => by
    unfold L2.wipe
    rw [List.getElem?_set_ne (fun z => h (by simp [z]))]
    exact wipe_out fun z => h (List.mem_cons_of_mem _ z)
theorem wipe_same {σ σ' : St} (hl : σ'.length = σ.length) : ∀ {vs : List Nat}, (∀ j : Nat, j ∉ vs → σ'[j]? = σ[j]?) → L2.wipe σ' vs = L2.wipe σ vs := by
  intro vs h
  apply List.ext_getElem?
  intro i
  by_cases hi : i ∈ vs
  · have no : ∀ (τ : St), τ.length = σ.length → ∀ vs : List Nat, i ∈ vs → (L2.wipe τ vs)[i]? = if i < σ.length then some none else none := by
      intro τ hτ vs
      induction vs with
      | nil => intro z; cases z
      | cons v vs ih =>
        intro z
        unfold L2.wipe
        by_cases e : i = v
        · subst e
          by_cases hlt : i < σ.length
          · rw [List.getElem?_set_self (by rw [wipe_length, hτ]; exact hlt), if_pos hlt]
          · rw [List.getElem?_eq_none (by rw [List.length_set, wipe_length, hτ]; omega), if_neg hlt]
        · rw [List.getElem?_set_ne (Ne.symm e)]
          exact ih ((List.mem_cons.mp z).resolve_left e)
    rw [no σ' hl vs hi, no σ rfl vs hi]
  · rw [wipe_out hi, wipe_out hi]
    exact h i hi
def lcD (f : TgF) (tests : MT) (elt : ME) (vs : List Nat) : List D → List D → ME
  | [], acc => fun δ μ => .ok (.own (.lst acc)) δ μ
  | d :: ds, acc => fun δ μ => match f d δ with
    | none => .bad
    | some δ' => (tests δ' μ).cut.bind fun b δ2 μ2 => if b = true then (elt δ2 μ2).cut.bind fun s δ3 μ3 => if acc.length < 16777216 then lcD f tests elt vs ds (acc ++ [s.d]) (wipeD δ3 vs) μ3 else .bad
      else lcD f tests elt vs ds acc (wipeD δ2 vs) μ2
def mLc (mi : MM (List D)) (f : TgF) (tests : MT) (elt : ME) (vs : List Nat) : ME := fun δ μ => (mi δ μ).bind fun ds δ1 μ1 => lcD f tests elt vs ds [] (wipeD δ1 vs) μ1
abbrev W0 : WX := fun _ _ _ _ => False
theorem FinE.cut {Y : Cx} {Z F : Hp} {ρ : List Addr} {σ σ' : St} {α β : Type} {P : β → Loc → Mem → Hp → List Addr → Hp → Prop} {r : Out α} {g : α → Loc → Mem → Out β} {p : Addr} {o : HO} (hK : Y.K = X.K) (hm : Y.mg = X.mg) (h : FinE X W Z F ρ σ P (r.cut.bind g)) :
    FinE Y W0 (upd Z p o) F ρ σ' (fun a δ μ F' ρ' H' => Sim X.K X.mg (upd Z p o) F' ρ' μ δ σ' H' ∧ Le (upd Z p o) F F' ∧ LeR (upd Z p o) ρ ρ' ∧ FinE X W Z F' ρ' σ P (g a δ μ)) r := by
  cases r with
  | ok a δ μ =>
    intro H' F' ρ' l lr S
    rw [hK, hm] at S
    exact ⟨S, l, lr, FinE.mono h l.unguard lr.unguard⟩
  | exc x δ μ => exact h.elim
  | bad => exact h
theorem lc_read {Y : Cx → Prop} {mi : MM (List D)} {f : TgF} {tests : MT} {elt : ME} {vs is : List Nat} {B : Cx} (hK : B.K = X.K) (hm : B.mg = X.mg) (hsub : ∀ j ∈ is, j ∈ vs) : ∀ σ H Q, rdE X W (mLc mi f tests elt vs) σ H Q → tLc (rdI X W mi) (rdG X f is) (rdT B W0 tests) (rdE B W0 elt) vs σ H Q := by
  intro σ H Q ⟨Z, F, ρ, μ, δ, S, q⟩
  refine ⟨Z, F, ρ, μ, δ, S, (FinE.bind q).imp fun ds δ1 μ1 H1 F1 ρ1 l lr S1 ⟨_, _, _, p⟩ J hJ A hA => ?_⟩
  obtain ⟨n1, n2, n3, n4⟩ := S1.notIn hA
  let P : Slot → Loc → Mem → Hp → List Addr → Hp → Prop := fun s δ' _ F' ρ' H' => ∀ v, VR X.K X.mg Z F' ρ' δ' σ H' v s → Q v H'
  let Wd : Nat → Nat → Hp → Prop := fun i k H => k = ds.length - i ∧ i ≤ ds.length ∧ ∃ F' ρ' μ δ vals acc, (∀ p o, F1 p = some o → F' p = some o) ∧ (∀ (k : Nat) p, ρ1[k]? = some p → ρ'[k]? = some p) ∧ Sim X.K X.mg Z F' ρ' μ (wipeD δ vs) (L2.wipe σ vs) H ∧
    Free Z F' ρ' A ∧ (∀ (i : Nat) s, (wipeD δ vs)[i]? = some (some (.own s)) → (L2.wipe σ vs)[i]? ≠ some (some (.ref A))) ∧ H A = some (.lst vals) ∧ RepL X.K X.mg F' ρ' vals acc ∧ FinE X W Z F' ρ' σ P (lcD f tests elt vs (ds.drop i) acc (wipeD δ vs) μ)
  have wout : ∀ {δ : Loc} {s : Slot} (i : Nat), (wipeD δ vs)[i]? = some (some s) → (L2.wipe σ vs)[i]? = σ[i]? := fun i h => wipe_out (wipeD_in h)
  have Sw := (S1.laid (o := .lst []) hA).wipe vs
  refine ⟨Wd, ⟨ds.length, by simp, Nat.zero_le _, F1, ρ1, μ1, δ1, [], [], fun _ _ h => h, fun _ _ h => h, Sw, ⟨n1, n2, n3⟩, fun i s e1 e2 => ?_, upd_same, .nil, by rw [List.drop_zero]; exact p⟩, ?_⟩
  · obtain ⟨w, e3, q', eq', f', r'⟩ := Sw.slot i _ e1
    rw [e2] at e3; cases e3; cases eq'
    have e4 := wout i e1
    rw [e2] at e4
    have e5 : δ1[i]? = some (some (.own s)) := by
      have : ∀ vs : List Nat, (wipeD δ1 vs)[i]? = some (some (.own s)) → δ1[i]? = some (some (.own s)) := by
        intro vs
        induction vs with
        | nil => exact id
        | cons v vs ih =>
          intro h
          have hn := wipeD_in h
          unfold wipeD at h
          rw [List.getElem?_set_ne (fun z => hn (by simp [z]))] at h
          exact ih h
      exact this vs e1
    exact n4 i s e5 e4.symm
  rintro i k H2 ⟨rfl, hle, F2, ρ2, μ2, δ2, vals, acc, to, tr, S2, fA, nA, hL, rL, p2⟩
  obtain ⟨j1, j2⟩ := hJ Z F2 ρ2 μ2 _ _ H2 i to tr S2
  by_cases hlt : i < ds.length
  · refine .inr ?_
    have hd : ds.drop i = ds[i] :: ds.drop (i + 1) := List.drop_eq_getElem_cons hlt
    have SG := S2.guard hL fA nA
    obtain ⟨go, yl⟩ := hJ (upd Z A (.lst vals)) F2 ρ2 μ2 _ _ H2 i to tr SG |>.2 ds[i] (List.getElem?_eq_getElem hlt)
    refine ⟨go, fun H' => Wd (i + 1) (ds.length - (i + 1)) H', fun H' w => ⟨ds.length - (i + 1), by omega, w⟩, fun x H' y => ?_⟩
    obtain ⟨F3, l3, S3, r3⟩ := yl x H' y
    rw [hd] at p2
    unfold lcD at p2
    cases ef : f ds[i] (wipeD δ2 vs) with
    | none => simp only [ef] at p2; exact p2.elim
    | some δ3 =>
      simp only [ef] at p2
      refine ⟨_, F3, ρ2, μ2, _, _, S3, r3, δ3, ef, fun σ4 hσ hl4 S4 => ?_⟩
      have ws : L2.wipe σ4 vs = L2.wipe σ vs := by
        have h1 := wipe_same (σ := L2.wipe σ vs) (σ' := σ4) hl4 (vs := vs) fun j hj => hσ j fun z => hj (hsub j z)
        rw [h1]
        apply wipe_same (wipe_length _ _)
        intro j hj
        exact wipe_out hj
      refine ⟨by rw [ws, wipe_same (σ := σ) (σ' := σ) rfl fun _ _ => rfl], ?_⟩
      -- the tests
      refine ⟨_, F3, ρ2, μ2, δ3, by rw [hK, hm]; exact S4, (FinE.cut (p := A) (o := .lst vals) hK hm (p2.mono l3.unguard .refl)).imp fun b δ5 μ5 H5 F5 ρ5 l5 lr5 _ ⟨S5, l5', lr5', p5⟩ => ?_⟩
      have fin : ∀ {F6 : Hp} {ρ6 : List Addr} {μ6 : Mem} {δ6 : Loc} {H6 H7 : Hp} {vals' : List V} {acc' : List D}, Sim X.K X.mg (upd Z A (.lst vals)) F6 ρ6 μ6 δ6 σ4 H6 → Le (upd Z A (.lst vals)) F3 F6 → LeR (upd Z A (.lst vals)) ρ2 ρ6 →
          (∀ a, a ≠ A → H7 a = H6 a) → H7 A = some (.lst vals') → RepL X.K X.mg F6 ρ6 vals' acc' → FinE X W Z F6 ρ6 σ P (lcD f tests elt vs (ds.drop (i + 1)) acc' (wipeD δ6 vs) μ6) → Wd (i + 1) (ds.length - (i + 1)) H7 := by
        intro F6 ρ6 μ6 δ6 H6 H7 vals' acc' S6 l6 lr6 hne hA7 rL' p6
        have fA6 : Free Z F6 ρ6 A := (fA.on l3 .refl).on l6 lr6
        have S7 := (S6.unguard fA.z).heap hne fA6.f fA6.z fA6.r S6.guardNo
        have S8 := S7.wipe vs
        rw [ws] at S8
        refine ⟨rfl, hlt, F6, ρ6, μ6, δ6, vals', acc', fun p o h => l6.to p o (l3.to p o (to p o h)), fun k p h => lr6.to k p (tr k p h), S8, fA6, fun i' s e1 e2 => ?_, hA7, rL', p6⟩
        obtain ⟨w, e3, q', eq', f', r'⟩ := S8.slot i' _ e1
        rw [e2] at e3; cases e3; cases eq'
        have e4 : (L2.wipe σ4 vs)[i']? = σ4[i']? := wipe_out (wipeD_in e1)
        rw [ws, e2] at e4
        have e5 : δ6[i']? = some (some (.own s)) := by
          have : ∀ vs : List Nat, (wipeD δ6 vs)[i']? = some (some (.own s)) → δ6[i']? = some (some (.own s)) := by
            intro vs
            induction vs with
            | nil => exact id
            | cons v vs ih =>
              intro h
              have hn := wipeD_in h
              unfold wipeD at h
              rw [List.getElem?_set_ne (fun z => hn (by simp [z]))] at h
              exact ih h
          exact this vs e1
        exact S6.guardNo i' s e5 e4.symm
      cases b with
      | false =>
        simp only [if_neg Bool.false_ne_true] at p5 ⊢
        exact fin S5 l5' lr5' (fun _ _ => rfl) S5.guarded (rL.up (fun p o h => l5'.to p o (l3.to p o h)) lr5'.to) p5
      | true =>
        simp only [if_true] at p5 ⊢
        refine ⟨_, F5, ρ5, μ5, δ5, by rw [hK, hm]; exact S5, (FinE.cut (p := A) (o := .lst vals) hK hm p5).imp fun s δ6 μ6 H6 F6 ρ6 l6 lr6 _ ⟨S6, l6', lr6', p6⟩ v vr => ?_⟩
        rw [hK, hm] at vr
        obtain ⟨F7, l7, S7, r7⟩ := S6.lock vr
        by_cases hz : acc.length < 16777216
        · rw [if_pos hz] at p6
          have rL6 := rL.up (fun p o h => l7.to p o (l6'.to p o (l5'.to p o (l3.to p o h)))) fun k p h => lr6'.to k p (lr5'.to k p h)
          refine ⟨vals, S7.guarded, by rw [rL.len, line_eq]; exact hz, ?_⟩
          exact fin S7 (l5'.trans (l6'.trans l7)) (lr5'.trans lr6') (fun a ne => upd_ne ne) upd_same (rL6.app (.cons r7 .nil)) (p6.mono l7.unguard .refl)
        · rw [if_neg hz] at p6; exact p6.elim
  · have e : i = ds.length := by omega
    subst e
    rw [List.drop_length] at p2
    refine .inl ⟨j1 (Nat.le_refl _), ?_⟩
    have S3 : Sim X.K X.mg Z F2 ρ2 μ2 (wipeD δ2 vs) σ H2 := S2.agree (wipe_length _ _).symm fun i s e => (wout i e).symm
    exact p2 H2 F2 ρ2 .refl .refl S3 (.ref A) ⟨⟨A, rfl, fA, vals, hL, rL⟩, fun o p z1 z2 i o' e1 e2 => by
      cases z2
      exact nA i o' e1 (by rw [wout i e1]; exact e2)⟩
abbrev JTs (X : Cx) (W : WX) (ifs : List Expr) (m : MT) : Prop := PTs X ifs (rdT X W m)
theorem je_lc {elt tg iter : Expr} {ifs : List Expr} {scope : Scope} {own : List (Str × Nat)} {mi : MM (List D)} {f : TgF} {is : List Nat} {tests : MT} {m : ME} (hc : X.calm = true) (hN : X.N.Nodup) (hi : JI X W tg iter mi) (ok : BlkOk X.N X.env.scope scope own)
    (hg : ∀ (s : Shared) (H : Hp) (C : Addr) (cl : List (Str × Addr)) (fp : List Addr), JG (X.blk s H scope (compEnvC scope cl C X.env) fp) tg f is) (ht : ∀ (s : Shared) (H : Hp) (C : Addr) (cl : List (Str × Addr)) (fp : List Addr), JTs (X.blk s H scope (compEnvC scope cl C X.env) fp) W0 ifs tests)
    (he : ∀ (s : Shared) (H : Hp) (C : Addr) (cl : List (Str × Addr)) (fp : List Addr), JE (X.blk s H scope (compEnvC scope cl C X.env) fp) W0 elt m) (hsub : ∀ j ∈ is, j ∈ own.map (·.2)) (hs : ∀ x, foldedSetIterable iter X.env x = pure x := by intro _; rfl) :
    JE X W (.ListComp elt [⟨tg, iter, ifs, 0⟩] scope pos) (mLc mi f tests m (own.map (·.2))) :=
  (pe_lc (g := rdG X f is) (tt := rdT X W0 tests) (te := rdE X W0 m) hc hN hi ok hg ht he hs).imp (lc_read (Y := fun _ => True) (B := X) rfl rfl hsub)
end
end FL
namespace FL
open PySem PySem.Spec PyProof.Rows L2
structure RmG (k : Nat) (A : Around) : Prop where
  r : Room k A
  g : A.guards = some []
structure FnG (P : Program) (w : World) (K : PySem.W.Frag) (mg : Str → Option Value) (base : Heap) (Y : CXT) (k : Nat) (f : Addr) (fd : FuncData) (ps : List Str) (sp : Sp) : Prop where
  len : ∀ vs H Q E, sp vs H Q E → vs.length = ps.length
  run : ∀ (A : Around) (outer : List Env) (s : Shared) (H : Hp) (args : Args) (us : List Value) (vs : List V) (Q : VK) (E : XK), RmG k A → Env0 P w K mg base A outer s H → BindsTo s fd args (ps.zip us) → Vals vs us → sp vs H Q E →
    codeAny (model P w) A (.call (.ref f) args) (CR Y outer P w H s Q E) s
structure Fd (K : PySem.W.Frag) (x qual : Str) (st : Stmt) (f : Addr) (fd : FuncData) (dV : Value) : Prop where
  ex : ∃ (oc : Value) (od : Option Addr) (kV doc pm : Value) (an : Option Addr) (cdv ct : Value) (osl : Array (Option Value)),
    fd = PySem.W.fnOf x qual (defArgs st) (defBody st) (defScope st) dV kV doc pm an cdv ct ∧ K.lookup f = some { cls := oc, dict := od, data := .func fd, slots := osl } ∧ PySem.W.codeIn K cdv qual = true
inductive OutF where
  | ok (s : Slot) (μ : Mem)
  | exc (x : Exc) (μ : Mem)
  | bad
abbrev MF := List D → Mem → OutF
section
variable (K : PySem.W.Frag) (mg : Str → Option Value)
def FinF (Z F : Hp) (ρ : List Addr) (Q : VK) (E : XK) : OutF → Prop
  | .ok s μ => ∀ v H' F' ρ', Le Z F F' → LeR Z ρ ρ' → Sim K mg Z F' ρ' μ [] [] H' → SlotR K mg Z F' ρ' H' v s → Q v H'
  | .exc x μ => ∀ c d H' F' ρ', Le Z F F' → LeR Z ρ ρ' → Sim K mg Z F' ρ' μ [] [] H' → ExcR K mg F' ρ' c d x → E c d H'
  | .bad => False
def spM (m : MF) (n : Nat) : Sp := fun vs H Q E => vs.length = n ∧ ∃ Z F ρ μ ds, Sim K mg Z F ρ μ [] [] H ∧ RepL K mg F ρ vs ds ∧ FinF K mg Z F ρ Q E (m ds μ)
end
structure Cs (X : Cx) (W : WX) (k : Nat) (N : List Str) (sc : Scope) : Prop where
  calm : X.calm = true
  rm : RmG k X.A
  tk : Takes X W
  hN : X.N = N
  hsc : X.env.scope = sc
  nd : N.Nodup
structure Cd (X : Cx) (W : WX) (k : Nat) (N : List Str) (sc : Scope) : Prop extends Cs X W k N sc where
  hp : PassesOwn (model X.prog X.w) X.A X.env X.xe
  fn : ∀ x, L2.Loc X.env.scope x → X.fn x = true
section
variable {X : Cx} {W : WX} {k j : Nat} {N : List Str} {sc : Scope} {e : Expr} {es : List Expr} {pos p : Pos} {f : Addr} {fd : FuncData} {ps : List Str} {x : Str}
structure Fu (P : Program) (w : World) (K : PySem.W.Frag) (mg : Str → Option Value) (base : Heap) (k : Nat) (x : Str) (m : MF) (n : Nat) (dds : List D) : Prop where
  ex : ∃ (f : Addr) (fd : FuncData) (ps : List Str) (ds : List Value) (dvs : List V), FnG P w K mg base (L2.CX P w) k f fd ps (spM K mg m n) ∧ mg x = some (.ref f) ∧ PySem.W.keepIn K (.ref f) = true ∧ Binds K fd ps ds ∧ Vals dvs ds ∧ ∀ F ρ, RepL K mg F ρ dvs dds
abbrev FuX (X : Cx) (k : Nat) (x : Str) (m : MF) (n : Nat) (dds : List D) : Prop := Fu X.prog X.w X.K X.mg X.base k x m n dds
theorem run_callG {Y : CXT} {sp : Sp} {dvs : List V} {ds : List Value} {E : L2.St → XK} {pins : List (Addr × Obj)} {σ : L2.St} {H : Hp} {s : Shared} {Q : VK} {us : List Value} {vs : List V} (F : FnG X.prog X.w X.K X.mg X.base Y j f fd ps sp) (hr : RmG j X.A) (hb : Binds X.K fd ps ds) (hd : Vals dvs ds) (hx : PassesAt Y X σ (E σ))
    (I : Inv X pins σ H s) (r : Vals vs us) (h : sp (vs ++ dvs) H Q (E σ)) : wpAny (model X.prog X.w) X.A (call (.ref f) us) (EP X pins σ Q) X.xe s := by
  have r' : Vals (vs ++ dvs) (us ++ ds) := r.append hd
  have hlen : (us ++ ds).length = ps.length := by rw [← r'.length]; exact F.len _ _ _ _ h
  refine wpAny_call (codeAny_mono (F.run X.A X.stack s H ⟨us, []⟩ _ _ Q (E σ) hr I.env0 (hb s us I.kIn hlen) r' h) fun res s' hq => ?_)
  cases res with
  | error e => exact hx pins H s e s' I hq
  | ok fl =>
    cases fl with
    | ret u => exact I.after hq
    | next => exact False.elim hq
    | brk => exact False.elim hq
    | cont => exact False.elim hq
def glC (sc : Scope) (x : Str) : Bool := decide (sc.names.lookup x = some .globalImplicit) && !(x == ("__debug__" : Str)) && !decide (x = "__name__")
theorem Cs.gl (C : Cs X W k N sc) (h : glC sc x = true) : Gl X x ∧ (x == ("__debug__" : Str)) = false ∧ x ≠ "__name__" := by
  unfold glC at h
  simp only [Bool.and_eq_true, Bool.not_eq_true', decide_eq_true_eq, decide_eq_false_iff_not] at h
  refine ⟨?_, h.1.2, h.2⟩
  show X.env.scope.names.lookup x = _
  rw [C.hsc]; exact h.1.1
def varC (N : List Str) (sc : Scope) (i : Nat) (x : Str) : Bool := decide (N[i]? = some x) && (decide (sc.names.lookup x = some .local) || (decide (sc.names.lookup x = some .cell) || decide (sc.names.lookup x = some .free))) && !(x == ("__debug__" : Str)) && !(x == ("__classdict__" : Str))
theorem Cs.var {i : Nat} (C : Cs X W k N sc) (h : varC N sc i x = true) : PE X (.Name x p) (tVar i) := by
  unfold varC at h
  simp only [Bool.and_eq_true, Bool.not_eq_true', decide_eq_true_eq, Bool.or_eq_true] at h
  obtain ⟨⟨⟨h1, h2⟩, h3⟩, h4⟩ := h
  refine pe_var (by rw [C.hN]; exact h1) ?_ h3 h4
  show X.env.scope.names.lookup x = _ ∨ X.env.scope.names.lookup x = _ ∨ X.env.scope.names.lookup x = _
  rw [C.hsc]; exact h2
theorem Cs.v {i : Nat} (C : Cs X W k N sc) (h : varC N sc i x = true) : JE X W (.Name x p) (mV i) := je_v (C.var h)
def locC (N : List Str) (sc : Scope) (i : Nat) (x : Str) : Bool := decide (N[i]? = some x) && (decide (sc.names.lookup x = some .local) || decide (sc.names.lookup x = some .cell))
theorem Cd.loc {i : Nat} (C : Cd X W k N sc) (h : locC N sc i x = true) : X.N.Nodup ∧ X.N[i]? = some x ∧ L2.Loc X.env.scope x := by
  unfold locC at h
  simp only [Bool.and_eq_true, decide_eq_true_eq, Bool.or_eq_true] at h
  refine ⟨by rw [C.hN]; exact C.nd, by rw [C.hN]; exact h.1, ?_⟩
  show X.env.scope.names.lookup x = _ ∨ X.env.scope.names.lookup x = _
  rw [C.hsc]; exact h.2
theorem Cd.set {i : Nat} {m : ME} {pos' : Pos} (C : Cd X W k N sc) (h : locC N sc i x = true) (he : JE X W e m) (hs : swapsWith e (some (.Name x pos')) pos.line X.env = pure false := by rfl) : JS X W (.Assign [.Name x pos'] e pos) (mSet i m) :=
  let ⟨a, b, c⟩ := C.loc h
  js_set a b c he hs (.inl (C.fn x c))
theorem Cd.tg {i : Nat} (C : Cd X W k N sc) (h : locC N sc i x = true) : JG X (.Name x pos) (tgV i) [i] :=
  let ⟨a, b, c⟩ := C.loc h
  jg_v a b c (.inl (C.fn x c))
def ownC (N : List Str) (sc : Scope) (i : Nat) (x : Str) : Bool := decide (N[i]? = some x) && decide (sc.names.lookup x = some .local)
theorem Cs.own {i : Nat} (C : Cs X W k N sc) (h : ownC N sc i x = true) : X.N.Nodup ∧ X.N[i]? = some x ∧ X.env.scope.names.lookup x = some .local := by
  unfold ownC at h
  simp only [Bool.and_eq_true, decide_eq_true_eq] at h
  exact ⟨by rw [C.hN]; exact C.nd, by rw [C.hN]; exact h.1, by rw [C.hsc]; exact h.2⟩
theorem Cs.tg {i : Nat} (C : Cs X W k N sc) (h : ownC N sc i x = true) : JG X (.Name x pos) (tgV i) [i] :=
  let ⟨a, b, c⟩ := C.own h
  jg_v a b (.inl c) (.inr c)
theorem Cs.blk (C : Cs X W k N sc) (scope : Scope) (s : Shared) (H : Hp) (c : Addr) (cl : List (Str × Addr)) (fp : List Addr) : Cs (X.blk s H scope (compEnvC scope cl c X.env) fp) W0 k N (relS scope sc) :=
  ⟨C.calm, C.rm, fun _ _ ⟨_, _, _, _, _, _, _, _, _, _, _, _, _, _, _, _, z⟩ => z.elim, C.hN, by
    show relabel scope X.env = relS scope sc
    rw [← C.hsc]; rfl, C.nd⟩
theorem Cs.lc {elt tg iter : Expr} {ifs : List Expr} {scope : Scope} {mi : MM (List D)} {f : TgF} {is : List Nat} {tests : MT} {m : ME} {Tx : Program → World → PySem.W.Frag → (Str → Option Value) → Heap → Prop} (C : Cs X W k N sc) (T : Tx X.prog X.w X.K X.mg X.base) (own : List (Str × Nat)) (hi : JI X W tg iter mi) (ok : blkC N sc scope own = true)
    (hb : ∀ (Y : Cx), Tx Y.prog Y.w Y.K Y.mg Y.base → Cs Y W0 k N (relS scope sc) → JG Y tg f is ∧ JTs Y W0 ifs tests ∧ JE Y W0 elt m) (hsub : (is.all fun j => (own.map (·.2)).contains j) = true) (hs : ∀ x, foldedSetIterable iter X.env x = pure x := by intro _; rfl) :
    JE X W (.ListComp elt [⟨tg, iter, ifs, 0⟩] scope pos) (mLc mi f tests m (own.map (·.2))) :=
  je_lc C.calm (by rw [C.hN]; exact C.nd) hi (by rw [C.hN, C.hsc]; exact blkOk_by ok) (fun s H c cl fp => (hb (X.blk s H scope (compEnvC scope cl c X.env) fp) T (C.blk scope s H c cl fp)).1) (fun s H c cl fp => (hb (X.blk s H scope (compEnvC scope cl c X.env) fp) T (C.blk scope s H c cl fp)).2.1)
    (fun s H c cl fp => (hb (X.blk s H scope (compEnvC scope cl c X.env) fp) T (C.blk scope s H c cl fp)).2.2) (fun j hj => by simpa using List.all_eq_true.mp hsub j hj) hs
end
end FL
namespace FL
open PySem PySem.Spec PyProof.Rows L2
section
variable {X : Cx} {W : WX} {k j : Nat} {N : List Str} {sc : Scope} {a b c e o : Expr} {es : List Expr} {pos p apos : Pos} {x : Str} {oa ob : Opn}
theorem Cs.ty {T : String} (C : Cs X W k N sc) (h : glC sc x = true) (hm : X.mg x = none) (hv : bootBuiltins x = some (.type T)) : JE X W (.Name x pos) (mD (.ty T)) :=
  let ⟨g1, g2, g3⟩ := C.gl h
  je_ty g1 hm hv g3 g2
end
end FL
namespace FL
open PySem PySem.Spec PyProof.Rows L2
def clsDef (j : Nat) : Stmt → Stmt
  | .ClassDef _ _ _ body _ _ _ _ _ _ _ => body.getD j (.Pass ⟨0, 0, 0, 0⟩)
  | s => s
end FL
namespace FL
open PySem PySem.Spec PyProof.Rows L2 LamX
structure LmS (N : List Str) (sc scope : Scope) : Prop where
  kind : scope.kind = .function
  co : scope.isCoroutine = false
  gen : scope.isGenerator = false
  own : ∀ y ∈ scope.names, y.2 ≠ .cell ∧ (y.2 = .local → y.1 ∉ N)
  free : ∀ y ∈ scope.names, y.2 = .free → sc.names.lookup y.1 = some .cell ∨ sc.names.lookup y.1 = some .free
theorem LmS.has {N : List Str} {X : Cx} {scope : Scope} (L : LmS N X.env.scope scope) (ok : X.Ok) (y) (hy : y ∈ scope.names) (e : y.2 = .free) : ∃ c, X.env.cells.lookup y.1 = some c :=
  (L.free y hy e).elim (fun k => ok.has _ (Or.inl k)) fun k => ok.has _ (Or.inr k)
structure Cm (X : Cx) (W : WX) (k : Nat) (N : List Str) (sc : Scope) (q : Str) (P : Addr) : Prop extends Cd X W k N sc where
  tab : ∃ c, X.env.code = .ref c ∧ TabB X.base X.mg c P
  qual : X.env.qual ++ "<lambda>" = q
structure FdL (K : PySem.W.Frag) (x qual : Str) (st : Stmt) (f : Addr) (fd : FuncData) (dV : Value) (c : Addr) : Prop where
  ex : ∃ (oc : Value) (od : Option Addr) (kV doc pm : Value) (an : Option Addr) (ct : Value) (osl : Array (Option Value)),
    fd = PySem.W.fnOf x qual (defArgs st) (defBody st) (defScope st) dV kV doc pm an (.ref c) ct ∧ K.lookup f = some { cls := oc, dict := od, data := .func fd, slots := osl } ∧ PySem.W.codeIn K (.ref c) qual = true
theorem FdL.fd {K : PySem.W.Frag} {x qual : Str} {st : Stmt} {f : Addr} {fd : FuncData} {dV : Value} {c : Addr} (F : FdL K x qual st f fd dV c) : Fd K x qual st f fd dV :=
  let ⟨oc, od, kV, doc, pm, an, ct, osl, h1, h2, h3⟩ := F.ex
  ⟨oc, od, kV, doc, pm, an, .ref c, ct, osl, h1, h2, h3⟩
theorem Cm.body {X : Cx} {W : WX} {k kh : Nat} {N : List Str} {sc scope : Scope} {q : Str} {P : Addr} {Tx : Program → World → PySem.W.Frag → (Str → Option Value) → Heap → Prop} {body : Expr} {m : ME} (C : Cm X W k N sc q P) (T : Tx X.prog X.w X.K X.mg X.base)
    (h : ∀ (Y : Cx) (V : WX), Tx Y.prog Y.w Y.K Y.mg Y.base → Cs Y V kh N scope → JE Y V body m) :
    ∀ (Y : Cx) (V : WX), Y.prog = X.prog → Y.w = X.w → Y.K = X.K → Y.mg = X.mg → Y.base = X.base → Cs Y V kh N scope → JE Y V body m := fun Y V e1 e2 e3 e4 e5 c => h Y V (by rw [e1, e2, e3, e4, e5]; exact T) c
end FL
namespace FL
open PySem PySem.Spec PyProof.Rows L2 LamX
theorem Cs.cls {X : Cx} {W : WX} {k : Nat} {N : List Str} {sc : Scope} {x : String} {pos : Pos} (C : Cs X W k N sc) (h : glC sc (Str.ofString x) = true) (hm : ∃ D : Addr, X.mg (Str.ofString x) = some (.ref D)) : JE X W (.Name (Str.ofString x) pos) (mD (.glo x)) :=
  let ⟨g1, g2, g3⟩ := C.gl h
  let ⟨D, hm⟩ := hm
  je_glo g1 hm (v := .ref D) rfl g2
end FL
namespace FL
open PySem PySem.Spec PyProof.Rows L2
inductive Att where
  | fld | con (d : D) | no
structure CallD (X : Cx) (k : Nat) (a : Addr) (m : MF) (n : Nat) (dds : List D) : Prop where
  ex : ∃ dvs : List V, (∀ F ρ, RepL X.K X.mg F ρ dvs dds) ∧ (RmG k X.A → ∀ (pins : List (Addr × Obj)) (σ : L2.St) (H : Hp) (s : Shared) (us : List Value) (vs : List V) (Q : VK) (E : XK), PassesAt (L2.CX X.prog X.w) X σ E → Inv X pins σ H s → Vals vs us →
    spM X.K X.mg m n (vs ++ dvs) H Q E → wpAny (model X.prog X.w) X.A (call (.ref a) us) (EP X pins σ Q) X.xe s)
section
variable {X : Cx} {W : WX} {k j n : Nat} {N : List Str} {sc : Scope} {e : Expr} {es : List Expr} {pos p : Pos} {f C : Addr} {fd : FuncData} {ps : List Str} {ds : List Value} {dvs : List V} {dds : List D} {m : MF} {x : Str}
theorem CallD.fn (F : FnG X.prog X.w X.K X.mg X.base (L2.CX X.prog X.w) j f fd ps (spM X.K X.mg m n)) (hb : Binds X.K fd ps ds) (hd : Vals dvs ds) (hdd : ∀ F ρ, RepL X.K X.mg F ρ dvs dds) : CallD X j f m n dds :=
  ⟨dvs, hdd, fun hr pins σ H s us vs Q E hx I r h => run_callG (E := fun _ => E) F hr hb hd hx I r h⟩
theorem CallD.of (F : FuX X j x m n dds) : ∃ a, X.mg x = some (.ref a) ∧ PySem.W.keepIn X.K (.ref a) = true ∧ CallD X j a m n dds := by
  obtain ⟨f, fd, ps, ds, dvs, F, hm, hk, hb, hd, hdd⟩ := F.ex
  exact ⟨f, hm, hk, .fn F hb hd hdd⟩
end
end FL
namespace FL
open PySem PySem.Spec PyProof.Rows L2
inductive Sel where
  | pos (i : Nat) | key (i : Nat) | dfl (i : Nat)
def Sel.get {α : Type} (vs ds zs : List α) : Sel → Option α
  | .pos i => vs[i]?
  | .key i => zs[i]?
  | .dfl i => ds[i]?
def pickS {α : Type} (sel : List Sel) (vs ds zs : List α) : List α := sel.filterMap (Sel.get vs ds zs)
theorem vals_nth : ∀ {vs : List V} {us : List Value}, Vals vs us → ∀ i : Nat, (vs[i]? = none ∧ us[i]? = none) ∨ ∃ v u, vs[i]? = some v ∧ us[i]? = some u ∧ RelV v u
  | _, _, .nil, i => .inl ⟨rfl, rfl⟩
  | _, _, .cons h t, 0 => .inr ⟨_, _, rfl, rfl, h⟩
  | _, _, .cons h t, i + 1 => by simpa using vals_nth t i
theorem pickS_vals {vs dv zs : List V} {us dw ws : List Value} (h1 : Vals vs us) (h2 : Vals dv dw) (h3 : Vals zs ws) : ∀ sel : List Sel, Vals (pickS sel vs dv zs) (pickS sel us dw ws)
  | [] => .nil
  | a :: sel => by
    have ih := pickS_vals h1 h2 h3 sel
    have q : (a.get vs dv zs = none ∧ a.get us dw ws = none) ∨ ∃ v u, a.get vs dv zs = some v ∧ a.get us dw ws = some u ∧ RelV v u := by
      cases a with
      | pos i => exact vals_nth h1 i
      | key i => exact vals_nth h3 i
      | dfl i => exact vals_nth h2 i
    unfold pickS at ih ⊢
    rcases q with ⟨e1, e2⟩ | ⟨v, u, e1, e2, r⟩
    · rw [List.filterMap_cons_none e1, List.filterMap_cons_none e2]; exact ih
    · rw [List.filterMap_cons_some e1, List.filterMap_cons_some e2]; exact .cons r ih
def BindW (K : PySem.W.Frag) (fd : FuncData) (ps : List Str) (n : Nat) (ks : List Str) (sel : List Sel) (dw : List Value) : Prop :=
  ∀ (s : Shared) (us ws : List Value), K.In s.heap → us.length = n → ws.length = ks.length → BindsTo s fd ⟨us, ks.zip ws⟩ (ps.zip (pickS sel us dw ws))
structure CallW (X : Cx) (k : Nat) (a : Addr) (n : Nat) (ks : List Str) (sel : List Sel) (m : MF) (N : Nat) (dds : List D) : Prop where
  kp : PySem.W.keepIn X.K (.ref a) = true
  len : ∀ {α : Type} (vs ds zs : List α), vs.length = n → ds.length = dds.length → zs.length = ks.length → (pickS sel vs ds zs).length = N
  ex : ∃ dvs : List V, (∀ F ρ, RepL X.K X.mg F ρ dvs dds) ∧ (RmG k X.A → ∀ (pins : List (Addr × Obj)) (σ : L2.St) (H : Hp) (s : Shared) (us ws : List Value) (vs zs : List V) (Q : VK) (E : XK), PassesAt (L2.CX X.prog X.w) X σ E → Inv X pins σ H s → Vals vs us → Vals zs ws → vs.length = n → zs.length = ks.length →
    spM X.K X.mg m N (pickS sel vs dvs zs) H Q E → wpAny (model X.prog X.w) X.A (call (.ref a) us (ks.zip ws)) (EP X pins σ Q) X.xe s)
section
variable {X : Cx} {W : WX} {k j n N : Nat} {e : Expr} {es : List Expr} {kws : List Keyword} {pos p : Pos} {f C a : Addr} {fd : FuncData} {ps ks : List Str} {ds : List Value} {dvs : List V} {dds : List D} {m mi : MF} {x : Str} {c : String} {sel : List Sel}
theorem run_callW {pins : List (Addr × Obj)} {σ : L2.St} {H : Hp} {s : Shared} {Q : VK} {E : XK} {us ws : List Value} {vs zs : List V} {sp : Sp} (F : FnG X.prog X.w X.K X.mg X.base (L2.CX X.prog X.w) j f fd ps sp) (hr : RmG j X.A) (hb : BindW X.K fd ps n ks sel ds) (hd : Vals dvs ds)
    (hx : PassesAt (L2.CX X.prog X.w) X σ E) (I : Inv X pins σ H s) (r : Vals vs us) (rz : Vals zs ws) (l1 : vs.length = n) (l2 : zs.length = ks.length) (h : sp (pickS sel vs dvs zs) H Q E) :
    wpAny (model X.prog X.w) X.A (call (.ref f) us (ks.zip ws)) (EP X pins σ Q) X.xe s := by
  refine wpAny_call (codeAny_mono (F.run X.A X.stack s H ⟨us, ks.zip ws⟩ _ _ Q E hr I.env0 (hb s us ws I.kIn (by rw [← r.length, l1]) (by rw [← rz.length, l2])) (pickS_vals r hd rz sel) h) fun res t ht => ?_)
  match res, ht with
  | .error er, ht => exact hx pins H s er t I ht
  | .ok (.ret u), ht => exact I.after ht
theorem CallW.fn (F : FnG X.prog X.w X.K X.mg X.base (L2.CX X.prog X.w) j f fd ps (spM X.K X.mg m N)) (hk : PySem.W.keepIn X.K (.ref f) = true) (hb : BindW X.K fd ps n ks sel ds) (hd : Vals dvs ds) (hdd : ∀ F ρ, RepL X.K X.mg F ρ dvs dds)
    (len : ∀ {α : Type} (vs ds zs : List α), vs.length = n → ds.length = dds.length → zs.length = ks.length → (pickS sel vs ds zs).length = N) : CallW X j f n ks sel m N dds :=
  ⟨hk, len, dvs, hdd, fun hr pins σ H s us ws vs zs Q E hx I r rz l1 l2 h => run_callW F hr hb hd hx I r rz l1 l2 h⟩
end
end FL
namespace FL
open PySem PySem.Spec PyProof.Rows L2
section
variable {X : Cx} {W : WX} {k j n N : Nat} {e o : Expr} {es : List Expr} {kws : List Keyword} {pos p apos : Pos} {C g a dx q : Addr} {fd : FuncData} {ps : List Str} {fs : List (Str × V)} {f : Str} {sp : Sp} {nm : Str}
def PropG (X : Cx) (j : Nat) (c f : String) (m : MF) : Prop :=
  ∀ C, X.mg (Str.ofString c) = some (.ref C) → Cls X.K C ∧ ∃ (p g : Addr) (fd : FuncData) (nm : Str), PropOf X.K C (Str.ofString f) p g ∧ FnG X.prog X.w X.K X.mg X.base (L2.CX X.prog X.w) j g fd [nm] (spM X.K X.mg m 1) ∧ Binds X.K fd [nm] []
def PropsOk (X : Cx) (j : Nat) (pt : String → String → Option MF) : Prop := ∀ c f m, pt c f = some m → PropG X j c f m
def MethG (X : Cx) (j : Nat) (c f : String) (n : Nat) (m : MF) : Prop :=
  ∀ C, X.mg (Str.ofString c) = some (.ref C) → Cls X.K C ∧ ∃ (g : Addr) (fd : FuncData) (ps : List Str) (ds : List Value) (dvs : List V) (dds : List D) (m' : MF) (N : Nat), Meth X.K C (Str.ofString f) g ∧ FnG X.prog X.w X.K X.mg X.base (L2.CX X.prog X.w) j g fd ps (spM X.K X.mg m' N) ∧ Binds X.K fd ps ds ∧ Vals dvs ds ∧
    (∀ F ρ, RepL X.K X.mg F ρ dvs dds) ∧ n + 1 + dds.length = N ∧ ∀ ds' μ, m ds' μ = m' (ds' ++ dds) μ
def MethsOk (X : Cx) (j : Nat) (mt : String → String → Nat → Option MF) : Prop := ∀ c f n m, mt c f n = some m → MethG X j c f n m
end
end FL
namespace FL
open PySem PySem.Spec PyProof.Rows L2
abbrev clsE (qual : Str) (scope : Scope) (L f : Addr) (cd : Value) (cc : Addr) : Env := PySem.W.ksEnv qual scope L f cd cc
structure FdC (K : PySem.W.Frag) (x qual : Str) (st : Stmt) (f : Addr) (fd : FuncData) (dV : Value) (cda cc D : Addr) : Prop where
  ex : ∃ (oc : Value) (od : Option Addr) (kV doc pm : Value) (an : Option Addr) (ct : Value) (osl : Array (Option Value)),
    fd = PySem.W.ksFn x qual (defArgs st) (defBody st) (defScope st) dV kV doc pm an (.ref cda) ct cc ∧ K.lookup f = some { cls := oc, dict := od, data := .func fd, slots := osl }
  cd : PySem.W.codeIn K (.ref cda) qual = true
  cell : ∃ cl cld csl, K.lookup cc = some { cls := cl, dict := cld, data := .cell (some (.ref D)), slots := csl }
structure CsK (X : Cx) (f cda cc D : Addr) (st : Stmt) : Prop where
  fd : ∃ fd x qual dV, FdC X.K x qual st f fd dV cda cc D ∧ X.env = clsE qual (defScope st) X.env.locals f (.ref cda) cc
end FL
namespace FL
open PySem PySem.Spec PyProof.Rows L2
structure SupT (X : Cx) (f cda cc D : Addr) (p0 : Str) : Prop where
  lk : ∃ o fd ar, X.K.lookup f = some o ∧ o.data = .func fd ∧ (fd.params.posonlyargs ++ fd.params.args).head? = some ar ∧ ar.arg = p0
  code : ∃ ccl cdd vs ccs file tf, X.K.lookup cda = some { cls := ccl, dict := cdd, data := .fields vs, slots := ccs } ∧ vs[2]? = some (.str file tf) ∧ ((X.prog.main.file : Str) == file) = true
  cell : ∃ cl cld csl, X.K.lookup cc = some { cls := cl, dict := cld, data := .cell (some (.ref D)), slots := csl }
  clsD : ∃ cdD, PySem.W.clsIn X.K D = some cdD
  any : PySem.W.nsIn X.K cStatics "thirdparty.any" = some none
  top : (X.prog.main.scope.names.lookup ("super" : Str)).isSome = false
  sup : X.mg "super" = none
  ls : X.env.scope.names.lookup ("super" : Str) = some .globalImplicit
  lc : X.env.scope.names.lookup ("__class__" : Str) = some .free
  l0 : X.env.scope.names.lookup p0 = some .local
  n0 : X.N[0]? = some p0
  func : X.env.func = some f
  ecode : X.env.code = .ref cda
  cells : X.env.cells.lookup ("__class__" : Str) = some cc
def SupG (X : Cx) (j : Nat) (c f : String) (D : Addr) (mi : MF) (N : Nat) : Prop :=
  ∀ C, X.mg (Str.ofString c) = some (.ref C) → ∃ (g : Addr) (og : Obj) (fd : FuncData) (ps : List Str) (ds : List Value) (dvs : List V) (cdC : ClassData), PySem.W.clsIn X.K C = some cdC ∧ PySem.W.alongIn X.K (Str.ofString f) ((cdC.mro.dropWhile (· != .ref D)).drop 1) = some (some (.ref g)) ∧
    X.K.lookup g = some og ∧ og.cls = .type "function" ∧ PySem.W.fnIn X.K g = true ∧ PySem.W.mroIn X.K C (.ref D) = some true ∧ FnG X.prog X.w X.K X.mg X.base (L2.CX X.prog X.w) j g fd ps (spM X.K X.mg mi N) ∧ Binds X.K fd ps []
end FL
namespace FL
open PySem PySem.Spec PyProof.Rows L2 LamX
abbrev oTab : Obj := { cls := .none, data := .fields #[] }
end FL
namespace FL
open PySem PySem.Spec PyProof.Rows L2 LamX
structure Dsc where
  p : Str × Option Str
  x : Str
  qual : Str
  st : Stmt
  clo : List Str
  /-- it has no positional defaults -/
  nd : Bool := true
def fAdF (K : PySem.W.Frag) (p : Str × Option Str) : Addr := match PySem.W.recIn K (He.fAd K p) "property" with
  | some (.ref g :: _) => g
  | _ => (match PySem.W.recIn K (He.fAd K p) "staticmethod" with
    | some (.ref g :: _) => g
    | _ => He.fAd K p)
abbrev FnS : Type := Option (Str × Str × Arguments × FuncBody × Scope × Addr × List Str × Addr)
def fnS (K : PySem.W.Frag) (p : Str × Option Str) : FnS := match K.lookup (fAdF K p) with
  | some ⟨_, _, .func fd, _⟩ => some (fd.name, fd.qualname, fd.params, fd.body, fd.scope, fd.globals, fd.closure.map (·.1), fd.builtins)
  | _ => none
def Dsc.val (d : Dsc) : FnS := some (d.x, d.qual, defArgs d.st, .stmts (defBody d.st), defScope d.st, mainGlobals, d.clo, builtinsNs)
def Dsc.ok (K : PySem.W.Frag) (d : Dsc) : Bool := match K.lookup (fAdF K d.p) with
  | some ⟨_, _, .func fd, _⟩ => PySem.W.codeIn K fd.code d.qual && (!d.nd || decide (fd.defaults = .none))
  | _ => false
def refsF (o : Obj) : List Addr := He.refsO o ++ match o.data with
  | .func fd => fd.closure.map (·.2) ++ He.refV fd.kwdefaults
  | .cell (some v) => He.refV v
  | _ => []
def ddF (p : Nat × List Addr) : List Addr → Nat × List Addr
  | [] => p
  | a :: as => ddF (bif Nat.beq (Nat.mod (Nat.shiftRight p.1 a) 2) 1 then p else (Nat.lor p.1 (Nat.shiftLeft 1 a), a :: p.2)) as
def growF (g : Addr → Option Obj) : Nat → Nat → List Addr → List Addr
  | 0, _, new => new
  | n + 1, seen, new => (fun p : Nat × List Addr => new ++ growF g n p.1 p.2.reverse) (ddF (seen, []) (new.flatMap fun a => match g a with
    | some o => refsF o
    | none => []))
def asF (g : Addr → Option Obj) (n : Nat) : List Addr := (fun p : Nat × List Addr => growF g n p.1 p.2.reverse) (ddF (Nat.shiftLeft 1 cStatics, []) [mainGlobals]) ++ [cStatics]
def keepO (o : Obj) : Bool := match o.cls, o.data with
  | .none, .fields _ => false
  | _, _ => true
def frF (g : Addr → Option Obj) (n : Nat) : PySem.W.Frag := He.frG g ((asF g n).filter fun a => match g a with
  | some o => keepO o
  | none => false)
abbrev FnP : Type := Str × Option Str
def codeAd (K : PySem.W.Frag) (p : FnP) : Addr := match K.lookup (fAdF K p) with
  | some ⟨_, _, .func fd, _⟩ => (match fd.code with
    | .ref c => c
    | _ => 0)
  | _ => 0
def tabAd (K : PySem.W.Frag) (p : FnP) : Addr := match K.lookup (codeAd K p) with
  | some ⟨_, _, .fields vs, _⟩ => (match (vs[11]? : Option Value) with
    | some (Value.ref P) => P
    | _ => 0)
  | _ => 0
abbrev Mks : Type := List (FnP × Str)
def tabOk (K : PySem.W.Frag) (ts : Mks) : Bool := (ts.all fun t => PySem.W.codeHdIn K (codeAd K t.1) (tabAd K t.1) && (K.lookup (tabAd K t.1)).isNone) && decide (ts.map fun t => tabAd K t.1).Nodup
abbrev HkA : Type := Bool × List FnS × List (Option Obj)
def hkObs (fs : List (PySem.W.Frag → Bool)) (ds : List Dsc) (ts : Mks) (g : Addr → Option Obj) (K : PySem.W.Frag) : HkA := (((fs.all fun f => f K) && ds.all fun d => d.ok K) && tabOk K ts, ds.map (fun d => fnS K d.p), ts.map fun t => g (tabAd K t.1))
def hkVal (ds : List Dsc) (ts : Mks) : HkA := (true, ds.map Dsc.val, ts.map fun _ => some oTab)
structure HkSays (fs : List (PySem.W.Frag → Bool)) (ds : List Dsc) (ts : Mks) (K : PySem.W.Frag) : Prop where
  t : (((fs.all fun f => f K) && ds.all fun d => d.ok K) && tabOk K ts) = true
  d : (ds.map fun d => fnS K d.p) = ds.map Dsc.val
def hkG (n : Nat) (fs : List (PySem.W.Frag → Bool)) (ds : List Dsc) (ts : Mks) (g : Addr → Option Obj) : HkA := hkObs fs ds ts g (frF g n)
theorem frF_in {n : Nat} {h : Heap} : (frF h.get? n).In h := fun _ _ e => He.frG_at _ e
def hookF (n : Nat) (fs : List (PySem.W.Frag → Bool)) (ds : List Dsc) (ts : Mks) : PySem.W.Hook where
  α := HkA
  obs := fun s => hkG n fs ds ts s.heap.get?
  val := fun _ => hkVal ds ts
  says := fun _ h => ∃ K : PySem.W.Frag, K.In h ∧ HkSays fs ds ts K ∧ ∀ t ∈ ts, h.get? (tabAd K t.1) = some oTab
  of := fun _ s e => ⟨_, frF_in, ⟨congrArg (fun z : HkA => z.1) e, congrArg (fun z : HkA => z.2.1) e⟩, fun t ht => by
    have z : (ts.map fun t => s.heap.get? (tabAd (frF s.heap.get? n) t.1)) = ts.map fun _ => some oTab := congrArg (fun z : HkA => z.2.2) e
    exact List.map_inj_left.mp z t ht⟩
  keeps := fun _ _ _ ⟨K, hK, c, x⟩ k => ⟨K, PySem.W.Frag.In.keeps hK k, c, fun t ht => k _ _ (x t ht)⟩
section
variable {fs : List (PySem.W.Frag → Bool)} {ds : List Dsc} {ts : Mks} {K : PySem.W.Frag}
theorem HkSays.both (c : HkSays fs ds ts K) : (fs.all fun f => f K) = true ∧ (ds.all fun d => d.ok K) = true := Bool.and_eq_true_iff.mp (Bool.and_eq_true_iff.mp c.t).1
theorem HkSays.fn0 (c : HkSays fs ds ts K) (i : Nat) {d : Dsc} (h : ds[i]? = some d) : ∃ oc od osl dV kV doc pm an cdv ct clo, clo.map (·.1) = d.clo ∧ K.lookup (fAdF K d.p) = some ⟨oc, od, .func (PySem.W.fnX d.x d.qual (defArgs d.st) (defBody d.st) (defScope d.st) clo dV kV doc pm an cdv ct), osl⟩ ∧ PySem.W.codeIn K cdv d.qual = true ∧ (d.nd = true → dV = .none) := by
  have e : (ds.map fun d => fnS K d.p)[i]? = (ds.map Dsc.val)[i]? := by rw [c.d]
  rw [List.getElem?_map, List.getElem?_map, h] at e
  have e : fnS K d.p = d.val := Option.some.inj e
  have k : d.ok K = true := List.all_eq_true.mp c.both.2 d (List.mem_of_getElem? h)
  unfold fnS at e
  unfold Dsc.ok at k
  cases q : K.lookup (fAdF K d.p) with
  | none => rw [q] at k; cases k
  | some o =>
    obtain ⟨oc, od, dt, osl⟩ := o
    rw [q] at k e
    cases dt with
    | func fd =>
      obtain ⟨n1, n2, n3, n4, n5, n6, n7, n8, n9, n10, n11, n12, n13, n14, n15⟩ := fd
      have e2 : (some (n1, n2, n3, n4, n5, n6, n7.map (·.1), n15) : FnS) = some (d.x, d.qual, defArgs d.st, .stmts (defBody d.st), defScope d.st, mainGlobals, d.clo, builtinsNs) := e
      simp only [Option.some.injEq, Prod.mk.injEq] at e2
      obtain ⟨h1, h2, h3, h4, h5, h6, h7, h8⟩ := e2
      obtain ⟨k1, k2⟩ := Bool.and_eq_true_iff.mp (show (PySem.W.codeIn K n13 d.qual && (!d.nd || decide (n8 = Value.none))) = true from k)
      subst h1 h2 h3 h4 h5 h6 h8
      refine ⟨oc, od, osl, n8, n9, n10, n11, n12, n13, n14, n7, h7, rfl, k1, fun hn => ?_⟩
      rw [hn] at k2
      exact of_decide_eq_true (by simpa using k2)
    | _ => cases k
theorem HkSays.fn (c : HkSays fs ds ts K) (i : Nat) {d : Dsc} (h : ds[i]? = some d) (hn : d.nd = true) : ∃ oc od osl kV doc pm an cdv ct clo, clo.map (·.1) = d.clo ∧ K.lookup (fAdF K d.p) = some ⟨oc, od, .func (PySem.W.fnX d.x d.qual (defArgs d.st) (defBody d.st) (defScope d.st) clo .none kV doc pm an cdv ct), osl⟩ ∧ PySem.W.codeIn K cdv d.qual = true := by
  obtain ⟨oc, od, osl, dV, kV, doc, pm, an, cdv, ct, clo, e1, e2, e3, e4⟩ := c.fn0 i h
  cases e4 hn
  exact ⟨oc, od, osl, kV, doc, pm, an, cdv, ct, clo, e1, e2, e3⟩
theorem HkSays.fd (c : HkSays fs ds ts K) (i : Nat) {d : Dsc} (h : ds[i]? = some d) (hc : d.clo = []) (hn : d.nd = true := by rfl) : ∃ fd, Fd K d.x d.qual d.st (fAdF K d.p) fd .none := by
  obtain ⟨oc, od, osl, kV, doc, pm, an, cdv, ct, clo, e1, e2, e3⟩ := c.fn i h hn
  rw [hc] at e1
  have e1 : clo = [] := List.map_eq_nil_iff.mp e1
  subst e1
  exact ⟨_, oc, od, kV, doc, pm, an, cdv, ct, osl, rfl, e2, e3⟩
end
end FL
namespace FL
open PySem PySem.Spec PyProof.Rows L2 LamX
def tFld (c f : Str) (K : PySem.W.Frag) : Bool := (He.Fa.cls c).ok K && (He.Fa.noat c f).ok K
def tCon (c f s : Str) (K : PySem.W.Frag) : Bool := (He.Fa.cls c).ok K && (match PySem.W.findIn K (.ref (He.ga K c)) f with
  | some (some (.str y t)) => decide (y = s) && (decide (PySem.W.specialIn K (.str y t) "__get__" = some none) && !PySem.W.copiedNames.contains f)
  | _ => false)
def tPrp (c f : Str) (K : PySem.W.Frag) : Bool := (He.Fa.cls c).ok K && (decide (PySem.W.findIn K (.ref (He.ga K c)) f = some (some (.ref (He.ma K (He.ga K c) f)))) && (decide (PySem.W.specialIn K (.ref (He.ma K (He.ga K c) f)) "__get__" = some (some (.builtin "property.__get__"))) &&
  (decide (PySem.W.takesIn K (.ref (He.ma K (He.ga K c) f)) = some true) && (match PySem.W.recIn K (He.ma K (He.ga K c) f) "property" with
    | some (.ref _ :: _) => true
    | _ => false))))
def tInit (c f : Str) (K : PySem.W.Frag) : Bool := decide (fAdF K (c, some f) = He.ma K (He.ga K c) f)
def strsB : List Value → List Str → Bool
  | [], [] => true
  | .str y _ :: vs, x :: xs => decide (y = x) && strsB vs xs
  | _, _ => false
def tTup (x : Str) (xs : List Str) (K : PySem.W.Frag) : Bool := match PySem.W.nsIn K mainGlobals x with
  | some (some (.ref a)) => (match K.lookup a with
    | some ⟨.type T, _, .seq its _, _⟩ => decide (T = "tuple") && (strsB its.toList xs && decide (xs.length ≤ 1000))
    | _ => false)
  | _ => false
def tSup (c D B f : Str) (K : PySem.W.Frag) : Bool := (match PySem.W.clsIn K (He.ga K c) with
  | some cd => decide (PySem.W.alongIn K f ((cd.mro.dropWhile (· != .ref (He.ga K D))).drop 1) = some (some (.ref (fAdF K (B, some f)))))
  | none => false) && ((match K.lookup (fAdF K (B, some f)) with
  | some ⟨.type T, _, _, _⟩ => decide (T = "function")
  | _ => false) && (PySem.W.fnIn K (fAdF K (B, some f)) && decide (PySem.W.mroIn K (He.ga K c) (.ref (He.ga K D)) = some true)))
abbrev pM (c m : String) : FnP := (Str.ofString c, some (Str.ofString m))
def ccAd (K : PySem.W.Frag) (p : FnP) : Addr := match K.lookup (fAdF K p) with
  | some ⟨_, _, .func fd, _⟩ => (match fd.closure with
    | [(_, c)] => c
    | _ => 0)
  | _ => 0
def tCell (c m file : Str) (K : PySem.W.Frag) : Bool := (match K.lookup (ccAd K (c, some m)) with
  | some ⟨_, _, .cell (some v), _⟩ => decide (v = .ref (He.ga K c))
  | _ => false) && ((match K.lookup (codeAd K (c, some m)) with
  | some ⟨_, _, .fields vs, _⟩ => (match (vs[2]? : Option Value) with
    | some (Value.str f _) => file == f
    | _ => false)
  | _ => false) && ((PySem.W.clsIn K (He.ga K c)).isSome && decide (PySem.W.nsIn K cStatics "thirdparty.any" = some none)))
def tFn (x : Str) (K : PySem.W.Frag) : Bool := (He.Fa.glo x).ok K && ((He.Fa.keep x).ok K && decide (fAdF K (x, none) = He.ga K x))
def tExc (c at_ : Str) (K : PySem.W.Frag) : Bool := (match K.lookup (He.ga K c) with
  | some ⟨.type T, _, .cls cd, sl⟩ => (match cd.mro, sl.toList with
    | .ref C' :: bm, [_, _, _, _, some (.builtin n), _] => decide (T = "type") && (C' == He.ga K c && (n == "ValueError.__new__" && (!cd.hasDel && (cd.hasDict && PySem.HandSPX.refsVE bm))))
    | _, _ => false)
  | _ => false) && (decide (PySem.W.findIn K (.ref (He.ga K c)) "__setattr__" = some (some (.builtin "object.__setattr__"))) && (decide (PySem.W.subIn K (.ref (He.ga K c)) (.type "BaseException") = some true) &&
  (decide (PySem.W.typeIn K (.ref (He.ga K c)) = some (.type "type")) && (PySem.W.keepIn K (.ref (He.ga K c)) && (decide (PySem.W.findIn K (.ref (He.ga K c)) "__init__" = some (some (.ref (fAdF K (c, some "__init__"))))) && (decide (PySem.W.typeIn K (.ref (fAdF K (c, some "__init__"))) = some (.type "function")) &&
  (decide (PySem.W.mroIn K (He.ga K c) (.ref (He.ga K c)) = some true) && (decide (PySem.W.ks_superIn K (He.ga K c) (He.ga K c) "__init__" = some (some (.builtin "ValueError.__init__"))) && (decide (PySem.W.subIn K (.ref (He.ga K c)) (.type "ValueError") = some true) &&
  decide (PySem.W.findIn K (.ref (He.ga K c)) at_ = some none))))))))))
abbrev AttTb : Type := List (String × String × Option String)
def attV : Option String → Att
  | none => .fld
  | some s => .con (.str (lit s))
def attT : AttTb → String → String → Att
  | [], _, _ => .no
  | (c', f', o) :: t, c, f => if c = c' ∧ f = f' then attV o else attT t c f
def tAtt1 (e : String × String × Option String) (K : PySem.W.Frag) : Bool := (He.Fa.glo (Str.ofString e.1)).ok K && match e.2.2 with
  | none => tFld (Str.ofString e.1) (Str.ofString e.2.1) K
  | some s => tCon (Str.ofString e.1) (Str.ofString e.2.1) (Str.ofString s) K
def tAtts (t : AttTb) (K : PySem.W.Frag) : Bool := t.all fun e => tAtt1 e K
abbrev PrpTb : Type := List (String × String × String)
def tPrp1 (e : String × String × String) (K : PySem.W.Frag) : Bool := (He.Fa.glo (Str.ofString e.1)).ok K && (tPrp (Str.ofString e.1) (Str.ofString e.2.1) K && decide (fAdF K (Str.ofString e.1, some (Str.ofString e.2.1)) = fAdF K (Str.ofString e.2.2, some (Str.ofString e.2.1))))
def tPrps (t : PrpTb) (K : PySem.W.Frag) : Bool := t.all fun e => tPrp1 e K
abbrev IsaTb : Type := List (String × String × Bool)
end FL
namespace FL
open PySem L2
def tMths (cs : List String) (b f : Str) (K : PySem.W.Frag) : Bool := PySem.W.isFn K (.ref (fAdF K (b, some f))) && (PySem.W.keepIn K (.ref (fAdF K (b, some f))) && cs.all fun c => (He.Fa.glo (Str.ofString c)).ok K && ((He.Fa.cls (Str.ofString c)).ok K &&
  decide (PySem.W.findIn K (.ref (He.ga K (Str.ofString c))) f = some (some (.ref (fAdF K (b, some f)))))))
end FL
namespace FL
open PySem PySem.Spec PyProof.Rows L2 LamX
def tIxa (c d : Str) (b : Bool) (K : PySem.W.Frag) : Bool := (PySem.W.clsIn K (He.ga K c)).isSome && (decide (PySem.W.findIn K (.ref (He.ga K c)) "__getattribute__" = some (some (.builtin "BaseException.__getattribute__"))) && (decide (PySem.W.findIn K (.ref (He.ga K c)) "__getattr__" = some none) && (decide (PySem.W.subIn K (.ref (He.ga K c)) (.type "BaseException") = some true) &&
  (decide (PySem.W.findIn K (.ref (He.ga K c)) "__class__" = some (some (.builtin "object.__class__"))) && (decide (PySem.W.specialIn K (.builtin "object.__class__") "__get__" = some (some (.builtin "getset_descriptor.__get__"))) &&
  (decide (PySem.W.takesIn K (.builtin "object.__class__") = some true) && (decide (PySem.W.mroIn K (He.ga K c) (.type "object") = some true) && decide (PySem.W.kitOne K (.ref (He.ga K c)) (.ref (He.ga K d)) = some b))))))))
def tIxas (t : IsaTb) (K : PySem.W.Frag) : Bool := t.all fun e => (He.Fa.glo (Str.ofString e.1)).ok K && ((He.Fa.glo (Str.ofString e.2.1)).ok K && tIxa (Str.ofString e.1) (Str.ofString e.2.1) e.2.2 K)
end FL
namespace FL
open PySem PySem.Spec PyProof.Rows L2 LamX
def tXfT (cs : List String) (f : Str) (K : PySem.W.Frag) : Bool := cs.all fun c => (He.Fa.glo (Str.ofString c)).ok K && (decide (PySem.W.findIn K (.ref (He.ga K (Str.ofString c))) "__getattribute__" = some (some (.builtin "BaseException.__getattribute__"))) && (decide (PySem.W.findIn K (.ref (He.ga K (Str.ofString c))) "__getattr__" = some none) &&
  (decide (PySem.W.subIn K (.ref (He.ga K (Str.ofString c))) (.type "BaseException") = some true) && (PySem.W.hasDictIn K (He.ga K (Str.ofString c)) && decide (PySem.W.findIn K (.ref (He.ga K (Str.ofString c))) f = some none)))))
def tSubs3 (es : List String) (t : List (String × Bool)) (K : PySem.W.Frag) : Bool := t.all fun e => (He.Fa.glo (Str.ofString e.1)).ok K && decide (PySem.W.exmAny K (.ref (He.ga K (Str.ofString e.1))) (es.map fun x => .ref (He.ga K (Str.ofString x))) = some e.2)
end FL
namespace L31
open PySem PySem.Spec PyProof.Rows L2 FL LamX
abbrev tp (i : Nat) : Stmt := PySem.Challenge.pw_findlang_k31_schemas.main.body.getD i (.Pass ⟨0, 0, 0, 0⟩)
def subl__law_error_of : List (String × Bool) := [("BadSchema", true)]
def attl : AttTb := [("Index", "kept", none), ("Index", "pieces", none), ("Index", "schema", none)]
def at_ : String → String → Att := attT attl
def prps : PrpTb := [("Index", "size", "View"), ("Index", "all_keys", "View"), ("Index", "segments", "Index"), ("Index", "vocabulary", "View")]
def isxl : IsaTb := [("BadSchema", "BadChange", false), ("BadSchema", "BadDocument", false), ("BadSchema", "BadField", false), ("BadSchema", "BadKey", false), ("BadSchema", "BadNumber", false), ("BadSchema", "BadQuery", false), ("BadSchema", "BadSchema", true), ("BadSchema", "NoDocument", false), ("BadSchema", "NoField", false), ("BadSchema", "NoSegment", false), ("BadSchema", "TooMany", false), ("BadSchema", "WrongKind", false)]
end L31
namespace FL
open PySem PySem.Spec PyProof.Rows L2
def tIdc (cs : List String) (K : PySem.W.Frag) : Bool := cs.all fun c => (He.Fa.glo (Str.ofString c)).ok K && (decide (PySem.W.mroIn K (He.ga K (Str.ofString c)) (.type "object") = some true) &&
  (decide (PySem.W.findIn K (.ref (He.ga K (Str.ofString c))) "__eq__" = some (some (.builtin "object.__eq__"))) && decide (PySem.W.subIn K (.ref (He.ga K (Str.ofString c))) (.type "NoneType") = some false)))
end FL
namespace L31
open PySem PySem.Spec PySem.W PySem.Calls PyProof.Rows FL
abbrev Rw : OpenRow := OpenLaw.row PySem.Challenge.rw_findlang_k31_schemas
abbrev qv : Program := view Rw.prog [60]
def names : List PySem.Str := ((["_wall", "__name__", "Invalid", "BadKey", "BadField", "BadSchema", "BadDocument", "BadQuery", "BadNumber", "BadChange", "Unfit", "NoField", "WrongKind", "NoDocument", "NoSegment", "Excess", "TooMany", "MAX_TEXT", "MAX_WORD", "MAX_FIELDS", "MAX_DOCUMENTS", "MAX_NAME", "LETTERS", "WORD_SIGNS", "is_integer", "is_made_of", "is_text", "is_key", "is_field_name", "split_words", "Entry", "Segment", "live_entries", "segment_row", "FIELD_KINDS", "GREATEST", "is_field_row", "need_schema", "kind_of_field", "need_key"] : List String) ++ (["is_value_for", "need_document", "View", "Reader", "is_change", "Batch", "Index", "_law_drawer", "_law_drawn", "_law_drawn_of", "_law_error_of", "_law_fields", "_law_schema_spoilt"] : List String)).map PySem.Str.ofString
def ds : List Dsc := [⟨pM "BadSchema" "__init__", "__init__", "BadSchema.__init__", clsDef 0 (tp 5), ["__class__"], true⟩,
  ⟨pM "View" "__init__", "__init__", "View.__init__", clsDef 0 (tp 46), [], true⟩,
  ⟨pM "Index" "__init__", "__init__", "Index.__init__", clsDef 0 (tp 52), ["__class__"], true⟩,
  ⟨pM "View" "size", "size", "View.size", clsDef 1 (tp 46), [], true⟩,
  ⟨pM "View" "__len__", "__len__", "View.__len__", clsDef 9 (tp 46), [], true⟩,
  ⟨pM "View" "all_keys", "all_keys", "View.all_keys", clsDef 2 (tp 46), [], true⟩,
  ⟨pM "Index" "segments", "segments", "Index.segments", clsDef 1 (tp 52), [], true⟩,
  ⟨pM "View" "vocabulary", "vocabulary", "View.vocabulary", clsDef 3 (tp 46), [], true⟩,
  ⟨("_law_drawer", none), "_law_drawer", "_law_drawer", tp 54, [], true⟩,
  ⟨("_law_drawn", none), "_law_drawn", "_law_drawn", tp 55, [], true⟩,
  ⟨("_law_drawn_of", none), "_law_drawn_of", "_law_drawn_of", tp 56, [], true⟩,
  ⟨("_law_fields", none), "_law_fields", "_law_fields", tp 58, [], true⟩,
  ⟨("is_made_of", none), "is_made_of", "is_made_of", tp 26, [], true⟩,
  ⟨("is_field_name", none), "is_field_name", "is_field_name", tp 29, [], true⟩,
  ⟨("is_field_row", none), "is_field_row", "is_field_row", tp 40, [], true⟩,
  ⟨("need_schema", none), "need_schema", "need_schema", tp 41, [], true⟩,
  ⟨("live_entries", none), "live_entries", "live_entries", tp 35, [], true⟩,
  ⟨("segment_row", none), "segment_row", "segment_row", tp 36, [], true⟩,
  ⟨("_law_schema_spoilt", none), "_law_schema_spoilt", "_law_schema_spoilt", tp 59, [], true⟩,
  ⟨("_law_error_of", none), "_law_error_of", "_law_error_of", tp 57, [], true⟩,
  ⟨("law", none), "law", "law", tp 60, [], true⟩]
def fs : List (PySem.W.Frag → Bool) := [fun K => (He.Fa.free "all").ok K,
  fun K => (He.Fa.free "dict").ok K,
  fun K => (He.Fa.free "isinstance").ok K,
  fun K => (He.Fa.free "len").ok K,
  fun K => (He.Fa.free "max").ok K,
  fun K => (He.Fa.free "min").ok K,
  fun K => (He.Fa.free "range").ok K,
  fun K => (He.Fa.free "set").ok K,
  fun K => (He.Fa.free "sorted").ok K,
  fun K => (He.Fa.free "str").ok K,
  fun K => (He.Fa.free "super").ok K,
  fun K => (He.Fa.free "tuple").ok K,
  fun K => (He.Fa.str "LETTERS" "abcdefghijklmnopqrstuvwxyz").ok K,
  fun K => (He.Fa.int "MAX_FIELDS" 6).ok K,
  fun K => (He.Fa.int "MAX_NAME" 12).ok K,
  tTup "FIELD_KINDS" ([lit "text", lit "number"].map toS),
  fun K => (He.Fa.glo "BadSchema").ok K,
  tExc "BadSchema" "reason",
  tCell "BadSchema" "__init__" PySem.Challenge.pw_findlang_k31_schemas.main.file,
  fun K => (He.Fa.glo "Invalid").ok K,
  fun K => (He.Fa.glo "Unfit").ok K,
  fun K => (He.Fa.glo "Excess").ok K,
  tSubs3 ["Invalid", "Unfit", "Excess"] subl__law_error_of,
  fun K => (He.Fa.glo "BadChange").ok K,
  fun K => (He.Fa.glo "BadDocument").ok K,
  fun K => (He.Fa.glo "BadField").ok K,
  fun K => (He.Fa.glo "BadKey").ok K,
  fun K => (He.Fa.glo "BadNumber").ok K,
  fun K => (He.Fa.glo "BadQuery").ok K,
  fun K => (He.Fa.glo "Index").ok K,
  fun K => (He.Fa.glo "NoDocument").ok K,
  fun K => (He.Fa.glo "NoField").ok K,
  fun K => (He.Fa.glo "NoSegment").ok K,
  fun K => (He.Fa.glo "TooMany").ok K,
  fun K => (He.Fa.glo "WrongKind").ok K,
  tAtts attl,
  tPrps prps,
  tIxas isxl,
  tInit "Index" "__init__",
  fun K => (He.Fa.mkr "Index").ok K,
  tCell "Index" "__init__" PySem.Challenge.pw_findlang_k31_schemas.main.file,
  tSup "Index" "Index" "View" "__init__",
  tFn "_law_drawer",
  tFn "_law_drawn",
  tFn "_law_drawn_of",
  tFn "_law_fields",
  tFn "is_made_of",
  tFn "is_field_name",
  tFn "is_field_row",
  tFn "need_schema",
  tFn "live_entries",
  tFn "segment_row",
  tFn "_law_schema_spoilt",
  tFn "_law_error_of",
  tMths ["Index"] (Str.ofString "View") (Str.ofString "__len__"),
  tIdc ["Entry"],
  tXfT ["NoDocument"] "absent",
  tXfT ["TooMany"] "most",
  tXfT ["NoField"] "missing",
  tXfT ["WrongKind"] "mistaken",
  tFn "law"]
def ts : Mks := [(("law", none), "law.<locals>.<lambda>")]
abbrev hk : PySem.W.Hook := hookF 5 fs ds ts
def ob (s : PySem.W.SharedT) : HkA := hkG 5 fs ds ts (HandSHeadRun.getT s)
set_option maxHeartbeats 0 in
theorem run (w : World) : HandSHeadRun.RunEq Rw qv hk ob 30000 names w := by
  intro os
  kernel_rfl
end L31
namespace FL
open PySem PySem.Spec PyProof.Rows L2
def PropR (P : Program) (w : World) (K : PySem.W.Frag) (mg : Str → Option Value) (base : Heap) (j : Nat) (pt : String → String → Option MF) : Prop :=
  ∀ c f m, pt c f = some m → ∀ C, mg (Str.ofString c) = some (.ref C) → Cls K C ∧ ∃ (p g : Addr) (fd : FuncData) (nm : Str), PropOf K C (Str.ofString f) p g ∧ FnG P w K mg base (L2.CX P w) j g fd [nm] (spM K mg m 1) ∧ Binds K fd [nm] []
theorem PropR.ok {X : Cx} {j : Nat} {pt : String → String → Option MF} (h : PropR X.prog X.w X.K X.mg X.base j pt) : PropsOk X j pt := h
def MethR (P : Program) (w : World) (K : PySem.W.Frag) (mg : Str → Option Value) (base : Heap) (j : Nat) (mt : String → String → Nat → Option MF) : Prop :=
  ∀ c f n m, mt c f n = some m → ∀ C, mg (Str.ofString c) = some (.ref C) → Cls K C ∧ ∃ (g : Addr) (fd : FuncData) (ps : List Str) (ds : List Value) (dvs : List V) (dds : List D) (m' : MF) (N : Nat), Meth K C (Str.ofString f) g ∧ FnG P w K mg base (L2.CX P w) j g fd ps (spM K mg m' N) ∧ Binds K fd ps ds ∧ Vals dvs ds ∧
    (∀ F ρ, RepL K mg F ρ dvs dds) ∧ n + 1 + dds.length = N ∧ ∀ ds' μ, m ds' μ = m' (ds' ++ dds) μ
theorem MethR.ok {X : Cx} {j : Nat} {mt : String → String → Nat → Option MF} (h : MethR X.prog X.w X.K X.mg X.base j mt) : MethsOk X j mt := h
def SupR (P : Program) (w : World) (K : PySem.W.Frag) (mg : Str → Option Value) (base : Heap) (j : Nat) (c f : String) (D : Addr) (mi : MF) (N : Nat) : Prop :=
  ∀ C, mg (Str.ofString c) = some (.ref C) → ∃ (g : Addr) (og : Obj) (fd : FuncData) (ps : List Str) (ds : List Value) (dvs : List V) (cdC : ClassData), PySem.W.clsIn K C = some cdC ∧ PySem.W.alongIn K (Str.ofString f) ((cdC.mro.dropWhile (· != .ref D)).drop 1) = some (some (.ref g)) ∧
    K.lookup g = some og ∧ og.cls = .type "function" ∧ PySem.W.fnIn K g = true ∧ PySem.W.mroIn K C (.ref D) = some true ∧ FnG P w K mg base (L2.CX P w) j g fd ps (spM K mg mi N) ∧ Binds K fd ps []
theorem SupR.ok {X : Cx} {j : Nat} {c f : String} {D : Addr} {mi : MF} {N : Nat} (h : SupR X.prog X.w X.K X.mg X.base j c f D mi N) : SupG X j c f D mi N := h
structure SupP (P : Program) (K : PySem.W.Frag) (mg : Str → Option Value) (f cda cc D : Addr) (p0 : Str) (sc : Scope) (N : List Str) : Prop where
  lk : ∃ o fd ar, K.lookup f = some o ∧ o.data = .func fd ∧ (fd.params.posonlyargs ++ fd.params.args).head? = some ar ∧ ar.arg = p0
  code : ∃ ccl cdd vs ccs file tf, K.lookup cda = some { cls := ccl, dict := cdd, data := .fields vs, slots := ccs } ∧ vs[2]? = some (.str file tf) ∧ ((P.main.file : Str) == file) = true
  cell : ∃ cl cld csl, K.lookup cc = some { cls := cl, dict := cld, data := .cell (some (.ref D)), slots := csl }
  clsD : ∃ cdD, PySem.W.clsIn K D = some cdD
  any : PySem.W.nsIn K cStatics "thirdparty.any" = some none
  top : (P.main.scope.names.lookup ("super" : Str)).isSome = false
  sup : mg "super" = none
  ls : sc.names.lookup ("super" : Str) = some .globalImplicit
  lc : sc.names.lookup ("__class__" : Str) = some .free
  l0 : sc.names.lookup p0 = some .local
  n0 : N[0]? = some p0
theorem SupP.t {X : Cx} {W : WX} {k : Nat} {f cda cc D : Addr} {p0 : Str} {st : Stmt} {N : List Str} (h : SupP X.prog X.K X.mg f cda cc D p0 (defScope st) N) (C : Cd X W k N (defScope st)) (S : CsK X f cda cc D st) : SupT X f cda cc D p0 := by
  obtain ⟨fd, x, qual, dV, F, e⟩ := S.fd
  refine ⟨h.lk, h.code, h.cell, h.clsD, h.any, h.top, h.sup, by rw [C.hsc]; exact h.ls, by rw [C.hsc]; exact h.lc, by rw [C.hsc]; exact h.l0, by rw [C.hN]; exact h.n0, by rw [e], by rw [e], ?_⟩
  rw [e]
  show ([(("__class__" : Str), cc)] : List (Str × Addr)).lookup ("__class__" : Str) = some cc
  simp
end FL
namespace FL
open PySem PySem.Spec PyProof.Rows L2
def DK.d : DK → D
  | .i n => .int n
  | .s x => .str x
def getA (kds : List (DK × D)) (k : DK) : Option D := (kds.find? fun p => decide (p.1 = k)).map (·.2)
theorem DK.key_inj {k j : DK} (h : k.key = j.key) : k = j := by
  cases k <;> cases j <;> first | (cases h; done) | skip
  · have h' : (Sum.inl _ : Key) = Sum.inl _ := h
    cases h'
    rfl
  · have h' : (Sum.inr _ : Key) = Sum.inr _ := h
    rw [toS_inj (Sum.inr.inj h')]
section
variable (K : PySem.W.Frag) (mg : Str → Option Value) (F : Hp) (ρ : List Addr)
inductive KV : List (Key × V) → List (DK × D) → Prop where
  | nil : KV [] []
  | cons {k v d kvs kds} (h : Rep K mg F ρ v d) (t : KV kvs kds) : KV ((DK.key k, v) :: kvs) ((k, d) :: kds)
end
section
variable {K : PySem.W.Frag} {mg : Str → Option Value} {F F' : Hp} {ρ ρ' : List Addr} {H : Hp} {p : Addr}
theorem key_dec (k j : DK) : decide (DK.key k = DK.key j) = decide (k = j) := by
  by_cases h : k = j
  · rw [h, decide_eq_true rfl, decide_eq_true rfl]
  · rw [decide_eq_false h, decide_eq_false fun z => h (DK.key_inj z)]
theorem KV.get {k : DK} {d : D} : ∀ {kvs : List (Key × V)} {kds : List (DK × D)}, KV K mg F ρ kvs kds → getA kds k = some d → ∃ v, valV kvs k.key = some v ∧ Rep K mg F ρ v d
  | _, _, .nil, e => by cases e
  | _, _, @KV.cons _ _ _ _ k1 v1 d1 kvs kds h t, e => by
    unfold getA at e
    rw [List.find?_cons] at e
    unfold valV
    rw [List.find?_cons]
    simp only [key_dec]
    by_cases z : k1 = k
    · rw [decide_eq_true z] at e ⊢
      cases e
      exact ⟨v1, rfl, h⟩
    · rw [decide_eq_false z] at e ⊢
      exact KV.get t e
end
end FL
namespace FL
open PySem PySem.Spec PyProof.Rows L2
section
variable {X : Cx} {W : WX} {e : Expr} {pos : Pos}
theorem KV.at {K : PySem.W.Frag} {mg : Str → Option Value} {F : Hp} {ρ : List Addr} : ∀ {kvs : List (Key × V)} {kds : List (DK × D)} {i : Nat} {p : DK × D}, KV K mg F ρ kvs kds → kds[i]? = some p → ∃ v, kvs[i]? = some (p.1.key, v) ∧ Rep K mg F ρ v p.2
  | _, _, _, _, .nil, e => by simp at e
  | _, _, 0, _, .cons h t, e => by simp at e; subst e; exact ⟨_, rfl, h⟩
  | _, _, i + 1, _, .cons h t, e => by
    obtain ⟨v, h1, h2⟩ := KV.at (i := i) t (by simpa using e)
    exact ⟨v, by simpa using h1, h2⟩
end
end FL
namespace FL
open PySem L2
def Fr (j : Nat) (μ μ' : Mem) : Prop := μ'.length = μ.length ∧ ∀ k : Nat, k ≠ j → μ'[k]? = μ[k]?
theorem Fr.trans {j : Nat} {μ μ1 μ2 : Mem} (a : Fr j μ μ1) (b : Fr j μ1 μ2) : Fr j μ μ2 := ⟨b.1.trans a.1, fun k h => (b.2 k h).trans (a.2 k h)⟩
theorem Fr.set {j : Nat} {μ : Mem} {c : Own} : Fr j μ (μ.set j c) := ⟨by simp, fun k h => List.getElem?_set_ne (Ne.symm h)⟩
end FL
namespace FL
open PySem L2
abbrev piles (ts : List Str) : Nat := (ts.map fun t => t.length + 2).sum
theorem join_len : ∀ ts : List Str, (Str.join ", " ts).length ≤ piles ts
  | [] => by decide
  | [x] => by simp [Str.join, piles]
  | x :: y :: r => by
    have ih := join_len (y :: r)
    show (x ++ (", " : Str) ++ Str.join ", " (y :: r)).length ≤ _
    rw [strLen_append, strLen_append]
    have e : ((", " : Str)).length = 2 := by decide
    simp only [piles, List.map_cons, List.sum_cons] at ih ⊢
    omega
theorem tup_len (ts : List Str) : (tupleText ts).length ≤ 3 + piles ts := by
  unfold tupleText
  rw [strLen_append, strLen_append]
  have h1 := join_len ts
  have h2 : (("(" : Str)).length = 1 := by decide
  have h3 : (Str.ofString (if ts.length == 1 then ",)" else ")" : String)).length ≤ 2 := by split <;> decide
  have h3' : ((if ts.length == 1 then ",)" else ")" : String) : Str).length ≤ 2 := h3
  omega
theorem from_len : ∀ (ts : List Str) (k : Nat) (acc : Str), (textFrom k acc ts).length ≤ acc.length + piles ts
  | [], _, acc => by simp [textFrom, piles]
  | t :: ts, k, acc => by
    have ih := from_len ts (k + 1) (acc ++ (if k > 0 then ", " else "" : String) ++ t)
    rw [strLen_append, strLen_append] at ih
    have h : ((if k > 0 then ", " else "" : String) : Str).length ≤ 2 := by split <;> decide
    show (textFrom (k + 1) _ ts).length ≤ _
    simp only [piles, List.map_cons, List.sum_cons] at ih ⊢
    omega
theorem lst_len (ts : List Str) : (listText ts).length ≤ 2 + piles ts := by
  unfold listText
  rw [strLen_append]
  have h1 := from_len ts 0 "["
  have h2 : (("[" : Str)).length = 1 := by decide
  have h3 : (("]" : Str)).length = 1 := by decide
  omega
def Sh (d n : Nat) (x : D) : Prop := ∃ q, D.py x = some q ∧ PyData.showable q = true ∧ PyData.hasDict q = false ∧ PyData.canLay0 q = true ∧ q.depth ≤ d ∧ (PyData.shown q).length ≤ n
theorem Sh.all {d n : Nat} : ∀ {xs : List D}, (∀ x ∈ xs, Sh d n x) → ∃ qs, D.pys xs = some qs ∧ PyData.showableAll qs = true ∧ PyData.hasDictAll qs = false ∧ PyData.canLayAll0 qs = true ∧ PyData.depthAll qs ≤ d ∧ piles (PyData.shownAll qs) ≤ xs.length * (n + 2)
  | [], _ => ⟨[], by simp [D.pys, PyData.showableAll, PyData.hasDictAll, PyData.canLayAll0, PyData.depthAll, PyData.shownAll, piles]⟩
  | x :: xs, h => by
    obtain ⟨q, a1, b1, c1, l1, g1, k1⟩ := h x (List.mem_cons_self ..)
    obtain ⟨qs, a2, b2, c2, l2, g2, k2⟩ := Sh.all (xs := xs) fun y hy => h y (List.mem_cons_of_mem _ hy)
    refine ⟨q :: qs, by simp [D.pys, a1, a2], by simp [PyData.showableAll, b1, b2], by simp [PyData.hasDictAll, c1, c2], by simp [PyData.canLayAll0, l1, l2], by simp only [PyData.depthAll]; omega, ?_⟩
    simp only [PyData.shownAll, piles, List.map_cons, List.sum_cons, List.length_cons, Nat.add_mul] at k2 ⊢
    omega
theorem Sh.tup {d n : Nat} {xs : List D} (h : ∀ x ∈ xs, Sh d n x) : Sh (d + 1) (3 + xs.length * (n + 2)) (.tup xs) := by
  obtain ⟨qs, a, b, c, l, g, k⟩ := Sh.all h
  refine ⟨.tuple qs, by simp [D.py, a], by simpa [PyData.showable] using b, by simpa [PyData.hasDict] using c, by simpa [PyData.canLay0] using l, by simp only [PyData.depth]; omega, ?_⟩
  have := tup_len (PyData.shownAll qs)
  simp only [PyData.shown]
  omega
theorem Sh.lst {d n : Nat} {xs : List D} (h : ∀ x ∈ xs, Sh d n x) : Sh (d + 1) (2 + xs.length * (n + 2)) (.lst xs) := by
  obtain ⟨qs, a, b, c, l, g, k⟩ := Sh.all h
  refine ⟨.list qs, by simp [D.py, a], by simpa [PyData.showable] using b, by simpa [PyData.hasDict] using c, by simpa [PyData.canLay0] using l, by simp only [PyData.depth]; omega, ?_⟩
  have := lst_len (PyData.shownAll qs)
  simp only [PyData.shown]
  omega
theorem small_int : ∀ k : Fin 100, PyData.showable (.int (k.val : Nat)) = true ∧ (PyData.shown (.int (k.val : Nat))).length ≤ 2 := by decide +kernel
theorem Sh.int {i : Int} (h0 : 0 ≤ i) (h1 : i < 100) : Sh 0 2 (.int i) := by
  have := small_int ⟨i.toNat, by omega⟩
  have e : ((i.toNat : Nat) : Int) = i := by omega
  simp only [e] at this
  exact ⟨.int i, rfl, this.1, by simp [PyData.hasDict], by simp [PyData.canLay0], by simp [PyData.depth], this.2⟩
end FL
namespace FL
open PySem L2
section
variable {α β : Type} {a : α} {δ : FL.Loc} {μ : Mem} {x : Exc} {s : FL.Slot}
@[simp] theorem ev_b1 {f : α → FL.Loc → Mem → Out β} : (Out.ok a δ μ).bind f = f a δ μ := rfl
@[simp] theorem ev_b2 {f : α → FL.Loc → Mem → Out β} : (Out.exc x δ μ : Out α).bind f = .exc x δ μ := rfl
@[simp] theorem ev_t1 {f : α → FL.Loc → Mem → OutS} : (Out.ok a δ μ).thn f = f a δ μ := rfl
@[simp] theorem ev_t2 {f : α → FL.Loc → Mem → OutS} : (Out.exc x δ μ : Out α).thn f = .exc x δ μ := rfl
@[simp] theorem ev_s1 {k : MS} : (OutS.nx δ μ).seq k = k δ μ := rfl
@[simp] theorem ev_s2 {k : MS} : (OutS.rt s μ).seq k = .rt s μ := rfl
@[simp] theorem ev_s3 {k : MS} : (OutS.bk δ μ).seq k = .bk δ μ := rfl
@[simp] theorem ev_s4 {k : MS} : (OutS.ct δ μ).seq k = .ct δ μ := rfl
@[simp] theorem ev_s5 {k : MS} : (OutS.exc x δ μ).seq k = .exc x δ μ := rfl
@[simp] theorem ev_c1 : (Out.ok a δ μ).cut = .ok a δ μ := rfl
end
section
variable {δ : FL.Loc} {μ : Mem} {m n : ME} {t u : MT} {p q : MS} {o oa ob oc : Opn} {os : List Opn} {ms : List ME} {d : D} {ds dds : List D} {i j k : Nat} {f : TgF} {g : D → D → Option FL.Slot}
@[simp] theorem ev_e : (Opn.e m).ev δ μ = (m δ μ).bind fun s δ1 μ1 => .ok (.d s.d) δ1 μ1 := rfl
@[simp] theorem ev_v : (Opn.v i).ev δ μ = (match δ[i]? with | some (some _) => .ok (.i i) δ μ | _ => .bad) := rfl
@[simp] theorem ev_at1 {d : D} : (OR.d d).at δ μ = look μ d := rfl
@[simp] theorem ev_at2 : (OR.i i).at δ μ = (match δ[i]? with | some (some s) => look μ s.d | _ => none) := rfl
@[simp] theorem ev_lk1 : look μ (.obj k) = (μ[k]?).map Own.d := rfl
@[simp] theorem ev_lk2 {i : Int} : look μ (.int i) = some (.int i) := rfl
@[simp] theorem ev_lk3 {x : Tx} : look μ (.str x) = some (.str x) := rfl
@[simp] theorem ev_lk4 {b : Bool} : look μ (.bl b) = some (.bl b) := rfl
@[simp] theorem ev_lk5 : look μ .non = some .non := rfl
@[simp] theorem ev_lk6 {xs : List D} : look μ (.lst xs) = some (.lst xs) := rfl
@[simp] theorem ev_lk7 {xs : List D} : look μ (.tup xs) = some (.tup xs) := rfl
@[simp] theorem ev_lk8 {xs : List D} : look μ (.ro xs) = some (.ro xs) := rfl
@[simp] theorem ev_lkfx {b : FxM} {ks : List DK} {xs : List D} : look μ (.fx b ks xs) = some (.fx b ks xs) := rfl
@[simp] theorem ev_lk9 {ks : List DK} {xs : List D} : look μ (.dct ks xs) = some (.dct ks xs) := rfl
@[simp] theorem ev_lk10 {x : String} : look μ (.glo x) = some (.glo x) := rfl
@[simp] theorem ev_lk11 {x : String} : look μ (.ty x) = some (.ty x) := rfl
@[simp] theorem ev_lk12 {c a : String} {d : D} : look μ (.exn c a d) = some (.exn c a d) := rfl
@[simp] theorem ev_dfr : (FL.Slot.fr d).d = d := rfl
@[simp] theorem ev_down {o : Own} : (FL.Slot.own o).d = o.d := rfl
@[simp] theorem ev_owd {xs : List D} : (Own.lst xs).d = .lst xs := rfl
@[simp] theorem ev_owdd {ks : List DK} {xs : List D} : (Own.dct ks xs).d = .dct ks xs := rfl
@[simp] theorem ev_D : mD d δ μ = .ok (.fr d) δ μ := rfl
@[simp] theorem ev_V : mV i δ μ = (match δ[i]? with | some (some s) => .ok (.fr s.d) (δ.set i (some (.fr s.d))) μ | _ => .bad) := rfl
@[simp] theorem ev_Set : mSet i m δ μ = (m δ μ).thn fun s δ1 μ1 => .nx (δ1.set i (some s)) μ1 := rfl
@[simp] theorem ev_tgV : tgV i d δ = some (δ.set i (some (.fr d))) := rfl
@[simp] theorem ev_Lc {mi : MM (List D)} {vs : List Nat} : mLc mi f t m vs δ μ = (mi δ μ).bind fun ds δ1 μ1 => lcD f t m vs ds [] (wipeD δ1 vs) μ1 := rfl
@[simp] theorem ev_wp0 : wipeD δ [] = δ := rfl
@[simp] theorem ev_wp1 {vs : List Nat} : wipeD δ (i :: vs) = (wipeD δ vs).set i none := rfl
@[simp] theorem ev_lc0 {vs : List Nat} {acc : List D} : lcD f t m vs [] acc δ μ = .ok (.own (.lst acc)) δ μ := rfl
end
end FL
namespace FL
open PySem PySem.Spec PyProof.Rows L2
open PySem.Froz (SD sObj TxOk addTx tailTx is_str add_ok add_x)
def inD (D : SD) : List Str := D.1.toList.map fun e => strOf e.2
structure TxSet (P : Program) (w : World) (h : Heap) (a : Addr) (l : List Str) : Prop where
  ob : ∃ D : SD, h.get? a = some (sObj "set" D) ∧ TxOk P w D l ∧ (inD D).Perm l ∧ Ris D.2.2.place.toList ∧ (w.params.followText "set-order" = true ∨ D.2.2.led = true)
  nd : l.Nodup
  few : l.length < scanBound
theorem TxSet.at {P : Program} {w : World} {h h' : Heap} {a : Addr} {l : List Str} (R : TxSet P w h a l) (k : ∀ o, h.get? a = some o → h'.get? a = some o) : TxSet P w h' a l :=
  let ⟨⟨D, g, r⟩, nd, few⟩ := R
  ⟨⟨D, k _ g, r⟩, nd, few⟩
end FL
namespace FL
open PySem PySem.Spec PyProof.Rows L2
structure Cg (X : Cx) (W : WX) (k : Nat) (N : List Str) (sc : Scope) : Prop where
  rm : Room k X.A
  tk : Takes X W
  hN : X.N = N
  hsc : X.env.scope = sc
  nd : N.Nodup
  hp : PassesOwn (model X.prog X.w) X.A X.env X.xe
  fn : ∀ x, L2.Loc X.env.scope x → X.fn x = true
  hi : interactive X.env = false
end FL
namespace FL
open PySem PySem.Spec PyProof.Rows L2
section
variable {X : Cx} {W : WX} {k j : Nat} {N : List Str} {sc : Scope} {e o a b : Expr} {es : List Expr} {pos p apos pos' : Pos} {x : Str} {i : Nat}
theorem Cg.var (C : Cg X W k N sc) (h : varC N sc i x = true) : PE X (.Name x p) (tVar i) := by
  simp only [varC, Bool.and_eq_true, Bool.not_eq_true', decide_eq_true_eq, Bool.or_eq_true] at h
  obtain ⟨⟨⟨h1, h2⟩, h3⟩, h4⟩ := h
  have hv : Vis X.env.scope x := by
    rw [C.hsc]
    exact h2
  exact pe_var (C.hN.symm ▸ h1) hv h3 h4
theorem Cg.v (C : Cg X W k N sc) (h : varC N sc i x = true) : JE X W (.Name x p) (mV i) := je_v (C.var h)
theorem Cg.set {m : ME} (C : Cg X W k N sc) (h : locC N sc i x = true) (he : JE X W e m) (hs : swapsWith e (some (.Name x pos')) pos.line X.env = pure false := by rfl) : JS X W (.Assign [.Name x pos'] e pos) (mSet i m) := by
  simp only [locC, Bool.and_eq_true, decide_eq_true_eq, Bool.or_eq_true] at h
  have hl : L2.Loc X.env.scope x := by
    rw [C.hsc]
    exact h.2
  exact js_set (C.hN.symm ▸ C.nd) (C.hN.symm ▸ h.1) hl he hs (.inl (C.fn x hl))
end
end FL
namespace FL
open PySem
abbrev NF (fs : List Frame) : Prop := splitAtGen fs = none
def NG : GenState → Prop
  | .suspended _ _ _ _ fs _ => NF fs
  | _ => True
def stuck : Resume → Sem PySem.Fin := fun _ => .unsupported ""
def Poi (x y : GenState) : Prop := ∃ k l c p fs cl, x = .suspended stuck l c p fs cl ∧ y = .suspended k l c p fs cl
def Rel (a b : Array GenState) : Prop := a.size = b.size ∧ ∀ (i : Nat) x y, a[i]? = some x → b[i]? = some y → (x = y ∧ NG x) ∨ Poi x y
def Keep (a a' b b' : Array GenState) : Prop := ∀ (i : Nat) x y, a[i]? = some x → b[i]? = some y → Poi x y → a'[i]? = some x ∧ b'[i]? = some y
theorem Keep.trans {a a' a'' b b' b'' : Array GenState} (h : Keep a a' b b') (k : Keep a' a'' b' b'') : Keep a a'' b b'' := fun i x y h1 h2 p => by
  obtain ⟨k1, k2⟩ := h i x y h1 h2 p
  exact k i x y k1 k2 p
theorem Rel.set {a b : Array GenState} {g : Nat} {x : GenState} (h : Rel a b) (hx : NG x) : Rel (a.setIfInBounds g x) (b.setIfInBounds g x) := by
  refine ⟨by simp [h.1], fun i u v h1 h2 => ?_⟩
  rw [Array.getElem?_setIfInBounds] at h1 h2
  by_cases e : g = i
  · rw [if_pos e] at h1 h2
    split at h1
    · split at h2
      · injection h1 with h1
        injection h2 with h2
        exact .inl ⟨h1.symm.trans h2, by rw [← h1]; exact hx⟩
      · cases h2
    · cases h1
  · rw [if_neg e] at h1 h2
    exact h.2 i u v h1 h2
theorem Keep.set {a b : Array GenState} {g : Nat} {x : GenState} (h : ∀ u v, a[g]? = some u → b[g]? = some v → ¬ Poi u v) : Keep a (a.setIfInBounds g x) b (b.setIfInBounds g x) := fun i u v h1 h2 p => by
  have e : g ≠ i := fun e => h u v (e ▸ h1) (e ▸ h2) p
  rw [Array.getElem?_setIfInBounds, Array.getElem?_setIfInBounds, if_neg e, if_neg e]
  exact ⟨h1, h2⟩
end FL
namespace FL
open PySem L2
section
variable {α β : Type} {δ : FL.Loc} {μ : Mem} {o : Opn} {os : List Opn} {m : ME} {ms mks : List ME} {f c : String} {at_ : String → String → Att} {d : D} {ds vs dds : List D} {k : Nat} {ks : List String}
@[simp] theorem ec_pick0 {vs ds zs : List α} : pickS [] vs ds zs = [] := rfl
@[simp] theorem ec_pick1 {vs ds zs : List α} {a : Sel} {sel : List Sel} : pickS (a :: sel) vs ds zs = (match a.get vs ds zs with | some x => x :: pickS sel vs ds zs | none => pickS sel vs ds zs) := by
  unfold pickS
  cases h : a.get vs ds zs with
  | none => rw [List.filterMap_cons_none h]
  | some x => rw [List.filterMap_cons_some h]
@[simp] theorem ec_sel1 {vs ds zs : List α} {i : Nat} : (Sel.pos i).get vs ds zs = vs[i]? := rfl
@[simp] theorem ec_sel2 {vs ds zs : List α} {i : Nat} : (Sel.key i).get vs ds zs = zs[i]? := rfl
@[simp] theorem ec_sel3 {vs ds zs : List α} {i : Nat} : (Sel.dfl i).get vs ds zs = ds[i]? := rfl
@[simp] theorem ec_end0 {a b : Own} : (μ ++ [a, b])[μ.length]? = some a := by simp
@[simp] theorem ec_end1 {a b : Own} : (μ ++ [a, b])[μ.length + 1]? = some b := by simp
@[simp] theorem ec_set0 {a b e : Own} : (μ ++ [a, b]).set μ.length e = μ ++ [e, b] := by
  rw [List.set_append_right _ _ (Nat.le_refl _)]
  simp
end
end FL
namespace FL
section
variable {δ : FL.Loc} {μ : Mem} {m md mk mv ma mb : ME} {oo ob oc : Opn} {ms : List ME} {ml : MM (List D)} {cs : List String} {i : Nat}
@[simp] theorem ev_lkfx' {b : FxM} {ks : List DK} {xs : List D} {μ : Mem} : look μ (.fx b ks xs) = some (.fx b ks xs) := rfl
end
end FL
set_option Elab.async false
set_option linter.all false
set_option maxRecDepth 100000
set_option maxHeartbeats 4000000
namespace FL
open PySem L2 LamX
theorem toS_len (x : Tx) : (toS x).length = x.length := by simp [toS, Str.length]
theorem toS_app (x y : Tx) : toS x ++ toS y = toS (x ++ y) := by
  show Str.append (toS x) (toS y) = _
  simp [toS, Str.append]
theorem ofS_lit (s : String) : Str.ofString s = toS (lit s) := Str.ofString_eq_toList s
section
variable {K : PySem.W.Frag} {mg : Str → Option Value} {Z F F' : Hp} {ρ ρ' : List Addr}
theorem RepL.getV : ∀ {vs : List V} {ds : List D} {i : Nat} {v : V}, RepL K mg F ρ vs ds → vs[i]? = some v → ∃ d, ds[i]? = some d ∧ Rep K mg F ρ v d
  | _, _, _, _, .nil, e => by simp at e
  | _, _, 0, _, .cons h _, e => by simp at e; subst e; exact ⟨_, rfl, h⟩
  | _, _, i + 1, _, .cons _ t, e => by
    obtain ⟨v, h1, h2⟩ := RepL.getV (i := i) t (by simpa using e)
    exact ⟨v, by simpa using h1, h2⟩
theorem RepL.take : ∀ {vs : List V} {ds : List D} (n : Nat), RepL K mg F ρ vs ds → RepL K mg F ρ (vs.take n) (ds.take n)
  | _, _, 0, _ => .nil
  | _, _, _ + 1, .nil => .nil
  | _, _, n + 1, .cons h t => .cons h (RepL.take n t)
theorem RepL.ofInts : ∀ (ns : List Int), RepL K mg F ρ (ns.map V.int) (ns.map D.int)
  | [] => .nil
  | _ :: ns => .cons .int (RepL.ofInts ns)
theorem RepL.ofStrs : ∀ (xs : List Tx), RepL K mg F ρ ((xs.map toS).map V.str) (xs.map D.str)
  | [] => .nil
  | _ :: ns => .cons .str (RepL.ofStrs ns)
theorem RepL.bls : ∀ {vs : List V} {xs : List Bool}, RepL K mg F ρ vs (xs.map D.bl) → vs = xs.map V.bl := by
  intro vs xs
  induction xs generalizing vs with
  | nil => intro h; cases h; rfl
  | cons n ns ih =>
    intro h
    rw [List.map_cons] at h
    cases h with
    | cons h t =>
      cases h
      rw [List.map_cons, ih t]
end
section
variable {K : PySem.W.Frag} {mg : Str → Option Value} {Z F F' : Hp} {ρ ρ' : List Addr} {μ : Mem} {δ : Loc} {σ : St} {H H' : Hp} {p : Addr} {o : HO} {v : V} {s : Slot}
theorem Sim.write {i : Nat} {c c' : Own} (S : Sim K mg Z F ρ μ δ σ H) (e : δ[i]? = some (some (.own c))) (ev : σ[i]? = some (some (.ref p))) (r : OwnR K mg F ρ (upd H p o) p c') :
    Sim K mg Z F ρ μ (δ.set i (some (.own c'))) σ (upd H p o) := by
  obtain ⟨v, ev', q, evq, fr, r0⟩ := S.slot i _ e
  rw [ev] at ev'; cases ev'; cases evq
  have hi : i < δ.length := (List.getElem?_eq_some_iff.mp e).1
  have same : σ.set i (some (.ref p)) = σ := by
    apply List.ext_getElem?
    intro j
    by_cases z : j = i
    · subst z; rw [List.getElem?_set_self (by rw [S.len]; exact hi), ev]
    · rw [List.getElem?_set_ne (Ne.symm z)]
  have S0 := S.forget (i := i) (x := some (.ref p))
  rw [same] at S0
  have no : ∀ (j : Nat) t, (δ.set i none)[j]? = some (some (.own t)) → σ[j]? ≠ some (some (.ref p)) := fun j t ej q => by
    have nj : j ≠ i := fun z => by
      subst z; rw [List.getElem?_set_self hi] at ej; cases ej
    rw [List.getElem?_set_ne (Ne.symm nj)] at ej
    exact nj (S.apart j i p t c ej e q ev)
  have S1 : Sim K mg Z F ρ μ (δ.set i none) σ (upd H p o) := S0.heap (fun a ne => upd_ne ne) fr.f fr.z fr.r no
  have S2 := S1.store (i := i) (v := .ref p) (s := .own c') ⟨⟨p, rfl, fr, r⟩, fun o' p' z1 z2 => by cases z2; exact fun j t ej => no j t ej⟩ (by simpa using hi)
  rw [same, List.set_set] at S2
  exact S2
theorem Sim.writeM {k : Nat} {c c' : Own} (S : Sim K mg Z F ρ μ δ σ H) (e : μ[k]? = some c) (ev : ρ[k]? = some p) (r : OwnR K mg F ρ (upd H p o) p c') :
    Sim K mg Z F ρ (μ.set k c') δ σ (upd H p o) := by
  obtain ⟨a, ea, f1, f2, r0⟩ := S.mem k c e
  rw [ev] at ea; cases ea
  have hm : p ∈ ρ := List.mem_of_getElem? ev
  have hk : k < μ.length := (List.getElem?_eq_some_iff.mp e).1
  refine ⟨fun a u h => ?_, fun a u h => ?_, S.len, fun i s h => ?_, S.apart, fun j x h => ?_, by simp [S.mlen], S.nod⟩
  · have ne : a ≠ p := fun z => by
      subst z
      rw [f1] at h; cases h
    have := S.le a u h
    rw [upd_ne ne]; exact this
  · have ne : a ≠ p := fun z => by subst z; rw [f2] at h; cases h
    rw [upd_ne ne]; exact S.zk a u h
  · obtain ⟨v, e1, r⟩ := S.slot i s h
    refine ⟨v, e1, ?_⟩
    cases s with
    | fr d => exact r
    | own c =>
      obtain ⟨q, eq, fr, r⟩ := r
      subst eq
      have ne : q ≠ p := fun z => by subst z; exact fr.r hm
      exact ⟨q, rfl, fr, r.up (fun _ _ h => h) (fun _ _ h => h) (upd_ne ne)⟩
  · by_cases z : j = k
    · subst z
      rw [List.getElem?_set_self hk] at h
      cases h
      exact ⟨p, ev, f1, f2, r⟩
    · rw [List.getElem?_set_ne (Ne.symm z)] at h
      obtain ⟨a, ea, g1, g2, r1⟩ := S.mem j x h
      have ne : a ≠ p := fun q => by
        subst q
        have h1 := (List.getElem?_eq_some_iff.mp ea).1
        exact z ((List.getElem?_inj h1 S.nod).mp (ea.trans ev.symm))
      exact ⟨a, ea, g1, g2, r1.up (fun _ _ h => h) (fun _ _ h => h) (upd_ne ne)⟩
theorem Sim.share {c : Own} (S : Sim K mg Z F ρ μ δ σ H) (h : VR K mg Z F ρ δ σ H v (.own c)) : ∃ p, v = .ref p ∧ LeR Z ρ (ρ ++ [p]) ∧ Sim K mg Z F (ρ ++ [p]) (μ ++ [c]) δ σ H ∧ Rep K mg F (ρ ++ [p]) v (.obj μ.length) := by
  obtain ⟨p, ev, fr, r⟩ := h.r
  subst ev
  have to : ∀ (k : Nat) a, ρ[k]? = some a → (ρ ++ [p])[k]? = some a := fun k a e => by
    rw [List.getElem?_append_left (List.getElem?_eq_some_iff.mp e).1]; exact e
  refine ⟨p, rfl, ⟨to, fun a ha => ?_⟩, ⟨S.le, S.zk, S.len, fun i s e => ?_, S.apart, fun k x e => ?_, by simp [S.mlen], ?_⟩, ?_⟩
  · rcases List.mem_append.mp ha with ha | ha
    · exact .inl ha
    · have : a = p := by simpa using ha
      subst this; exact .inr fr.z
  · obtain ⟨w, e1, r1⟩ := S.slot i s e
    refine ⟨w, e1, ?_⟩
    cases s with
    | fr d => exact Rep.up (fun _ _ h => h) to r1
    | own c1 =>
      obtain ⟨q, eq, fr1, r1⟩ := r1
      subst eq
      refine ⟨q, rfl, ⟨fr1.f, fr1.z, fun hm => ?_⟩, r1.up (fun _ _ h => h) to rfl⟩
      rcases List.mem_append.mp hm with hm | hm
      · exact fr1.r hm
      · have : q = p := by simpa using hm
        subst this
        exact h.no c q rfl rfl i c1 e e1
  · by_cases hk : k < μ.length
    · rw [List.getElem?_append_left hk] at e
      obtain ⟨a, ea, g1, g2, r1⟩ := S.mem k x e
      exact ⟨a, to k a ea, g1, g2, r1.up (fun _ _ h => h) to rfl⟩
    · rw [List.getElem?_append_right (by omega)] at e
      have hk2 : k = μ.length := by
        have := (List.getElem?_eq_some_iff.mp e).1
        simp at this
        omega
      subst hk2
      simp at e
      subst e
      refine ⟨p, ?_, fr.f, fr.z, r.up (fun _ _ h => h) to rfl⟩
      rw [← S.mlen]; simp
  · rw [List.nodup_append]
    refine ⟨S.nod, by simp, fun a ha b hb e => ?_⟩
    have : b = p := by simpa using hb
    subst this
    subst e
    exact fr.r ha
  · refine .obj ?_
    rw [← S.mlen]; simp
end
end FL
namespace FL
open PySem L2
theorem Out.bind_ok {α β : Type} {a : α} {δ : Loc} {μ : Mem} {f : α → Loc → Mem → Out β} : (Out.ok a δ μ).bind f = f a δ μ := rfl
def lift (o : Option Slot) : ME := fun δ μ => match o with
  | some s => .ok s δ μ
  | none => .bad
section
variable (X : Cx) (W : WX)
abbrev SimX (Z F : Hp) (ρ : List Addr) (μ : Mem) (δ : Loc) (σ : St) (H : Hp) : Prop := Sim X.K X.mg Z F ρ μ δ σ H
end
abbrev JT (X : Cx) (W : WX) (e : Expr) (m : MT) : Prop := PT X e (rdT X W m)
section
variable (K : PySem.W.Frag) (mg : Str → Option Value)
inductive BorL (F : Hp) (ρ : List Addr) (H : Hp) : List V → List D → Prop where
  | nil : BorL F ρ H [] []
  | cons {v d vs ds} (h : Bor K mg F ρ H v d) (t : BorL F ρ H vs ds) : BorL F ρ H (v :: vs) (d :: ds)
end
def OR.ats (δ : Loc) (μ : Mem) : List OR → Option (List D)
  | [] => some []
  | r :: rs => match r.at δ μ, OR.ats δ μ rs with
    | some x, some xs => some (x :: xs)
    | _, _ => none
section
variable {K : PySem.W.Frag} {mg : Str → Option Value} {Z F F' : Hp} {ρ ρ' : List Addr} {μ : Mem} {δ : Loc} {σ : St} {H H' : Hp} {v : V} {d : D}
theorem OrR.bor {r : OR} (S : Sim K mg Z F ρ μ δ σ H) (h : OrR K mg F ρ σ v r) (e : r.at δ μ = some d) : Bor K mg F ρ H v d := by
  cases r with
  | d d' => exact Rep.seen S h e
  | i i =>
    have h' : σ[i]? = some (some v) := h
    have e : (match δ[i]? with | some (some s) => look μ s.d | _ => none) = some d := e
    cases q : δ[i]? with
    | none => rw [q] at e; cases e
    | some o =>
      cases o with
      | none => rw [q] at e; cases e
      | some s =>
        rw [q] at e
        have e' : look μ s.d = some d := e
        obtain ⟨w, ew, r⟩ := S.slot i s q
        rw [h'] at ew
        cases ew
        cases s with
        | fr d => exact Rep.seen S r e'
        | own o =>
          obtain ⟨p, ep, _, r⟩ := r
          subst ep
          have e2 : look μ o.d = some o.d := by cases o <;> rfl
          have e3 : some d = some o.d := e'.symm.trans e2
          cases e3
          exact .own r
theorem OrRs.bor (S : Sim K mg Z F ρ μ δ σ H) : ∀ {vs : List V} {rs : List OR} {ds : List D}, OrRs K mg F ρ σ vs rs → OR.ats δ μ rs = some ds → BorL K mg F ρ H vs ds := by
  intro vs rs ds h
  induction h generalizing ds with
  | nil =>
    intro e
    have e' : some ([] : List D) = some ds := e
    cases e'
    exact .nil
  | @cons v r vs rs h t ih =>
    intro e
    unfold OR.ats at e
    cases q1 : r.at δ μ with
    | none => rw [q1] at e; cases e
    | some d =>
      cases q2 : OR.ats δ μ rs with
      | none => rw [q1, q2] at e; cases e
      | some dr =>
        rw [q1, q2] at e
        have e' : some (d :: dr) = some ds := e
        cases e'
        exact .cons (h.bor S q1) (ih q2)
theorem Bor.dcf (S : Sim K mg Z F ρ μ δ σ H) {ks : List DK} {ds : List D} (h : Bor K mg F ρ H v (.dcf ks ds)) : ∃ p o vs, v = .ref p ∧ F p = some (.frz o (.dK ((ks.map DK.key).zip vs))) ∧ H p = some (.frz o (.dK ((ks.map DK.key).zip vs))) ∧ ks.length = vs.length ∧ RepL K mg F ρ vs ds := by
  generalize e : D.dcf ks ds = d at h
  cases h with
  | fr h =>
    subst e
    cases h with
    | dcf h l r =>
      refine ⟨_, _, _, rfl, h, ?_, l, r⟩
      rcases S.le _ _ h with q | ⟨ob, kvs, e, q⟩
      · exact q
      · cases e
  | @own p o h => cases o <;> cases e
theorem Bor.rcT (S : Sim K mg Z F ρ μ δ σ H) {ds : List D} (h : Bor K mg F ρ H v (.rc ds)) : ∃ p vs, v = .ref p ∧ SqT K H p vs ∧ RepL K mg F ρ vs ds := by
  obtain ⟨p, o, vs, e, q, _, r⟩ := h.rc S
  exact ⟨p, vs, e, .inl (.inr ⟨o, q⟩), r⟩
end
section
variable (X : Cx) (W : WX)
def rdO (m : Opn) : TE := fun σ H Q => ∃ Z F ρ μ δ, Sim X.K X.mg Z F ρ μ δ σ H ∧
  FinE X W Z F ρ σ (fun r _ _ F' ρ' H' => ∀ v, OrR X.K X.mg F' ρ' σ v r → Q v H') (m.ev δ μ)
def evs : List Opn → MM (List OR)
  | [] => fun δ μ => .ok [] δ μ
  | o :: os => fun δ μ => (o.ev δ μ).bind fun r δ1 μ1 => (evs os δ1 μ1).bind fun rs δ2 μ2 => .ok (r :: rs) δ2 μ2
def rdOs (m : List Opn) : TA := fun σ H Q => ∃ Z F ρ μ δ, Sim X.K X.mg Z F ρ μ δ σ H ∧
  FinE X W Z F ρ σ (fun rs _ _ F' ρ' H' => ∀ vs, OrRs X.K X.mg F' ρ' σ vs rs → Q vs H') (evs m δ μ)
def evA : List ME → MM (List D)
  | [] => fun δ μ => .ok [] δ μ
  | m :: ms => fun δ μ => (m δ μ).bind fun s δ1 μ1 => (evA ms δ1 μ1).bind fun ds δ2 μ2 => .ok (s.d :: ds) δ2 μ2
def rdA (m : List ME) : TA := fun σ H Q => ∃ Z F ρ μ δ, Sim X.K X.mg Z F ρ μ δ σ H ∧
  FinE X W Z F ρ σ (fun ds _ _ F' ρ' H' => ∀ vs, RepL X.K X.mg F' ρ' vs ds → Q vs H') (evA m δ μ)
end
abbrev JO (X : Cx) (W : WX) (e : Expr) (m : Opn) : Prop := PE X e (rdO X W m)
abbrev JOs (X : Cx) (W : WX) (e : List Expr) (m : List Opn) : Prop := PA X e (rdOs X W m)
abbrev JA (X : Cx) (W : WX) (e : List Expr) (m : List ME) : Prop := PA X e (rdA X W m)
section
variable {X : Cx} {W : WX} {e a b : Expr} {es : List Expr} {pos : Pos}
theorem JE.locked {m : ME} (h : JE X W e m) : PE X e (fun σ H Q => ∃ Z F ρ μ δ, Sim X.K X.mg Z F ρ μ δ σ H ∧
    FinE X W Z F ρ σ (fun s δ' μ' F' ρ' H' => ∀ v, Rep X.K X.mg F' ρ' v s.d → Q v H') (m δ μ)) := by
  refine h.imp fun σ H Q ⟨Z, F, ρ, μ, δ, S, q⟩ => ⟨Z, F, ρ, μ, δ, S, ?_⟩
  cases r : m δ μ with
  | ok s δ' μ' =>
    rw [r] at q
    refine fun H' F' ρ' l lr S' v vr => ?_
    obtain ⟨F2, l2, S2, rep⟩ := S'.lock vr
    exact q H' F2 ρ' (l.trans l2) lr S2 v rep
  | exc x δ' μ' => rw [r] at q; exact q
  | bad => rw [r] at q; exact q
theorem jo_e {m : ME} (h : JE X W e m) : JO X W e (.e m) := by
  refine PE.imp h.locked fun σ H Q ⟨Z, F, ρ, μ, δ, S, q⟩ => ⟨Z, F, ρ, μ, δ, S, ?_⟩
  have q' : FinE X W Z F ρ σ (fun r _ _ F' ρ' H' => ∀ v, OrR X.K X.mg F' ρ' σ v r → Q v H') ((m δ μ).bind fun s δ1 μ1 => .ok (.d s.d) δ1 μ1) := q
  refine q'.bind.imp fun s δ' μ' H' F' ρ' l lr S' ⟨S2, l2, lr2, p⟩ v r => ?_
  exact p H' F' ρ' .refl .refl S2 v r
theorem jo_v {i : Nat} (h : PE X e (tVar i)) : JO X W e (.v i) := by
  refine h.imp fun σ H Q ⟨Z, F, ρ, μ, δ, S, q⟩ => ?_
  unfold Opn.ev at q
  cases e1 : δ[i]? with
  | none => simp only [e1] at q; exact q.elim
  | some o =>
    cases o with
    | none => simp only [e1] at q; exact q.elim
    | some s =>
      simp only [e1] at q
      obtain ⟨v, ev, _⟩ := S.slot i s e1
      exact ⟨v, ev, q H F ρ .refl .refl S v ev⟩
theorem jos_nil : JOs X W [] [] := pa_nil.imp fun σ H Q ⟨Z, F, ρ, μ, δ, S, q⟩ => q H F ρ .refl .refl S [] .nil
theorem jos_cons {o : Opn} {os : List Opn} (h : JO X W e o) (t : JOs X W es os) (hs : starEach (e :: es) X.env = (false, eval e X.env) :: starEach es X.env := by rfl) : JOs X W (e :: es) (o :: os) := by
  refine (pa_cons h t hs).imp fun σ H Q ⟨Z, F, ρ, μ, δ, S, q⟩ => ?_
  have q' : FinE X W Z F ρ σ (fun rs _ _ F' ρ' H' => ∀ vs, OrRs X.K X.mg F' ρ' σ vs rs → Q vs H') ((o.ev δ μ).bind fun r δ1 μ1 => (evs os δ1 μ1).bind fun rs δ2 μ2 => .ok (r :: rs) δ2 μ2) := q
  refine ⟨Z, F, ρ, μ, δ, S, q'.bind.imp fun r δ1 μ1 H1 F1 ρ1 l lr S1 ⟨_, _, _, p⟩ v hv => ?_⟩
  refine ⟨Z, F1, ρ1, μ1, δ1, S1, p.bind.imp fun rs δ2 μ2 H2 F2 ρ2 l2 lr2 S2 ⟨_, _, _, p2⟩ vs hvs => ?_⟩
  exact p2 H2 F2 ρ2 .refl .refl S2 (v :: vs) (.cons (hv.up l2 lr2) hvs)
theorem ja_nil : JA X W [] [] := pa_nil.imp fun σ H Q ⟨Z, F, ρ, μ, δ, S, q⟩ => q H F ρ .refl .refl S [] .nil
theorem ja_cons {m : ME} {ms : List ME} (h : JE X W e m) (t : JA X W es ms) (hs : starEach (e :: es) X.env = (false, eval e X.env) :: starEach es X.env := by rfl) : JA X W (e :: es) (m :: ms) := by
  refine (pa_cons h.locked t hs).imp fun σ H Q ⟨Z, F, ρ, μ, δ, S, q⟩ => ?_
  have q' : FinE X W Z F ρ σ (fun ds _ _ F' ρ' H' => ∀ vs, RepL X.K X.mg F' ρ' vs ds → Q vs H') ((m δ μ).bind fun s δ1 μ1 => (evA ms δ1 μ1).bind fun ds δ2 μ2 => .ok (s.d :: ds) δ2 μ2) := q
  refine ⟨Z, F, ρ, μ, δ, S, q'.bind.imp fun s δ1 μ1 H1 F1 ρ1 l lr S1 ⟨_, _, _, p⟩ v hv => ?_⟩
  refine ⟨Z, F1, ρ1, μ1, δ1, S1, p.bind.imp fun ds δ2 μ2 H2 F2 ρ2 l2 lr2 S2 ⟨_, _, _, p2⟩ vs hvs => ?_⟩
  exact p2 H2 F2 ρ2 .refl .refl S2 (v :: vs) (.cons (hv.up l2.to lr2.to) hvs)
theorem je_int {i j} : JE X W (.Constant (.int i) j pos) (mD (.int i)) := je_c pe_int fun _ _ => .int
theorem je_bl {b j} : JE X W (.Constant (.bool b) j pos) (mD (.bl b)) := je_c pe_bl fun _ _ => .bl
theorem je_non {j} : JE X W (.Constant .none j pos) (mD .non) := je_c pe_non fun _ _ => .non
theorem je_str {x j} : JE X W (.Constant (.str (Str.ofString x)) j pos) (mD (.str (lit x))) := je_c pe_str fun _ _ => by rw [ofS_lit]; exact .str
theorem je_mod {x : Str} {u : Value} {v : V} {d : D} {p : Pos} (hg : Gl X x) (hm : X.mg x = some u) (r : RelV v u) (hr : ∀ F ρ, Rep X.K X.mg F ρ v d) (hd : (x == ("__debug__" : Str)) = false := by decide +kernel) : JE X W (.Name x p) (mD d) :=
  je_c (pe_glob hg hm r hd) hr
def R2J (X : Cx) (r : R2) (g : D → D → Option Slot) : Prop := ∀ Z F ρ μ δ σ H x y dx dy s Q, Sim X.K X.mg Z F ρ μ δ σ H → Bor X.K X.mg F ρ H x dx → Bor X.K X.mg F ρ H y dy → g dx dy = some s →
  (∀ v H' F', Le Z F F' → Sim X.K X.mg Z F' ρ μ δ σ H' → VR X.K X.mg Z F' ρ δ σ H' v s → Q v H') → r x y H Q
def m2 (g : D → D → Option Slot) (oa ob : Opn) : ME := fun δ μ => (oa.ev δ μ).bind fun ra δ1 μ1 => (ob.ev δ1 μ1).bind fun rb δ2 μ2 =>
  match ra.at δ2 μ2, rb.at δ2 μ2 with
  | some da, some db => lift (g da db) δ2 μ2
  | _, _ => .bad
theorem m2_read {r : R2} {g : D → D → Option Slot} {oa ob : Opn} (hr : R2J X r g) : ∀ σ H Q, rdE X W (m2 g oa ob) σ H Q → tOp r (rdO X W oa) (rdO X W ob) σ H Q := by
  intro σ H Q ⟨Z, F, ρ, μ, δ, S, q⟩
  refine ⟨Z, F, ρ, μ, δ, S, (FinE.bind q).imp fun ra δ1 μ1 H1 F1 ρ1 l lr S1 ⟨_, _, _, p⟩ x hx => ?_⟩
  refine ⟨Z, F1, ρ1, μ1, δ1, S1, p.bind.imp fun rb δ2 μ2 H2 F2 ρ2 l2 lr2 S2 ⟨_, _, _, p2⟩ y hy => ?_⟩
  cases ea : ra.at δ2 μ2 with
  | none => rw [ea] at p2; exact p2.elim
  | some da =>
    cases eb : rb.at δ2 μ2 with
    | none => rw [ea, eb] at p2; exact p2.elim
    | some db =>
      rw [ea, eb] at p2
      unfold lift at p2
      cases eg : g da db with
      | none => simp only [eg] at p2; exact p2.elim
      | some s =>
        simp only [eg] at p2
        exact hr Z F2 ρ2 μ2 δ2 σ H2 x y da db s Q S2 ((hx.up l2 lr2).bor S2 ea) (hy.bor S2 eb) eg fun v H' F' l' S' vr => p2 H' F' ρ2 l' .refl S' v vr
theorem je_bin {op : Operator} {r : R2} {g : D → D → Option Slot} {oa ob : Opn} (ho : OpR X (binaryOp op) r) (hr : R2J X r g) (ha : JO X W a oa) (hb : JO X W b ob) : JE X W (.BinOp a op b pos) (m2 g oa ob) :=
  (pe_op ho ha hb).imp (m2_read hr)
theorem je_cmp {op : CmpOp} {r : R2} {g : D → D → Option Slot} {oa ob : Opn} (ho : OpR X (compareOp op) r) (hr : R2J X r g) (ha : JO X W a oa) (hb : JO X W b ob) (hm : behindInMarks op b = false) : JE X W (.Compare a [op] [b] pos) (m2 g oa ob) :=
  (pe_cmpR ho ha hb hm).imp (m2_read hr)
theorem je_ix {r : R2} {g : D → D → Option Slot} {oa ob : Opn} (ho : IxR X r) (hr : R2J X r g) (ha : JO X W a oa) (hb : JO X W b ob) (hs : PlainIx b) : JE X W (.Subscript a b pos) (m2 g oa ob) :=
  (pe_ix ho ha hb hs).imp (m2_read hr)
theorem R2J.or {r r' : R2} {g g' : D → D → Option Slot} (h : R2J X r g) (h' : R2J X r' g') : R2J X (fun x y H Q => r x y H Q ∨ r' x y H Q) (fun x y => (g x y).or (g' x y)) := by
  intro Z F ρ μ δ σ H x y dx dy s Q S bx bY e q
  have e : (g dx dy).or (g' dx dy) = some s := e
  cases eg : g dx dy with
  | some s' => rw [eg] at e; exact .inl (h Z F ρ μ δ σ H x y dx dy s Q S bx bY (by rw [eg]; exact e) q)
  | none => rw [eg] at e; exact .inr (h' Z F ρ μ δ σ H x y dx dy s Q S bx bY e q)
def mTb (m : ME) : MT := fun δ μ => (m δ μ).bind fun s δ1 μ1 => match s with
  | .fr (.bl b) => .ok b δ1 μ1
  | _ => .bad
theorem mTb_read {t : TE} {m : ME} (h : ∀ σ H Q, rdE X W m σ H Q → t σ H Q) : ∀ σ H Q, rdT X W (mTb m) σ H Q → t σ H fun x H' => ∃ k, x = .bl k ∧ Q k H' := by
  intro σ H Q ⟨Z, F, ρ, μ, δ, S, q⟩
  refine h σ H _ ⟨Z, F, ρ, μ, δ, S, (FinE.bind q).imp fun s δ1 μ1 H1 F1 ρ1 l lr S1 ⟨_, _, _, p⟩ v vr => ?_⟩
  cases s with
  | own o => exact p.elim
  | fr d =>
    cases d with
    | bl b =>
      cases vr.r
      exact ⟨b, rfl, p H1 F1 ρ1 .refl .refl S1⟩
    | _ => exact p.elim
theorem jt_cmp {op : CmpOp} {r : R2} {g : D → D → Option Slot} {oa ob : Opn} (ho : OpR X (compareOp op) r) (hr : R2J X r g) (ha : JO X W a oa) (hb : JO X W b ob) (hm : behindInMarks op b = false) : JT X W (.Compare a [op] [b] pos) (mTb (m2 g oa ob)) :=
  (pt_cmpR ho ha hb hm).imp (mTb_read (m2_read hr))
theorem jt_e {m : ME} (h : JE X W e m) (he : ∀ whole, isTrue e X.env whole = (do let v ← whole; standAt e.pos; holding [v] (truthy v)) := by intro _; rfl) : JT X W e (mTb m) :=
  (pt_val h he).imp (mTb_read fun _ _ _ q => q)
def mNot (m : MT) : MT := fun δ μ => (m δ μ).bind fun b δ1 μ1 => .ok (!b) δ1 μ1
theorem jt_not {m : MT} (h : JT X W a m) : JT X W (.UnaryOp .Not a pos) (mNot m) := by
  refine (pt_not h).imp fun σ H Q ⟨Z, F, ρ, μ, δ, S, q⟩ => ⟨Z, F, ρ, μ, δ, S, (FinE.bind q).imp fun b δ1 μ1 H1 F1 ρ1 l lr S1 ⟨_, _, _, p⟩ => ?_⟩
  exact p H1 F1 ρ1 .refl .refl S1
abbrev JW (X : Cx) (W : WX) (e : Expr) (m : MT) : Prop := PW X e (rdT X W m)
def mOr (m n : MT) : MT := fun δ μ => (m δ μ).bind fun b δ1 μ1 => if b = true then .ok true δ1 μ1 else n δ1 μ1
theorem jw_or1 {m : MT} (h : JT X W a m) : JW X W (.BoolOp .Or [a] pos) m := pw_or1 h
theorem jw_or {m n : MT} {rest : List Expr} (h : JT X W a m) (t : JW X W (.BoolOp .Or (b :: rest) pos) n) : JW X W (.BoolOp .Or (a :: b :: rest) pos) (mOr m n) := by
  refine (pw_or h t).imp fun σ H Q ⟨Z, F, ρ, μ, δ, S, q⟩ => ⟨Z, F, ρ, μ, δ, S, (FinE.bind q).imp fun c δ1 μ1 H1 F1 ρ1 l lr S1 ⟨_, _, _, p⟩ => ?_⟩
  cases c with
  | false => exact ⟨Z, F1, ρ1, μ1, δ1, S1, p⟩
  | true => exact p H1 F1 ρ1 .refl .refl S1
theorem jt_w {m : MT} (h : JW X W e m) : JT X W e m := h.pt
def mIf (t : MT) (m n : ME) : ME := fun δ μ => (t δ μ).bind fun b δ1 μ1 => if b = true then m δ1 μ1 else n δ1 μ1
theorem je_if {c : Expr} {t : MT} {m n : ME} (hc : JT X W c t) (ha : JE X W a m) (hb : JE X W b n) : JE X W (.IfExp c a b pos) (mIf t m n) := by
  refine (pe_ifExp hc ha hb).imp fun σ H Q ⟨Z, F, ρ, μ, δ, S, q⟩ => ⟨Z, F, ρ, μ, δ, S, (FinE.bind q).imp fun c δ1 μ1 H1 F1 ρ1 l lr S1 ⟨_, _, _, p⟩ => ?_⟩
  cases c with
  | true => exact ⟨Z, F1, ρ1, μ1, δ1, S1, p⟩
  | false => exact ⟨Z, F1, ρ1, μ1, δ1, S1, p⟩
def mAndV (m n : ME) : ME := fun δ μ => (m δ μ).bind fun s δ1 μ1 => match s with
  | .fr (.bl true) => n δ1 μ1
  | .fr (.bl false) => .ok (.fr (.bl false)) δ1 μ1
  | _ => .bad
theorem je_one {op} {m : ME} (h : JE X W a m) : JE X W (.BoolOp op [a] pos) m := pe_one h
theorem je_and {m n : ME} {rest : List Expr} (h : JE X W a m) (t : JE X W (.BoolOp .And (b :: rest) pos) n) : JE X W (.BoolOp .And (a :: b :: rest) pos) (mAndV m n) := by
  refine (pe_and h t).imp fun σ H Q ⟨Z, F, ρ, μ, δ, S, q⟩ => ⟨Z, F, ρ, μ, δ, S, (FinE.bind q).imp fun s δ1 μ1 H1 F1 ρ1 l lr S1 ⟨_, _, _, p⟩ v vr => ?_⟩
  cases s with
  | own o => exact p.elim
  | fr d =>
    cases d with
    | bl b =>
      cases vr.r
      refine ⟨b, rfl, ?_⟩
      cases b with
      | true => exact ⟨Z, F1, ρ1, μ1, δ1, S1, p⟩
      | false => exact p H1 F1 ρ1 .refl .refl S1 _ .bl
    | _ => exact p.elim
def mTup (ms : List ME) : ME := fun δ μ => (evA ms δ μ).bind fun ds δ1 μ1 => if ds.length ≤ 16777216 then .ok (.fr (.tup ds)) δ1 μ1 else .bad
def mLst (ms : List ME) : ME := fun δ μ => (evA ms δ μ).bind fun ds δ1 μ1 => if ds.length ≤ 16777216 then .ok (.own (.lst ds)) δ1 μ1 else .bad
theorem je_tup {k} {ms : List ME} (h : JA X W es ms) : JE X W (.Tuple es k pos) (mTup ms) := by
  refine (pe_tup h).imp fun σ H Q ⟨Z, F, ρ, μ, δ, S, q⟩ => ⟨Z, F, ρ, μ, δ, S, (FinE.bind q).imp fun ds δ1 μ1 H1 F1 ρ1 l lr S1 ⟨_, _, _, p⟩ vs hv => ?_⟩
  by_cases hz : ds.length ≤ 16777216
  · rw [if_pos hz] at p
    refine ⟨by rw [hv.len, sizeLine_eq]; exact hz, fun a ha => ?_⟩
    obtain ⟨n1, n2, n3, n4⟩ := S1.notIn ha
    have S2 := S1.laid (o := .tup vs) ha
    obtain ⟨l3, S3⟩ := S2.freeze (p := a) upd_same ⟨n1, n2, n3⟩ n4
    exact p _ _ ρ1 l3 .refl S3 _ ⟨.tup (.inl (.inl upd_same)) (hv.up l3.to fun _ _ h => h), fun o p z => by cases z⟩
  · rw [if_neg hz] at p; exact p.elim
theorem je_lst {ms : List ME} (h : JA X W es ms) : JE X W (.List es pos) (mLst ms) := by
  refine (pe_lst h).imp fun σ H Q ⟨Z, F, ρ, μ, δ, S, q⟩ => ⟨Z, F, ρ, μ, δ, S, (FinE.bind q).imp fun ds δ1 μ1 H1 F1 ρ1 l lr S1 ⟨_, _, _, p⟩ vs hv => ?_⟩
  by_cases hz : ds.length ≤ 16777216
  · rw [if_pos hz] at p
    refine ⟨by rw [hv.len, sizeLine_eq]; exact hz, fun a ha => ?_⟩
    obtain ⟨n1, n2, n3, n4⟩ := S1.notIn ha
    exact p _ F1 ρ1 .refl .refl (S1.laid ha) _ ⟨⟨a, rfl, ⟨n1, n2, n3⟩, vs, upd_same, hv⟩, fun o p z z2 => by cases z2; exact n4⟩
  · rw [if_neg hz] at p; exact p.elim
def mShare (m : ME) : ME := fun δ μ => (m δ μ).bind fun s δ1 μ1 => match s with
  | .own o => .ok (.fr (.obj μ1.length)) δ1 (μ1 ++ [o])
  | _ => .bad
theorem je_share {m : ME} (h : JE X W e m) : JE X W e (mShare m) := by
  refine h.imp fun σ H Q ⟨Z, F, ρ, μ, δ, S, q⟩ => ⟨Z, F, ρ, μ, δ, S, (FinE.bind q).imp fun s δ1 μ1 H1 F1 ρ1 l lr S1 ⟨_, _, _, p⟩ v vr => ?_⟩
  cases s with
  | fr d => exact p.elim
  | own o =>
    obtain ⟨a, ea, lr2, S2, rp⟩ := S1.share vr
    exact p H1 F1 _ .refl lr2 S2 v ⟨rp, fun o p z => by cases z⟩
end
end FL
namespace FL
open PySem L2
section
variable {X : Cx} {W : WX} {e a b : Expr} {es : List Expr} {pos : Pos}
def gInt (c : Int → Int → Bool) (f : Int → Int → D) : D → D → Option Slot
  | .int i, .int j => if c i j = true then some (.fr (f i j)) else none
  | _, _ => none
theorem r2_flat {r : R2} {g : D → D → Option Slot} (h : ∀ F ρ H x y dx dy s Q, Bor X.K X.mg F ρ H x dx → Bor X.K X.mg F ρ H y dy → g dx dy = some s → ∃ v, (Q v H → r x y H Q) ∧ ∃ d, s = .fr d ∧ ∀ F' ρ', Rep X.K X.mg F' ρ' v d) : R2J X r g := by
  intro Z F ρ μ δ σ H x y dx dy s Q S bx bY e q
  obtain ⟨v, h1, d, rfl, h2⟩ := h F ρ H x y dx dy s Q bx bY e
  exact h1 (q v H F .refl S ⟨h2 F ρ, fun o p z => by cases z⟩)
theorem r2_int {C : Int → Int → Prop} {c : Int → Int → Bool} {f : Int → Int → Int} (h : ∀ i j, c i j = true → C i j) : R2J X (rI C fun i j => .int (f i j)) (gInt c fun i j => .int (f i j)) := by
  refine r2_flat fun F ρ H x y dx dy s Q bx bY e => ?_
  unfold gInt at e
  cases dx <;> cases dy <;> first | (cases e; done) | skip
  rename_i i j
  cases bx.int
  cases bY.int
  by_cases hc : c i j = true
  · simp only [hc, if_true] at e
    cases e
    exact ⟨.int (f i j), fun q => ⟨i, j, rfl, rfl, h i j hc, q⟩, _, rfl, fun _ _ => .int⟩
  · simp only [hc] at e
    cases e
theorem r2_int0 {f : Int → Int → Int} : R2J X (rI0 fun i j => .int (f i j)) (gInt (fun _ _ => true) fun i j => .int (f i j)) := by
  refine r2_flat fun F ρ H x y dx dy s Q bx bY e => ?_
  unfold gInt at e
  cases dx <;> cases dy <;> first | (cases e; done) | skip
  rename_i i j
  cases bx.int
  cases bY.int
  simp only [if_true] at e
  cases e
  exact ⟨.int (f i j), fun q => ⟨i, j, rfl, rfl, q⟩, _, rfl, fun _ _ => .int⟩
theorem r2_intB {f : Int → Int → Bool} : R2J X (rI0 fun i j => .bl (f i j)) (gInt (fun _ _ => true) fun i j => .bl (f i j)) := by
  refine r2_flat fun F ρ H x y dx dy s Q bx bY e => ?_
  unfold gInt at e
  cases dx <;> cases dy <;> first | (cases e; done) | skip
  rename_i i j
  cases bx.int
  cases bY.int
  simp only [if_true] at e
  cases e
  exact ⟨.bl (f i j), fun q => ⟨i, j, rfl, rfl, q⟩, _, rfl, fun _ _ => .bl⟩
abbrev gSub : D → D → Option Slot := gInt (fun _ _ => true) fun i j => .int (i - j)
abbrev gMul : D → D → Option Slot := gInt (fun i j => decide (i.natAbs.log2 + j.natAbs.log2 < 1000000)) fun i j => .int (i * j)
abbrev gDiv : D → D → Option Slot := gInt (fun _ j => decide (0 < j) && decide (j.natAbs.log2 < 9000)) fun i j => .int (i / j)
abbrev gMod : D → D → Option Slot := gInt (fun _ j => decide (0 < j)) fun i j => .int (i % j)
abbrev gPow : D → D → Option Slot := gInt (fun i j => decide (0 ≤ j) && decide (j ≤ 1000000) && decide (i.natAbs < 2 ^ 64)) fun i j => .int (i ^ j.toNat)
theorem o_sub : OpR X (binaryOp .Sub) (rI0 fun i j => .int (i - j)) := op_sub
theorem j_sub : R2J X (rI0 fun i j => .int (i - j)) gSub := r2_int0
theorem j_mulI : R2J X (rI CMulW fun i j => .int (i * j)) gMul := r2_int fun i j h => (show i.natAbs.log2 + j.natAbs.log2 < 1000000 from of_decide_eq_true h)
theorem j_div : R2J X (rI CDivW fun i j => .int (i / j)) gDiv := r2_int fun i j h => by
  have h' := Bool.and_eq_true_iff.mp h
  exact ⟨of_decide_eq_true h'.1, of_decide_eq_true h'.2⟩
theorem j_mod : R2J X (rI (fun _ j => 0 < j) fun i j => .int (i % j)) gMod := r2_int fun i j h => of_decide_eq_true h
theorem cpow {i j : Int} (h : (decide (0 ≤ j) && decide (j ≤ 1000000) && decide (i.natAbs < 2 ^ 64)) = true) : CPow i j := by
  have h' := Bool.and_eq_true_iff.mp h
  have h2 := Bool.and_eq_true_iff.mp h'.1
  exact ⟨of_decide_eq_true h2.1, of_decide_eq_true h2.2, of_decide_eq_true h'.2⟩
theorem j_pow : R2J X (rI CPow fun i j => .int (i ^ j.toNat)) gPow := r2_int fun i j h => cpow h
def gAddS : D → D → Option Slot
  | .str x, .str y => if x.length + y.length ≤ 16777216 then some (.fr (.str (x ++ y))) else none
  | _, _ => none
def gAddL : D → D → Option Slot
  | .lst x, .lst y => if x.length + y.length ≤ 16777216 then some (.own (.lst (x ++ y))) else none
  | _, _ => none
def gAddT : D → D → Option Slot
  | .tup x, .tup y => if x.length + y.length ≤ 16777216 then some (.fr (.tup (x ++ y))) else none
  | _, _ => none
theorem j_addS : R2J X (fun x y H Q => ∃ i j, x = .str i ∧ y = .str j ∧ i.length + j.length ≤ sizeLine ∧ Q (.str (i ++ j)) H) gAddS := by
  refine r2_flat fun F ρ H x y dx dy s Q bx bY e => ?_
  unfold gAddS at e
  cases dx <;> cases dy <;> first | (cases e; done) | skip
  rename_i i j
  cases bx.str
  cases bY.str
  by_cases hz : i.length + j.length ≤ 16777216
  · simp only [hz, if_true] at e
    cases e
    exact ⟨.str (toS i ++ toS j), fun q => ⟨_, _, rfl, rfl, by rw [toS_len, toS_len, line_eq]; exact hz, q⟩, _, rfl, fun _ _ => by rw [toS_app]; exact .str⟩
  · simp only [hz] at e; cases e
def rCatL (K : PySem.W.Frag) : R2 := fun x y H Q => ∃ a b xs zs, x = .ref a ∧ y = .ref b ∧ SqL K H a xs ∧ SqL K H b zs ∧ xs.length + zs.length ≤ sizeLine ∧ ∀ p, H p = none → Q (.ref p) (upd H p (.lst (xs ++ zs)))
theorem sum_lists {prog : Program} {w : World} {A : Around} {E : Value → Shared → Prop} {s : Shared} {l b : Addr} {u v : List Value} {Q : Value → Shared → Prop}
    (hl : s.heap.IsList l u.toArray) (hb : s.heap.IsList b v.toArray) (hz : u.length + v.length ≤ sizeLine)
    (h : Q (.ref s.heap.objs.size) { s with heap := s.heap.push { cls := .type "list", data := .seq (u ++ v).toArray } }) : wpAny (model prog w) A (binaryOp .Add (.ref l) (.ref b)) Q E s := by
  rcases hl with ⟨⟨k1, d1, t1, z1⟩, g1, y1, n1, x1⟩
  rcases hb with ⟨⟨k2, d2, t2, z2⟩, g2, y2, n2, x2⟩
  dsimp only at y1 x1 y2 x2
  cases y1; cases x1; cases y2; cases x2
  have hcat : (u ++ v).toArray = u.toArray ++ v.toArray := by simp
  rw [hcat] at h
  exact concat_meets ⟨_, g1, rfl⟩ ⟨_, g2, rfl⟩ noFill_list_add seq_list_add PySem.F.slot_list_add PySem.F.entry_list_add (PySem.F.args_list_add_2 _ _)
    (PyProof.Rows.list_addW l b u.toArray v.toArray n1 n2 d1 d2 z1 z2 (by simpa using hz)) ⟨g1, g2, h⟩
theorem o_cat : OpR X (binaryOp .Add) (rCatL X.K) := by
  intro pins s σ H x y v u Q I rx ry h
  obtain ⟨l, b, xs, zs, rfl, rfl, hl, hb, hz, q⟩ := h
  cases rx
  cases ry
  obtain ⟨ia, ra, pa, za⟩ := I.list hl
  obtain ⟨ib, rb, pb, zb⟩ := I.list hb
  refine sum_lists pa.isList pb.isList (by rw [← ra.length, ← rb.length]; exact hz) ?_
  exact ⟨.ref s.heap.objs.size, _, I.lnew (t' := s.toks) (ra.append rb) (by rw [List.length_append]; exact hz), rfl, q _ I.fresh⟩
theorem vr_newL {Z F : Hp} {ρ : List Addr} {μ : Mem} {δ : Loc} {σ : St} {H : Hp} {p : Addr} {vs : List V} {ds : List D} (S : Sim X.K X.mg Z F ρ μ δ σ H) (hp : H p = none) (r : RepL X.K X.mg F ρ vs ds) :
    Sim X.K X.mg Z F ρ μ δ σ (upd H p (.lst vs)) ∧ VR X.K X.mg Z F ρ δ σ (upd H p (.lst vs)) (.ref p) (.own (.lst ds)) := by
  obtain ⟨n1, n2, n3, n4⟩ := S.notIn hp
  exact ⟨S.laid hp, ⟨p, rfl, ⟨n1, n2, n3⟩, vs, upd_same, r⟩, fun o p z z2 => by cases z2; exact n4⟩
theorem vr_newT {Z F : Hp} {ρ : List Addr} {μ : Mem} {δ : Loc} {σ : St} {H : Hp} {p : Addr} {vs : List V} {ds : List D} (S : Sim X.K X.mg Z F ρ μ δ σ H) (hp : H p = none) (r : RepL X.K X.mg F ρ vs ds) :
    ∃ F', Le Z F F' ∧ Sim X.K X.mg Z F' ρ μ δ σ (upd H p (.tup vs)) ∧ VR X.K X.mg Z F' ρ δ σ (upd H p (.tup vs)) (.ref p) (.fr (.tup ds)) := by
  obtain ⟨n1, n2, n3, n4⟩ := S.notIn hp
  obtain ⟨l3, S3⟩ := (S.laid (o := .tup vs) hp).freeze (p := p) upd_same ⟨n1, n2, n3⟩ n4
  exact ⟨_, l3, S3, .tup (.inl (.inl upd_same)) (r.up l3.to fun _ _ h => h), fun o p z => by cases z⟩
theorem j_addL : R2J X (rCatL X.K) gAddL := by
  intro Z F ρ μ δ σ H x y dx dy s Q S bx bY e q
  unfold gAddL at e
  cases dx <;> cases dy <;> first | (cases e; done) | skip
  rename_i i j
  by_cases hz : i.length + j.length ≤ 16777216
  · simp only [hz, if_true] at e
    cases e
    obtain ⟨p1, v1, rfl, h1, r1⟩ := bx.lst S
    obtain ⟨p2, v2, rfl, h2, r2⟩ := bY.lst S
    refine ⟨p1, p2, v1, v2, rfl, rfl, .of h1, .of h2, by rw [r1.len, r2.len, line_eq]; exact hz, fun p hp => ?_⟩
    obtain ⟨S', vr⟩ := vr_newL S hp (r1.app r2)
    exact q _ _ F .refl S' vr
  · simp only [hz] at e; cases e
theorem j_addT : R2J X (rCatA X.K) gAddT := by
  intro Z F ρ μ δ σ H x y dx dy s Q S bx bY e q
  unfold gAddT at e
  cases dx <;> cases dy <;> first | (cases e; done) | skip
  rename_i i j
  by_cases hz : i.length + j.length ≤ 16777216
  · simp only [hz, if_true] at e
    cases e
    have b1 := bx.rep fun o e => by cases o <;> cases e
    have b2 := bY.rep fun o e => by cases o <;> cases e
    obtain ⟨p1, v1, rfl, h1, r1⟩ := bx.tup S
    obtain ⟨p2, v2, rfl, h2, r2⟩ := bY.tup S
    refine ⟨p1, p2, v1, v2, rfl, rfl, h1, h2, by rw [r1.len, r2.len, line_eq]; exact hz, fun z => ?_, fun _ z => ?_, fun _ _ p hp => ?_⟩
    · subst z
      cases r1
      exact q _ H F .refl S ⟨b2, fun o p z => by cases z⟩
    · subst z
      cases r2
      rw [List.append_nil] at q
      exact q _ H F .refl S ⟨b1, fun o p z => by cases z⟩
    · obtain ⟨F', l', S', vr⟩ := vr_newT S hp (r1.app r2)
      exact q _ _ F' l' S' vr
  · simp only [hz] at e; cases e
def gAdd : D → D → Option Slot := fun x y => (gInt (fun _ _ => true) (fun i j => .int (i + j)) x y).or ((gAddS x y).or ((gAddL x y).or (gAddT x y)))
abbrev rAddA (K : PySem.W.Frag) : R2 := fun x y H Q => rI0 (fun i j => .int (i + j)) x y H Q ∨ ((∃ i j, x = .str i ∧ y = .str j ∧ i.length + j.length ≤ sizeLine ∧ Q (.str (i ++ j)) H) ∨ (rCatL K x y H Q ∨ rCatA K x y H Q))
theorem o_add : OpR X (binaryOp .Add) (rAddA X.K) := op_add.or (op_add_str.or (o_cat.or op_catA))
theorem j_add : R2J X (rAddA X.K) gAdd := R2J.or r2_int0 (R2J.or j_addS (R2J.or j_addL j_addT))
def gRep : D → D → Option Slot
  | .lst x, .int k => if (decide (-(2 ^ 63) ≤ k) && decide (k < 2 ^ 63) && decide (x.length * k.toNat ≤ 16777216)) = true then some (.own (.lst (List.replicate k.toNat x).flatten)) else none
  | _, _ => none
theorem j_rep : R2J X rRep gRep := by
  intro Z F ρ μ δ σ H x y dx dy s Q S bx bY e q
  unfold gRep at e
  cases dx <;> cases dy <;> first | (cases e; done) | skip
  rename_i xs k
  cases bY.int
  by_cases hz : (decide (-(2 ^ 63) ≤ k) && decide (k < 2 ^ 63) && decide (xs.length * k.toNat ≤ 16777216)) = true
  · simp only [hz, if_true] at e
    cases e
    obtain ⟨p1, v1, rfl, h1, r1⟩ := bx.lst S
    have h' := Bool.and_eq_true_iff.mp hz
    have h2 := Bool.and_eq_true_iff.mp h'.1
    refine ⟨p1, k, v1, rfl, rfl, h1, of_decide_eq_true h2.1, of_decide_eq_true h2.2, by rw [r1.len, line_eq]; exact of_decide_eq_true h'.2, fun p hp => ?_⟩
    obtain ⟨S', vr⟩ := vr_newL S hp (r1.rep k.toNat)
    exact q _ _ F .refl S' vr
  · simp only [hz] at e; cases e
abbrev tb (b : Bool) : Slot := .fr (.bl b)
abbrev gLtI : D → D → Option Slot := gInt (fun _ _ => true) fun i j => .bl (decide (i < j))
abbrev gLeI : D → D → Option Slot := gInt (fun _ _ => true) fun i j => .bl (decide (i ≤ j))
abbrev gGtI : D → D → Option Slot := gInt (fun _ _ => true) fun i j => .bl (decide (j < i))
abbrev gGeI : D → D → Option Slot := gInt (fun _ _ => true) fun i j => .bl (decide (j ≤ i))
def gTx (f : Tx → Tx → Bool) : D → D → Option Slot
  | .str x, .str y => some (tb (f x y))
  | _, _ => none
theorem r2_tx {f : List Nat → List Nat → Bool} : R2J X (fun x y H Q => ∃ i j, x = .str i ∧ y = .str j ∧ Q (.bl (f i.cps.toList j.cps.toList)) H) (gTx f) := by
  refine r2_flat fun F ρ H x y dx dy s Q bx bY e => ?_
  unfold gTx at e
  cases dx <;> cases dy <;> first | (cases e; done) | skip
  cases bx.str
  cases bY.str
  cases e
  exact ⟨.bl _, fun q => ⟨_, _, rfl, rfl, q⟩, _, rfl, fun _ _ => .bl⟩
def gLt : D → D → Option Slot := fun x y => (gLtI x y).or (gTx (fun x y => decide (x < y)) x y)
def gLe : D → D → Option Slot := fun x y => (gLeI x y).or (gTx (fun x y => !decide (y < x)) x y)
def gGt : D → D → Option Slot := fun x y => (gGtI x y).or (gTx (fun x y => decide (y < x)) x y)
def gGe : D → D → Option Slot := fun x y => (gGeI x y).or (gTx (fun x y => !decide (x < y)) x y)
abbrev rLtA : R2 := fun x y H Q => rI0 (fun i j => .bl (decide (i < j))) x y H Q ∨ ∃ i j, x = .str i ∧ y = .str j ∧ Q (.bl (decide (i.cps.toList < j.cps.toList))) H
abbrev rLeA : R2 := fun x y H Q => rI0 (fun i j => .bl (decide (i ≤ j))) x y H Q ∨ ∃ i j, x = .str i ∧ y = .str j ∧ Q (.bl (!decide (j.cps.toList < i.cps.toList))) H
abbrev rGtA : R2 := fun x y H Q => rI0 (fun i j => .bl (decide (j < i))) x y H Q ∨ ∃ i j, x = .str i ∧ y = .str j ∧ Q (.bl (decide (j.cps.toList < i.cps.toList))) H
abbrev rGeA : R2 := fun x y H Q => rI0 (fun i j => .bl (decide (j ≤ i))) x y H Q ∨ ∃ i j, x = .str i ∧ y = .str j ∧ Q (.bl (!decide (i.cps.toList < j.cps.toList))) H
theorem o_lt : OpR X (compareOp .Lt) rLtA := op_lt.or op_lt_str
theorem o_le : OpR X (compareOp .LtE) rLeA := op_le.or op_le_str
theorem o_gt : OpR X (compareOp .Gt) rGtA := op_gt.or op_gt_str
theorem o_ge : OpR X (compareOp .GtE) rGeA := op_ge.or op_ge_str
theorem j_lt : R2J X rLtA gLt := R2J.or r2_intB (r2_tx (f := fun x y => decide (x < y)))
theorem j_le : R2J X rLeA gLe := R2J.or r2_intB (r2_tx (f := fun x y => !decide (y < x)))
theorem j_gt : R2J X rGtA gGt := R2J.or r2_intB (r2_tx (f := fun x y => decide (y < x)))
theorem j_ge : R2J X rGeA gGe := R2J.or r2_intB (r2_tx (f := fun x y => !decide (x < y)))
def eqS : D → D → Option Bool
  | .int i, .int j => some (decide (i = j))
  | .str x, .str y => some (decide (x = y))
  | .bl a, .bl b => some (decide (a = b))
  | .non, .non => some true
  | .non, .int _ | .int _, .non | .non, .bl _ | .bl _, .non | .non, .str _ | .str _, .non | .int _, .str _ | .str _, .int _ | .bl _, .str _ | .str _, .bl _ => some false
  | _, _ => none
def eqP (x y : D) : Option Bool := match D.py x, D.py y with
  | some a, some b => if SeqAt.shaped a && SeqAt.shaped b then some (PyData.eqv a b) else none
  | _, _ => none
def gEq (neg : Bool) : D → D → Option Slot := fun x y => ((eqS x y).map fun b => tb (b != neg)).or ((eqP x y).map fun b => tb (b != neg))
abbrev rEqA (K : PySem.W.Frag) : R2 := fun x y H Q => rEq x y H Q ∨ rEqD K x y H Q
abbrev rNeA (K : PySem.W.Frag) : R2 := fun x y H Q => rNe x y H Q ∨ rNeD K x y H Q
theorem o_eq (hu : X.A.units + 64 < cLine) : OpR X (compareOp .Eq) (rEqA X.K) := op_eq.or (op_eqD hu)
theorem o_ne (hu : X.A.units + 64 < cLine) : OpR X (compareOp .NotEq) (rNeA X.K) := op_ne.or (op_neD hu)
mutual
theorem Rep.dp {K : PySem.W.Frag} {mg : Str → Option Value} {F H : Hp} {ρ : List Addr} (l : ∀ p u, Rd F p u → Rd H p u) : ∀ {v : V} {d : D} {q : PyData}, Rep K mg F ρ v d → D.py d = some q → Dp K H v q
  | _, _, _, .non, e => by simp only [D.py] at e; cases e; exact .non
  | _, _, _, .bl, e => by simp only [D.py] at e; cases e; exact .bl _
  | _, _, _, .int, e => by simp only [D.py] at e; cases e; exact .int _
  | _, _, _, .str, e => by simp only [D.py] at e; cases e; exact .str _
  | _, _, _, .lst h r, e => by
    simp only [D.py] at e
    obtain ⟨qs, e1, e2⟩ := Option.map_eq_some_iff.mp e
    subst e2
    exact .lst (.inl (l _ _ (.inl h))) (RepL.dp l r e1)
  | _, _, _, .ro h r, e => by
    simp only [D.py] at e
    obtain ⟨qs, e1, e2⟩ := Option.map_eq_some_iff.mp e
    subst e2
    exact .lst (h.elim (fun h => .inl (l _ _ h)) .inr) (RepL.dp l r e1)
  | _, _, _, .tup h r, e => by
    simp only [D.py] at e
    obtain ⟨qs, e1, e2⟩ := Option.map_eq_some_iff.mp e
    subst e2
    exact .tup (h.elim (fun h => .inl (l _ _ h)) .inr) (RepL.dp l r e1)
  | _, _, _, .dct _ _ _, e => by simp only [D.py] at e; cases e
  | _, _, _, .obj _, e => by simp only [D.py] at e; cases e
  | _, _, _, .glo _ _, e => by simp only [D.py] at e; cases e
  | _, _, _, .ty, e => by simp only [D.py] at e; cases e
  | _, _, _, .exn _ _ _ _, e => by simp only [D.py] at e; cases e
  | _, _, _, .rc h hd r, e => by
    simp only [D.py] at e
    obtain ⟨qs, e1, e2⟩ := Option.map_eq_some_iff.mp e
    subst e2
    exact .tup (.inl (l _ _ (.inr ⟨_, h⟩))) (RepL.dp l r e1)
  | _, _, _, .dcf _ _ _, e => by simp only [D.py] at e; cases e
theorem RepL.dp {K : PySem.W.Frag} {mg : Str → Option Value} {F H : Hp} {ρ : List Addr} (l : ∀ p u, Rd F p u → Rd H p u) : ∀ {vs : List V} {ds : List D} {qs : List PyData}, RepL K mg F ρ vs ds → D.pys ds = some qs → DpAll K H vs qs
  | _, _, _, .nil, e => by simp only [D.pys] at e; cases e; exact .nil
  | _, _, _, .cons (d := d) (ds := ds) h t, e => by
    simp only [D.pys] at e
    cases e1 : D.py d with
    | none => simp only [e1] at e; cases e
    | some a =>
      cases e2 : D.pys ds with
      | none => simp only [e1, e2] at e; cases e
      | some r =>
        simp only [e1, e2] at e
        cases e
        exact .cons (Rep.dp l h e1) (RepL.dp l t e2)
end
theorem Bor.dp {Z F H : Hp} {ρ : List Addr} {μ : Mem} {δ : Loc} {σ : St} {v : V} {d : D} {q : PyData} (S : Sim X.K X.mg Z F ρ μ δ σ H) (h : Bor X.K X.mg F ρ H v d) (e : D.py d = some q) : Dp X.K H v q := by
  cases h with
  | fr h => exact h.dp (fun _ _ => S.rd) e
  | @own p o h =>
    cases o with
    | dct ks vs => simp only [Own.d, D.py] at e; cases e
    | tab P q => simp only [Own.d, D.py] at e; cases e
    | ins c kd ks xs => simp only [Own.d, D.py] at e; cases e
    | idc k => simp only [Own.d, D.py] at e; cases e
    | lst xs =>
      simp only [Own.d, D.py] at e
      obtain ⟨qs, e1, e2⟩ := Option.map_eq_some_iff.mp e
      subst e2
      obtain ⟨vs, eh, r⟩ := h
      exact .lst (.inl (.inl eh)) (r.dp (fun _ _ => S.rd) e1)
theorem eqS_V {F H : Hp} {ρ : List Addr} {x y : V} {dx dy : D} {b : Bool} (bx : Bor X.K X.mg F ρ H x dx) (bY : Bor X.K X.mg F ρ H y dy) (e : eqS dx dy = some b) : scal x y = true ∧ decide (x = y) = b := by
  unfold eqS at e
  cases dx <;> cases dy <;> first | (cases e; done) | skip
  all_goals cases e
  all_goals first
    | (cases bx.non; cases bY.non; exact ⟨rfl, rfl⟩)
    | (cases bx.non; cases bY.bl; exact ⟨rfl, rfl⟩)
    | (cases bx.bl; cases bY.non; exact ⟨rfl, rfl⟩)
    | (cases bx.non; cases bY.int; exact ⟨rfl, rfl⟩)
    | (cases bx.int; cases bY.non; exact ⟨rfl, rfl⟩)
    | (cases bx.non; cases bY.str; exact ⟨rfl, rfl⟩)
    | (cases bx.str; cases bY.non; exact ⟨rfl, rfl⟩)
    | (cases bx.int; cases bY.str; exact ⟨rfl, rfl⟩)
    | (cases bx.str; cases bY.int; exact ⟨rfl, rfl⟩)
    | (cases bx.bl; cases bY.str; exact ⟨rfl, rfl⟩)
    | (cases bx.str; cases bY.bl; exact ⟨rfl, rfl⟩)
    | (cases bx.bl; cases bY.bl; exact ⟨rfl, by simp⟩)
    | (cases bx.int; cases bY.int; exact ⟨rfl, by simp⟩)
    | (cases bx.str; cases bY.str
       refine ⟨rfl, ?_⟩
       rename_i i j
       by_cases q : i = j
       · subst q; simp
       · have n : ¬ (V.str (toS i) = V.str (toS j)) := fun z => q (toS_inj (by injection z))
         rw [decide_eq_false n, decide_eq_false q])
theorem j_eqN (neg : Bool) : R2J X (fun x y H Q => scal x y = true ∧ Q (.bl (decide (x = y) != neg)) H) (fun x y => (eqS x y).map fun b => tb (b != neg)) := by
  refine r2_flat fun F ρ H x y dx dy s Q bx bY e => ?_
  obtain ⟨b, e1, e2⟩ := Option.map_eq_some_iff.mp e
  obtain ⟨h1, h2⟩ := eqS_V bx bY e1
  subst e2 h2
  exact ⟨_, fun q => ⟨h1, q⟩, _, rfl, fun _ _ => .bl⟩
theorem j_eqD (neg : Bool) : R2J X (fun x y H Q => ∃ d e, Dp X.K H x d ∧ Dp X.K H y e ∧ SeqAt.shaped d = true ∧ SeqAt.shaped e = true ∧ Q (.bl (PyData.eqv d e != neg)) H) (fun x y => (eqP x y).map fun b => tb (b != neg)) := by
  intro Z F ρ μ δ σ H x y dx dy s Q S bx bY e q
  obtain ⟨b, e1, e2⟩ := Option.map_eq_some_iff.mp e
  subst e2
  unfold eqP at e1
  cases p1 : D.py dx with
  | none => simp only [p1] at e1; cases e1
  | some a =>
    cases p2 : D.py dy with
    | none => simp only [p1, p2] at e1; cases e1
    | some c =>
      simp only [p1, p2] at e1
      by_cases hs : (SeqAt.shaped a && SeqAt.shaped c) = true
      · rw [if_pos hs] at e1
        cases e1
        have hs' := Bool.and_eq_true_iff.mp hs
        exact ⟨a, c, bx.dp S p1, bY.dp S p2, hs'.1, hs'.2, q _ H F .refl S .bl⟩
      · rw [if_neg hs] at e1; cases e1
theorem j_eq : R2J X (rEqA X.K) (gEq false) := by
  have h := R2J.or (j_eqN (X := X) false) (j_eqD false)
  have e : gEq false = fun x y => ((eqS x y).map fun b => tb b).or ((eqP x y).map fun b => tb b) := by
    funext x y; unfold gEq; simp only [Bool.bne_false]
  rw [e]
  simp only [Bool.bne_false] at h
  exact h
theorem j_ne : R2J X (rNeA X.K) (gEq true) := by
  have h := R2J.or (j_eqN (X := X) true) (j_eqD true)
  have e : gEq true = fun x y => ((eqS x y).map fun b => tb (!b)).or ((eqP x y).map fun b => tb (!b)) := by
    funext x y; unfold gEq; simp only [Bool.bne_true]
  rw [e]
  simp only [Bool.bne_true] at h
  exact h
def gIsN (neg : Bool) : D → D → Option Slot
  | .non, .non => some (tb (true != neg))
  | .glo _, .non => none
  | _, .non => some (tb (false != neg))
  | _, _ => none
theorem isN_V {F H : Hp} {ρ : List Addr} {x : V} {dx : D} (bx : Bor X.K X.mg F ρ H x dx) (ng : ∀ g, dx ≠ .glo g) : decide (x = V.non) = match dx with | .non => true | _ => false := by
  cases bx with
  | fr h => cases h <;> first | rfl | exact absurd rfl (ng _)
  | @own p o h => cases o <;> rfl
theorem j_isN (neg : Bool) : R2J X (fun x y H Q => y = V.non ∧ Q (.bl (decide (x = .non) != neg)) H) (gIsN neg) := by
  refine r2_flat fun F ρ H x y dx dy s Q bx bY e => ?_
  unfold gIsN at e
  cases dy <;> first | (cases dx <;> cases e; done) | skip
  cases bY.non
  cases dx <;> first | (cases e; done) | skip
  all_goals
    have h := isN_V bx (fun g z => by cases z)
    cases e
    rw [h]
    exact ⟨_, fun q => ⟨rfl, q⟩, _, rfl, fun _ _ => .bl⟩
theorem o_isN : OpR X (compareOp .Is) (fun x y H Q => y = V.non ∧ Q (.bl (decide (x = .non) != false)) H) := by simpa only [Bool.bne_false] using op_isN (X := X)
def gInS (neg : Bool) : D → D → Option Slot
  | .str [c], .str y => some (tb (decide (c ∈ y) != neg))
  | _, _ => none
theorem j_inS (neg : Bool) : R2J X (fun x y H Q => ∃ (c : Nat) (z : Str), x = .str ⟨#[c]⟩ ∧ y = .str z ∧ Q (.bl (decide (c ∈ z.cps.toList) != neg)) H) (gInS neg) := by
  refine r2_flat fun F ρ H x y dx dy s Q bx bY e => ?_
  unfold gInS at e
  cases dx <;> first | (cases e; done) | skip
  rename_i xs
  cases xs with
  | nil => cases e
  | cons c r =>
    cases r with
    | cons _ _ => cases e
    | nil =>
      cases dy <;> first | (cases e; done) | skip
      cases bx.str
      cases bY.str
      cases e
      exact ⟨_, fun q => ⟨c, _, rfl, rfl, q⟩, _, rfl, fun _ _ => .bl⟩
def D.fv : D → Option V
  | .non => some .non
  | .bl b => some (.bl b)
  | .int i => some (.int i)
  | .str x => some (.str (toS x))
  | _ => none
def fvs : List D → Option (List V)
  | [] => some []
  | x :: xs => match D.fv x, fvs xs with
    | some a, some r => some (a :: r)
    | _, _ => none
def gInL (neg : Bool) : D → D → Option Slot := fun x y => match D.fv x, (match y with | .lst ys => fvs ys | .tup ys => fvs ys | _ => none) with
  | some a, some vs => some (tb (inV a vs != neg))
  | _, _ => none
theorem Bor.fv {F H : Hp} {ρ : List Addr} {x w : V} {d : D} (h : Bor X.K X.mg F ρ H x d) (e : D.fv d = some w) : x = w ∧ flatV w = true := by
  cases d <;> first | (cases e; done) | skip
  · cases e; exact ⟨h.non, rfl⟩
  · cases e; exact ⟨h.bl, rfl⟩
  · cases e; exact ⟨h.int, rfl⟩
  · cases e; exact ⟨h.str, rfl⟩
theorem RepL.fvs {F : Hp} {ρ : List Addr} : ∀ {vs ws : List V} {ds : List D}, RepL X.K X.mg F ρ vs ds → fvs ds = some ws → vs = ws ∧ ws.all flatV = true := by
  intro vs ws ds
  induction ds generalizing vs ws with
  | nil => intro h e; cases h; cases e; exact ⟨rfl, rfl⟩
  | cons d ds ih =>
    intro h e
    cases h with
    | cons h t =>
      unfold FL.fvs at e
      cases e1 : D.fv d with
      | none => simp only [e1] at e; cases e
      | some a =>
        cases e2 : FL.fvs ds with
        | none => simp only [e1, e2] at e; cases e
        | some r =>
          simp only [e1, e2] at e
          cases e
          obtain ⟨h1, h2⟩ := ih t e2
          obtain ⟨h3, h4⟩ := Bor.fv (X := X) (H := F) (.fr h) e1
          exact ⟨by rw [h1, h3], by rw [List.all_cons, h4, h2]; rfl⟩
theorem j_inL (neg : Bool) : R2J X (rIn X.K neg) (gInL neg) := by
  intro Z F ρ μ δ σ H x y dx dy s Q S bx bY e q
  unfold gInL at e
  cases e1 : D.fv dx with
  | none => simp only [e1] at e; cases e
  | some a =>
    obtain ⟨rfl, fa⟩ := bx.fv e1
    have fin : ∀ {vs : List V} {ds : List D} {ws : List V}, RepL X.K X.mg F ρ vs ds → fvs ds = some ws → s = tb (inV x ws != neg) → x = x → ∀ p, y = .ref p → (SqL X.K H p vs ∨ SqT X.K H p vs) → rIn X.K neg x y H Q := by
      intro vs ds ws r e2 es _ p ey hq
      obtain ⟨rfl, f2⟩ := r.fvs e2
      refine ⟨p, vs, ey, hq, fa, f2, ?_⟩
      have qq := q (.bl (inV x vs != neg)) H F .refl S (by rw [es]; exact .bl)
      cases neg with
      | true => rw [if_pos rfl]; simpa only [Bool.bne_true] using qq
      | false => rw [if_neg Bool.false_ne_true]; simpa only [Bool.bne_false] using qq
    cases dy <;> first | (simp only [e1] at e; cases e; done) | skip
    · rename_i ys
      cases e2 : fvs ys with
      | none => simp only [e1, e2] at e; cases e
      | some ws =>
        simp only [e1, e2] at e
        obtain ⟨p, vs, ey, hl, r⟩ := bY.lst S
        exact fin r e2 (by injection e with e; exact e.symm) rfl p ey (.inl (.of hl))
    · rename_i ys
      cases e2 : fvs ys with
      | none => simp only [e1, e2] at e; cases e
      | some ws =>
        simp only [e1, e2] at e
        obtain ⟨p, vs, ey, hl, r⟩ := bY.tup S
        exact fin r e2 (by injection e with e; exact e.symm) rfl p ey (.inr hl)
def gIn (neg : Bool) : D → D → Option Slot := fun x y => (gInS neg x y).or (gInL neg x y)
abbrev rInA (K : PySem.W.Frag) (neg : Bool) : R2 := fun x y H Q => (∃ (c : Nat) (z : Str), x = .str ⟨#[c]⟩ ∧ y = .str z ∧ Q (.bl (decide (c ∈ z.cps.toList) != neg)) H) ∨ rIn K neg x y H Q
theorem o_in : OpR X (compareOp .In) (rInA X.K false) := OpR.or (by simpa only [Bool.bne_false] using op_in_sign (X := X)) op_in_seq
theorem j_in (neg : Bool) : R2J X (rInA X.K neg) (gIn neg) := R2J.or (j_inS neg) (j_inL neg)
def ixFx : FxM → List DK → List D → Int → Option Slot
  | .ro, [], x, i => (L2.atI x i).map .fr
  | .rc, [], x, i => (L2.atI x i).map .fr
  | _, _, _, _ => none
def gIxL : D → D → Option Slot
  | .lst x, .int i => (atI x i).map .fr
  | .tup x, .int i => (atI x i).map .fr
  | .fx b ks x, .int i => ixFx b ks x i
  | .str x, .int i => if x.length ≤ 16777216 then (atI x i).map fun c => .fr (.str [c]) else none
  | _, _ => none
theorem RepL.atI {F : Hp} {ρ : List Addr} {vs : List V} {ds : List D} {i : Int} {d : D} (r : RepL X.K X.mg F ρ vs ds) (e : L2.atI ds i = some d) : ∃ v, L2.atI vs i = some v ∧ Rep X.K X.mg F ρ v d := by
  unfold L2.atI at e ⊢
  rw [r.len]
  cases h : ixN ds.length i with
  | none => rw [h] at e; cases e
  | some j =>
    rw [h] at e
    exact r.get e
theorem j_ix : R2J X (rIx X.K) gIxL := by
  intro Z F ρ μ δ σ H x y dx dy s Q S bx bY e q
  unfold gIxL at e
  cases dx <;> cases dy <;> first | (cases e; done) | skip
  · rename_i x i
    cases bx.str
    cases bY.int
    by_cases hz : x.length ≤ 16777216
    · simp only [hz, if_true] at e
      obtain ⟨c, e1, e2⟩ := Option.map_eq_some_iff.mp e
      subst e2
      exact .inr (.inr ⟨_, _, c, rfl, rfl, by rw [toS_len, line_eq]; exact hz, e1, q _ H F .refl S ⟨Rep.str (x := [c]), fun o p z => by cases z⟩⟩)
    · simp only [hz] at e; cases e
  · rename_i x i
    obtain ⟨d, e1, e2⟩ := Option.map_eq_some_iff.mp e
    subst e2
    cases bY.int
    obtain ⟨p, vs, rfl, hl, r⟩ := bx.lst S
    obtain ⟨v, ev, rv⟩ := r.atI e1
    exact .inl ⟨p, vs, _, v, rfl, rfl, .of hl, ev, q _ H F .refl S ⟨rv, fun o p z => by cases z⟩⟩
  · rename_i x i
    obtain ⟨d, e1, e2⟩ := Option.map_eq_some_iff.mp e
    subst e2
    cases bY.int
    obtain ⟨p, vs, rfl, hl, r⟩ := bx.tup S
    obtain ⟨v, ev, rv⟩ := r.atI e1
    exact .inr (.inl ⟨p, vs, _, v, rfl, rfl, hl, ev, q _ H F .refl S ⟨rv, fun o p z => by cases z⟩⟩)
  · rename_i b ks x i
    have e : ixFx b ks x i = some s := e
    cases bY.int
    cases b <;> cases ks <;> first | (cases e; done) | skip
    · obtain ⟨d, e1, e2⟩ := Option.map_eq_some_iff.mp (show (L2.atI x i).map Slot.fr = some s from e)
      subst e2
      obtain ⟨p, vs, rfl, hl, r⟩ := bx.ro S
      obtain ⟨v, ev, rv⟩ := r.atI e1
      exact .inl ⟨p, vs, _, v, rfl, rfl, hl, ev, q _ H F .refl S ⟨rv, fun o p z => by cases z⟩⟩
    obtain ⟨d, e1, e2⟩ := Option.map_eq_some_iff.mp (show (L2.atI x i).map Slot.fr = some s from e)
    subst e2
    obtain ⟨p, vs, rfl, hl, r⟩ := bx.rcT S
    obtain ⟨v, ev, rv⟩ := r.atI e1
    exact .inr (.inl ⟨p, vs, _, v, rfl, rfl, hl, ev, q _ H F .refl S ⟨rv, fun o p z => by cases z⟩⟩)
end
end FL
namespace FL
open PySem L2
section
variable {X : Cx} {W : WX} {e a b o : Expr} {es : List Expr} {pos p apos : Pos}
def RLJ (X : Cx) (r : List V → Hp → VK → Prop) (g : List D → Option Slot) : Prop := ∀ Z F ρ μ δ σ H xs ds s Q, Sim X.K X.mg Z F ρ μ δ σ H → BorL X.K X.mg F ρ H xs ds → g ds = some s →
  (∀ v H' F', Le Z F F' → Sim X.K X.mg Z F' ρ μ δ σ H' → VR X.K X.mg Z F' ρ δ σ H' v s → Q v H') → r xs H Q
def mC (g : List D → Option Slot) (os : List Opn) : ME := fun δ μ => (evs os δ μ).bind fun rs δ1 μ1 => match OR.ats δ1 μ1 rs with
  | some ds => lift (g ds) δ1 μ1
  | none => .bad
theorem mC_read {r : List V → Hp → VK → Prop} {g : List D → Option Slot} {os : List Opn} (hr : RLJ X r g) : ∀ σ H Q, rdE X W (mC g os) σ H Q → tCB r (rdOs X W os) σ H Q := by
  intro σ H Q ⟨Z, F, ρ, μ, δ, S, q⟩
  refine ⟨Z, F, ρ, μ, δ, S, (FinE.bind q).imp fun rs δ1 μ1 H1 F1 ρ1 l lr S1 ⟨_, _, _, p⟩ xs hx => ?_⟩
  cases ea : OR.ats δ1 μ1 rs with
  | none => simp only [ea] at p; exact p.elim
  | some ds =>
    simp only [ea] at p
    unfold lift at p
    cases eg : g ds with
    | none => simp only [eg] at p; exact p.elim
    | some s =>
      simp only [eg] at p
      exact hr Z F1 ρ1 μ1 δ1 σ H1 xs ds s Q S1 (hx.bor S1 ea) eg fun v H' F' l' S' vr => p H' F' ρ1 l' .refl S' v vr
theorem je_callB {x : Str} {id : String} {r : List V → Hp → VK → Prop} {g : List D → Option Slot} {os : List Opn} (hc : CallR X (.builtin id) r) (hr : RLJ X r g) (hg : Gl X x) (hm : X.mg x = none) (hv : bootBuiltins x = some (.builtin id)) (ha : JOs X W (e :: es) os)
    (hn : x ≠ "__name__" := by decide) (hdb : (x == ("__debug__" : Str)) = false := by decide)
    (he : starEach (e :: es) X.env = (false, eval e X.env) :: starEach es X.env := by rfl) (hpl : (backTo pos (starEach es X.env)).any (·.1) = false := by rfl) : JE X W (.Call (.Name x p) (e :: es) [] pos) (mC g os) :=
  (pe_callB hc hg hm hv ha hn hdb he hpl).imp (mC_read hr)
theorem je_callTy {x : Str} {T : String} {r : List V → Hp → VK → Prop} {g : List D → Option Slot} {os : List Opn} (hc : CallR X (.type T) r) (hr : RLJ X r g) (hg : Gl X x) (hm : X.mg x = none) (hv : bootBuiltins x = some (.type T)) (ha : JOs X W (e :: es) os)
    (hn : x ≠ "__name__" := by decide) (hdb : (x == ("__debug__" : Str)) = false := by decide)
    (he : starEach (e :: es) X.env = (false, eval e X.env) :: starEach es X.env := by rfl) (hpl : (backTo pos (starEach es X.env)).any (·.1) = false := by rfl) : JE X W (.Call (.Name x p) (e :: es) [] pos) (mC g os) :=
  (pe_callTy hc hg hm hv ha hn hdb he hpl).imp (mC_read hr)
theorem RLJ.or {r r' : List V → Hp → VK → Prop} {g g' : List D → Option Slot} (h : RLJ X r g) (h' : RLJ X r' g') : RLJ X (fun x H Q => r x H Q ∨ r' x H Q) (fun x => (g x).or (g' x)) := by
  intro Z F ρ μ δ σ H xs ds s Q S b e q
  have e : (g ds).or (g' ds) = some s := e
  cases eg : g ds with
  | some s' => rw [eg] at e; exact .inl (h Z F ρ μ δ σ H xs ds s Q S b (by rw [eg]; exact e) q)
  | none => rw [eg] at e; exact .inr (h' Z F ρ μ δ σ H xs ds s Q S b e q)
theorem BorL.one {F H : Hp} {ρ : List Addr} {xs : List V} {d : D} (h : BorL X.K X.mg F ρ H xs [d]) : ∃ v, xs = [v] ∧ Bor X.K X.mg F ρ H v d := by
  cases h with
  | cons h t => cases t; exact ⟨_, rfl, h⟩
theorem BorL.two {F H : Hp} {ρ : List Addr} {xs : List V} {d d' : D} (h : BorL X.K X.mg F ρ H xs [d, d']) : ∃ v w, xs = [v, w] ∧ Bor X.K X.mg F ρ H v d ∧ Bor X.K X.mg F ρ H w d' := by
  cases h with
  | cons h t => obtain ⟨w, rfl, h'⟩ := t.one; exact ⟨_, w, rfl, h, h'⟩
theorem rl1_flat {r : List V → Hp → VK → Prop} {g : D → Option Slot} (h : ∀ Z F ρ μ δ σ H x dx s Q, Sim X.K X.mg Z F ρ μ δ σ H → Bor X.K X.mg F ρ H x dx → g dx = some s → ∃ v, (Q v H → r [x] H Q) ∧ ∃ d, s = .fr d ∧ Rep X.K X.mg F ρ v d) :
    RLJ X r (fun ds => match ds with | [d] => g d | _ => none) := by
  intro Z F ρ μ δ σ H xs ds s Q S b e q
  cases ds with
  | nil => cases e
  | cons d r' =>
    cases r' with
    | cons _ _ => cases e
    | nil =>
      obtain ⟨v, rfl, hb⟩ := b.one
      obtain ⟨w, h1, d', rfl, h2⟩ := h Z F ρ μ δ σ H v d s Q S hb e
      exact h1 (q w H F .refl S ⟨h2, fun o p z => by cases z⟩)
def gLen1 : D → Option Slot
  | .str x => if x.length ≤ 16777216 then some (.fr (.int x.length)) else none
  | .lst x => some (.fr (.int x.length))
  | .tup x => some (.fr (.int x.length))
  | .fx .ro [] x => some (.fr (.int x.length))
  | .fx .rc [] x => some (.fr (.int x.length))
  | _ => none
def gLen : List D → Option Slot := fun ds => match ds with
  | [d] => gLen1 d
  | _ => none
abbrev rLen (K : PySem.W.Frag) : List V → Hp → VK → Prop := fun xs H Q => ∃ x n, xs = [x] ∧ LenV K x H n ∧ Q (.int n) H
theorem j_len : RLJ X (rLen X.K) gLen := rl1_flat fun Z F ρ μ δ σ H x dx s Q S b e => by
  unfold gLen1 at e
  cases dx <;> first | (cases e; done) | skip
  · rename_i t
    cases b.str
    by_cases hz : t.length ≤ 16777216
    · simp only [hz, if_true] at e
      cases e
      exact ⟨.int (toS t).length, fun q => ⟨_, _, rfl, ⟨by rw [toS_len, line_eq]; exact hz, rfl⟩, q⟩, _, rfl, by rw [toS_len]; exact .int⟩
    · simp only [hz] at e; cases e
  · cases e
    obtain ⟨p, vs, rfl, h, r⟩ := b.lst S
    exact ⟨.int vs.length, fun q => ⟨_, _, rfl, .inl ⟨vs, .of h, rfl⟩, q⟩, _, rfl, by rw [r.len]; exact .int⟩
  · cases e
    obtain ⟨p, vs, rfl, h, r⟩ := b.tup S
    exact ⟨.int vs.length, fun q => ⟨_, _, rfl, .inr ⟨vs, h, rfl⟩, q⟩, _, rfl, by rw [r.len]; exact .int⟩
  · rename_i b' ks' x'
    cases b' <;> cases ks' <;> first | (cases e; done) | skip
    · cases e
      obtain ⟨p, vs, rfl, h, r⟩ := b.ro S
      exact ⟨.int vs.length, fun q => ⟨_, _, rfl, .inl ⟨vs, h, rfl⟩, q⟩, _, rfl, by rw [r.len]; exact .int⟩
    cases e
    obtain ⟨p, vs, rfl, h, r⟩ := b.rcT S
    exact ⟨.int vs.length, fun q => ⟨_, _, rfl, .inr ⟨vs, h, rfl⟩, q⟩, _, rfl, by rw [r.len]; exact .int⟩
theorem o_len : CallR X (.builtin "len") (rLen X.K) := call_len
def gMax2 : List D → Option Slot
  | [.int i, .int j] => some (.fr (.int (if j > i then j else i)))
  | _ => none
def gMin2 : List D → Option Slot
  | [.int i, .int j] => some (.fr (.int (if j < i then j else i)))
  | _ => none
theorem rl_ii {f : Int → Int → Int} {g : List D → Option Slot} (hg : ∀ ds s, g ds = some s → ∃ i j, ds = [.int i, .int j] ∧ s = .fr (.int (f i j))) : RLJ X (fun xs H Q => ∃ i j, xs = [.int i, .int j] ∧ Q (.int (f i j)) H) g := by
  intro Z F ρ μ δ σ H xs ds s Q S b e q
  obtain ⟨i, j, rfl, rfl⟩ := hg ds s e
  obtain ⟨v, w, rfl, h1, h2⟩ := b.two
  cases h1.int
  cases h2.int
  exact ⟨i, j, rfl, q _ H F .refl S ⟨.int, fun o p z => by cases z⟩⟩
theorem j_max2 : RLJ X (fun xs H Q => ∃ i j, xs = [V.int i, V.int j] ∧ Q (.int (if j > i then j else i)) H) gMax2 := rl_ii (f := fun i j => if j > i then j else i) fun ds s e => by
  unfold gMax2 at e
  split at e
  · cases e; exact ⟨_, _, rfl, rfl⟩
  · cases e
theorem j_min2 : RLJ X (fun xs H Q => ∃ i j, xs = [V.int i, V.int j] ∧ Q (.int (if j < i then j else i)) H) gMin2 := rl_ii (f := fun i j => if j < i then j else i) fun ds s e => by
  unfold gMin2 at e
  split at e
  · cases e; exact ⟨_, _, rfl, rfl⟩
  · cases e
def blsD : List D → Option (List Bool)
  | [] => some []
  | .bl i :: r => (blsD r).map (i :: ·)
  | _ :: _ => none
theorem blsD_map : ∀ {ds : List D} {ns : List Bool}, blsD ds = some ns → ds = ns.map .bl
  | [], ns, e => by cases e; rfl
  | d :: r, ns, e => by
    cases d <;> first | (cases e; done) | skip
    rename_i i
    unfold blsD at e
    obtain ⟨m, e1, e2⟩ := Option.map_eq_some_iff.mp e
    subst e2
    rw [blsD_map e1]; rfl
theorem blsD_of : ∀ ns : List Bool, blsD (ns.map .bl) = some ns
  | [] => rfl
  | n :: ns => by show (blsD (ns.map D.bl)).map (n :: ·) = _; rw [blsD_of ns]; rfl
def gAll : List D → Option Slot := fun ds => match ds with
  | [d] => match d with
    | .lst xs => (blsD xs).map fun ns => .fr (.bl (ns.all id))
    | _ => none
  | _ => none
theorem j_all : RLJ X (rAll X.K) gAll :=
  rl1_flat (g := fun d => match d with | .lst xs => (blsD xs).map fun ns => .fr (.bl (ns.all id)) | _ => none) fun Z F ρ μ δ σ H x dx s Q S b e => by
    cases dx <;> first | (cases e; done) | skip
    obtain ⟨ns, e1, e2⟩ := Option.map_eq_some_iff.mp e
    subst e2
    obtain ⟨p, vs, rfl, h, r⟩ := b.lst S
    rw [blsD_map e1] at r
    have ev := r.bls
    subst ev
    exact ⟨_, fun q => ⟨p, ns, rfl, .of h, q⟩, _, rfl, .bl⟩
def gTuple : List D → Option Slot
  | [.lst xs] => some (.fr (.tup xs))
  | [.tup xs] => some (.fr (.tup xs))
  | _ => none
abbrev rTuple (K : PySem.W.Frag) : List V → Hp → VK → Prop := fun xs H Q => ∃ p ys, xs = [.ref p] ∧ ((SqL K H p ys ∧ ∀ l, H l = none → Q (.ref l) (upd H l (.tup ys))) ∨ (SqT K H p ys ∧ Q (.ref p) H))
theorem j_tuple : RLJ X (rTuple X.K) gTuple := by
  intro Z F ρ μ δ σ H xs ds s Q S b e q
  unfold gTuple at e
  split at e
  · cases e
    obtain ⟨v, rfl, hb⟩ := b.one
    obtain ⟨p, vs, rfl, h, r⟩ := hb.lst S
    refine ⟨p, vs, rfl, .inl ⟨.of h, fun l hl => ?_⟩⟩
    obtain ⟨F', l', S', vr⟩ := vr_newT S hl r
    exact q _ _ F' l' S' vr
  · cases e
    obtain ⟨v, rfl, hb⟩ := b.one
    have rp := hb.rep fun o e => by cases o <;> cases e
    obtain ⟨p, vs, rfl, h, r⟩ := hb.tup S
    exact ⟨p, vs, rfl, .inr ⟨h, q _ H F .refl S ⟨rp, fun o p z => by cases z⟩⟩⟩
  · cases e
theorem o_tuple : CallR X (.type "tuple") (rTuple X.K) := call_tuple_of
def tyN : D → Option String
  | .non => some "NoneType"
  | .bl _ => some "bool"
  | .int _ => some "int"
  | .str _ => some "str"
  | .lst _ => some "list"
  | .tup _ => some "tuple"
  | .dct _ _ => some "dict"
  | .fx .rc [] _ => some "tuple"
  | .fx .df _ _ => some "dict"
  | _ => none
def gIsi : List D → Option Slot
  | [d, .ty T] => match tyN d with
    | some t => (kitB t T).map fun b => tb b
    | none => none
  | _ => none
theorem tyX_tup {H : Hp} {p : Addr} {vs : List V} (h : SqT X.K H p vs) : TyX X.K H (.ref p) (.type "tuple") := by
  rcases h with (h | ⟨ob, h⟩) | ⟨o, its, n, hk, hc, _⟩
  · exact .base (.tup h)
  · exact .fTuple h
  · exact .kTuple hk hc
theorem tyX_of {Z F H : Hp} {ρ : List Addr} {μ : Mem} {δ : Loc} {σ : St} {v : V} {d : D} {t : String} (S : Sim X.K X.mg Z F ρ μ δ σ H) (h : Bor X.K X.mg F ρ H v d) (e : tyN d = some t) : TyX X.K H v (.type t) := by
  cases d <;> first | (cases e; done) | skip
  · cases e; cases h.non; exact .base .non
  · cases e; cases h.bl; exact .base (.bl _)
  · cases e; cases h.int; exact .base (.int _)
  · cases e; cases h.str; exact .base (.str _)
  · cases e; obtain ⟨p, vs, rfl, q, _⟩ := h.lst S; exact .base (.lst q)
  · cases e; obtain ⟨p, vs, rfl, q, _⟩ := h.tup S; exact tyX_tup q
  · rename_i b' ks' x'
    cases b' <;> first | (cases e; done) | skip
    · cases ks' <;> first | (cases e; done) | skip
      cases e; obtain ⟨p, vs, rfl, q, _⟩ := h.rcT S; exact tyX_tup q
    · cases e; obtain ⟨p, o, vs, rfl, _, q, _⟩ := h.dcf S; exact .fDict q
  · cases e
    obtain ⟨p, vs, rfl, q, _⟩ := h.dct S
    rcases q with q | ⟨ob, q⟩
    · exact .base (.dK q)
    · exact .fDict q
theorem j_isi : RLJ X (rIsi X.K) gIsi := by
  intro Z F ρ μ δ σ H xs ds s Q S b e q
  unfold gIsi at e
  split at e
  · rename_i d T
    cases et : tyN d with
    | none => simp only [et] at e; cases e
    | some t =>
      simp only [et] at e
      obtain ⟨k, e1, e2⟩ := Option.map_eq_some_iff.mp e
      subst e2
      obtain ⟨v, w, rfl, h1, h2⟩ := b.two
      cases h2.ty
      exact ⟨v, _, _, _, k, rfl, .ty T, tyX_of S h1 et, kit_ty e1, q _ H F .refl S .bl⟩
  · cases e
end
end FL
namespace FL
open PySem L2
section
variable {K : PySem.W.Frag} {mg : Str → Option Value} {Z F F' : Hp} {ρ ρ' : List Addr} {μ : Mem} {δ : Loc} {σ : St} {H H' : Hp} {p : Addr} {o : HO} {v : V} {s : Slot}
def Held (δ : Loc) (σ : St) (p : Addr) : Prop := ∃ (i : Nat) (s : Own), δ[i]? = some (some (.own s)) ∧ σ[i]? = some (some (.ref p))
open Classical in
noncomputable def zone (Z H : Hp) (δ : Loc) (σ : St) : Hp := fun p => if Held δ σ p then H p else Z p
theorem zone_in (h : Held δ σ p) : zone Z H δ σ p = H p := if_pos h
theorem zone_out (h : ¬ Held δ σ p) : zone Z H δ σ p = Z p := if_neg h
theorem Sim.held (S : Sim K mg Z F ρ μ δ σ H) (h : Held δ σ p) : Free Z F ρ p ∧ ∃ o, H p = some o := by
  obtain ⟨i, c, e1, e2⟩ := h
  obtain ⟨w, e3, q, ev, f1, r⟩ := S.slot i _ e1
  rw [e2] at e3; cases e3; cases ev
  exact ⟨f1, r.some⟩
theorem Sim.zone_none (S : Sim K mg Z F ρ μ δ σ H) (h : zone Z H δ σ p = none) : ¬ Held δ σ p ∧ Z p = none := by
  by_cases c : Held δ σ p
  · rw [zone_in c] at h
    obtain ⟨_, o, e⟩ := S.held c
    rw [e] at h; cases h
  · rw [zone_out c] at h; exact ⟨c, h⟩
theorem Sim.enter (S : Sim K mg Z F ρ μ δ σ H) : Sim K mg (zone Z H δ σ) F ρ μ [] [] H := by
  refine ⟨S.le, fun q u h => ?_, rfl, fun i s e => by simp at e, fun i j p s s' e => by simp at e, fun k c e => ?_, S.mlen, S.nod⟩
  · by_cases c : Held δ σ q
    · rw [zone_in c] at h; exact h
    · rw [zone_out c] at h; exact S.zk q u h
  · obtain ⟨a, e1, f1, f2, r⟩ := S.mem k c e
    refine ⟨a, e1, f1, ?_, r⟩
    rw [zone_out fun h => (S.held h).1.r (List.mem_of_getElem? e1)]
    exact f2
theorem Sim.leLeave (S : Sim K mg Z F ρ μ δ σ H) (l : Le (zone Z H δ σ) F F') : Le Z F F' := ⟨l.to, fun q u h => (l.new q u h).elim .inl fun z => .inr (S.zone_none z).2⟩
theorem Sim.leRLeave (S : Sim K mg Z F ρ μ δ σ H) (l : LeR (zone Z H δ σ) ρ ρ') : LeR Z ρ ρ' := ⟨l.to, fun q h => (l.new q h).elim .inl fun z => .inr (S.zone_none z).2⟩
theorem Sim.leave {μ' : Mem} (S : Sim K mg Z F ρ μ δ σ H) (S1 : Sim K mg (zone Z H δ σ) F' ρ' μ' [] [] H') (l : Le (zone Z H δ σ) F F') (lr : LeR (zone Z H δ σ) ρ ρ') : Sim K mg Z F' ρ' μ' δ σ H' := by
  refine ⟨S1.le, fun q u h => S1.zk q u ?_, S.len, fun i t e => ?_, S.apart, fun k c e => ?_, S1.mlen, S1.nod⟩
  · rw [zone_out fun c => by rw [(S.held c).1.z] at h; cases h]; exact h
  · obtain ⟨w, e1, r⟩ := S.slot i t e
    refine ⟨w, e1, ?_⟩
    cases t with
    | fr d => exact Rep.up l.to lr.to r
    | own c =>
      obtain ⟨q, ev, f1, r⟩ := r
      subst ev
      have hq : Held δ σ q := ⟨i, c, e, e1⟩
      obtain ⟨o, eo⟩ := r.some
      have z1 : zone Z H δ σ q = some o := by rw [zone_in hq]; exact eo
      refine ⟨q, rfl, ⟨?_, f1.z, fun hm => ?_⟩, r.up l.to lr.to (by rw [S1.zk q o z1, eo])⟩
      · cases e2 : F' q with
        | none => rfl
        | some u =>
          rcases l.new q u e2 with h | h
          · rw [f1.f] at h; cases h
          · rw [z1] at h; cases h
      · rcases lr.new q hm with h | h
        · exact f1.r h
        · rw [z1] at h; cases h
  · obtain ⟨a, e1, f1, f2, r⟩ := S1.mem k c e
    exact ⟨a, e1, f1, (S.zone_none f2).2, r⟩
theorem Sim.came (S : Sim K mg Z F ρ μ δ σ H) (h : SlotR K mg (zone Z H δ σ) F' ρ' H' v s) : VR K mg Z F' ρ' δ σ H' v s := by
  cases s with
  | fr d => exact ⟨h, fun o p z => by cases z⟩
  | own c =>
    obtain ⟨q, ev, f1, r⟩ := h
    obtain ⟨n1, n2⟩ := S.zone_none f1.z
    refine ⟨⟨q, ev, ⟨f1.f, n2, f1.r⟩, r⟩, fun o p z1 z2 i o' e1 e2 => ?_⟩
    rw [ev] at z2; cases z2
    exact n1 ⟨i, o', e1, e2⟩
end
def OutS.loop (r : OutS) (k : MS) : OutS :=
  match r with
  | .nx δ μ => k δ μ
  | .ct δ μ => k δ μ
  | .bk δ μ => .nx δ μ
  | .rt s μ => .rt s μ
  | .exc x δ μ => .exc x δ μ
  | .bad => .bad
abbrev JSs (X : Cx) (W : WX) (s : List Stmt) (m : MS) : Prop := PSs X s (rdS X W m)
section
variable {X : Cx} {W : WX} {Z F F1 : Hp} {ρ ρ1 : List Addr} {D : Ends} {σ : St} {H : Hp} {μ : Mem} {δ : Loc}
theorem FinS.loop {r : OutS} {k : MS} {N : St → Hp → Prop} (h : FinS X W Z F ρ D (r.loop k)) (hN : ∀ σ' H' F' ρ' μ δ, Le Z F F' → LeR Z ρ ρ' → Sim X.K X.mg Z F' ρ' μ δ σ' H' → FinS X W Z F' ρ' D (k δ μ) → N σ' H') :
    FinS X W Z F ρ { D with nx := N, ct := N, bk := D.nx } r := by
  cases r with
  | nx δ μ => exact fun σ' H' F' ρ' l lr S => hN σ' H' F' ρ' μ δ l lr S (FinS.mono h l lr)
  | ct δ μ => exact fun σ' H' F' ρ' l lr S => hN σ' H' F' ρ' μ δ l lr S (FinS.mono h l lr)
  | bk δ μ => exact h
  | rt s μ => exact h
  | exc x δ μ => exact h
  | bad => exact h
variable {st : Stmt} {sts rest : List Stmt} {e : Expr} {pos : Pos}
def mPass : MS := fun δ μ => .nx δ μ
def mSeq (m n : MS) : MS := fun δ μ => (m δ μ).seq n
theorem jss_nil : JSs X W [] mPass := pss_nil.imp fun D σ H ⟨Z, F, ρ, μ, δ, S, q⟩ => q.nx S
theorem jss_cons {m n : MS} (h : JS X W st m) (t : JSs X W rest n) : JSs X W (st :: rest) (mSeq m n) :=
  (pss_cons h t).imp fun D σ H ⟨Z, F, ρ, μ, δ, S, q⟩ => ⟨Z, F, ρ, μ, δ, S, FinS.seq q⟩
theorem jss_one {m : MS} (h : JS X W st m) : JSs X W [st] m := pss_one h
def mEx (m : ME) : MS := fun δ μ => (m δ μ).thn fun _ δ1 μ1 => .nx δ1 μ1
theorem js_expr {m : ME} (he : JE X W e m) (hs : swapsWith e none pos.line X.env = pure false := by rfl) : JS X W (.Expr e pos) (mEx m) :=
  (ps_expr he hs).imp fun D σ H ⟨Z, F, ρ, μ, δ, S, q⟩ => ⟨Z, F, ρ, μ, δ, S, (FinS.thn q).imp fun a δ1 μ1 H1 F1 ρ1 l lr S1 ⟨_, p⟩ v vr => p.nx S1⟩
def mRet (m : ME) : MS := fun δ μ => (m δ μ).thn fun s _ μ1 => .rt s μ1
theorem js_ret {m : ME} (he : JE X W e m) : JS X W (.Return (some e) pos) (mRet m) :=
  (ps_ret he).imp fun D σ H ⟨Z, F, ρ, μ, δ, S, q⟩ => ⟨Z, F, ρ, μ, δ, S, (FinS.thn q).imp fun a δ1 μ1 H1 F1 ρ1 l lr S1 ⟨_, p⟩ v vr => p v H1 F1 ρ1 .refl .refl S1.drop vr.r⟩
def mIfS (t : MT) (m n : MS) : MS := fun δ μ => (t δ μ).thn fun b δ1 μ1 => if b = true then m δ1 μ1 else n δ1 μ1
theorem js_if {c : Expr} {a b : List Stmt} {t : MT} {m n : MS} (hc : JT X W c t) (ha : JSs X W a m) (hb : JSs X W b n) : JS X W (.If c a b pos) (mIfS t m n) := by
  refine (ps_if hc ha hb).imp fun D σ H ⟨Z, F, ρ, μ, δ, S, q⟩ => ⟨Z, F, ρ, μ, δ, S, (FinS.thn q).imp fun b δ1 μ1 H1 F1 ρ1 l lr S1 ⟨_, p⟩ => ?_⟩
  cases b with
  | true => exact ⟨Z, F1, ρ1, μ1, δ1, S1, p⟩
  | false => exact ⟨Z, F1, ρ1, μ1, δ1, S1, p⟩
end
end FL
namespace FL
open PySem L2
section
variable {X : Cx} {W : WX} {e a b : Expr} {es : List Expr} {pos : Pos}
abbrev TgsF := List D → Loc → Option Loc
def rdGs (X : Cx) (f : TgsF) (is : List Nat) : TGs := fun vs σ H Q => ∃ Z F ρ μ δ ds, Sim X.K X.mg Z F ρ μ δ σ H ∧ RepL X.K X.mg F ρ vs ds ∧ ∃ δ', f ds δ = some δ' ∧
  ∀ σ', (∀ j : Nat, j ∉ is → σ'[j]? = σ[j]?) → σ'.length = σ.length → Sim X.K X.mg Z F ρ μ δ' σ' H → Q σ' H
abbrev JGs (X : Cx) (e : List Expr) (f : TgsF) (is : List Nat) : Prop := PGs X e (rdGs X f is)
def tgN : TgsF := fun ds δ => match ds with
  | [] => some δ
  | _ => none
def tgC (f : TgF) (g : TgsF) : TgsF := fun ds δ => match ds with
  | d :: r => match f d δ with
    | some δ' => g r δ'
    | none => none
  | [] => none
theorem jgs_nil : JGs X [] tgN [] := pgs_nil.imp fun vs σ H Q ⟨Z, F, ρ, μ, δ, ds, S, r, δ', e1, q⟩ => by
  unfold tgN at e1
  cases ds with
  | cons _ _ => cases e1
  | nil =>
    cases e1
    cases r
    exact ⟨rfl, q _ (fun _ _ => rfl) rfl S⟩
theorem jgs_cons {f : TgF} {g : TgsF} {is js : List Nat} (h : JG X e f is) (t : JGs X es g js) (hs : (assignEach (e :: es) X.env).map (·.2) = assign e X.env :: (assignEach es X.env).map (·.2) := by rfl) : JGs X (e :: es) (tgC f g) (is ++ js) :=
  (pgs_cons h t hs).imp fun vs σ H Q ⟨Z, F, ρ, μ, δ, ds, S, r, δ', e1, q⟩ => by
    unfold tgC at e1
    cases r with
    | nil => cases e1
    | @cons v d vs ds h1 t1 =>
      simp only at e1
      cases ef : f d δ with
      | none => rw [ef] at e1; cases e1
      | some δ1 =>
        rw [ef] at e1
        refine ⟨v, vs, rfl, Z, F, ρ, μ, δ, d, S, h1, δ1, ef, fun σ1 k1 l1 S1 => ⟨Z, F, ρ, μ, δ1, ds, S1, t1, δ', e1, fun σ2 k2 l2 S2 => q σ2 (fun j hj => ?_) (l2.trans l1) S2⟩⟩
        rw [k2 j (fun z => hj (List.mem_append_right _ z)), k1 j (fun z => hj (List.mem_append_left _ z))]
def tgT (n : Nat) (g : TgsF) : TgF := fun d δ => match d with
  | .tup ds => if ds.length = n then g ds δ else none
  | _ => none
theorem jg_t {k : Nat} {g : TgsF} {is : List Nat} {n : Nat} (hc : X.calm = true) (h : JGs X es g is) (hn : (assignEach es X.env).length = n := by rfl) (hst : (assignEach es X.env).findIdx? (·.1) = none := by rfl) : JG X (.Tuple es k pos) (tgT n g) is :=
  (pg_tup hc h hn hst).imp fun v σ H Q ⟨Z, F, ρ, μ, δ, d, S, r, δ', e1, q⟩ => by
    unfold tgT at e1
    cases d <;> first | (cases e1; done) | skip
    rename_i ds
    by_cases hl : ds.length = n
    · simp only [hl, if_true] at e1
      obtain ⟨p, vs, rfl, hq, rl⟩ := Bor.tup S (Bor.fr r)
      exact ⟨p, vs, rfl, hq, by rw [rl.len]; exact hl, Z, F, ρ, μ, δ, ds, S, rl, δ', e1, q⟩
    · simp only [hl] at e1; cases e1
def mAsg (f : TgF) (m : ME) : MS := fun δ μ => (m δ μ).thn fun s δ1 μ1 => match f s.d δ1 with
  | some δ2 => .nx δ2 μ1
  | none => .bad
theorem js_asg {f : TgF} {is : List Nat} {tg : Expr} {m : ME} (he : JE X W e m) (hg : JG X tg f is) (hs : swapsWithSole [tg] e pos.line X.env = pure false := by rfl) (hw : swappedStores [tg] e X.env = pure none := by rfl)
    (h1 : (assignEach [tg] X.env).map (·.2) = [assign tg X.env] := by rfl) : JS X W (.Assign [tg] e pos) (mAsg f m) :=
  (ps_asg he.locked hg hs hw h1).imp fun _ σ H ⟨Z, F, ρ, μ, δ, S, q⟩ => ⟨Z, F, ρ, μ, δ, S, (FinS.thn q).imp fun s δ1 μ1 H1 F1 ρ1 l lr S1 ⟨_, p⟩ v r => by
    cases ef : f s.d δ1 with
    | none => simp only [ef] at p; exact p.elim
    | some δ2 =>
      simp only [ef] at p
      exact ⟨Z, F1, ρ1, μ1, δ1, s.d, S1, r, δ2, ef, fun σ' _ _ S' => p.nx S'⟩⟩
theorem itr_list {F : Hp} {ρ : List Addr} {p : Addr} {vs : List V} {ds : List D} (hq : ∀ Z' F' ρ' μ δ σ H, (∀ p o, F p = some o → F' p = some o) → Sim X.K X.mg Z' F' ρ' μ δ σ H → SqL X.K H p vs) (r : RepL X.K X.mg F ρ vs ds) : ItR X F ρ (Itl X.K p) ds := by
  intro Z' F' ρ' μ δ σ H i to tr S
  have q := hq Z' F' ρ' μ δ σ H to S
  refine ⟨fun hl => ⟨vs, q, by rw [r.len]; exact hl⟩, fun d hd => ?_⟩
  obtain ⟨v, hv, rv⟩ := r.get hd
  refine ⟨⟨vs, v, q, hv⟩, fun x H' y => ?_⟩
  obtain ⟨rfl, y⟩ := y
  have := y vs q
  rw [hv] at this; cases this
  exact ⟨F', .refl, S, rv.up to tr⟩
theorem itr_tup {F : Hp} {ρ : List Addr} {p : Addr} {vs : List V} {ds : List D} (hq : ∀ Z' F' ρ' μ δ σ H, (∀ p o, F p = some o → F' p = some o) → Sim X.K X.mg Z' F' ρ' μ δ σ H → SqT X.K H p vs) (r : RepL X.K X.mg F ρ vs ds) : ItR X F ρ (Itt X.K p) ds := by
  intro Z' F' ρ' μ δ σ H i to tr S
  have q := hq Z' F' ρ' μ δ σ H to S
  refine ⟨fun hl => ⟨vs, q, by rw [r.len]; exact hl⟩, fun d hd => ?_⟩
  obtain ⟨v, hv, rv⟩ := r.get hd
  refine ⟨⟨vs, v, q, hv⟩, fun x H' y => ?_⟩
  obtain ⟨rfl, y⟩ := y
  have := y vs q
  rw [hv] at this; cases this
  exact ⟨F', .refl, S, rv.up to tr⟩
def chars (x : Tx) : List D := x.map fun c => .str [c]
theorem itr_str {F : Hp} {ρ : List Addr} {x : Tx} : ItR X F ρ (Its (toS x)) (chars x) := by
  intro Z' F' ρ' μ δ σ H i to tr S
  refine ⟨fun hl => ?_, fun d hd => ?_⟩
  · show (toS x).cps.size ≤ i
    simpa [chars, toS] using hl
  · obtain ⟨c, hc, rfl⟩ : ∃ c, x[i]? = some c ∧ D.str [c] = d := by
      unfold chars at hd
      rw [List.getElem?_map] at hd
      cases e : x[i]? with
      | none => rw [e] at hd; cases hd
      | some c => rw [e] at hd; exact ⟨c, rfl, by injection hd⟩
    have hi : i < x.length := (List.getElem?_eq_some_iff.mp hc).1
    have hc2 : (toS x).cps[i]? = some c := by simpa [toS] using hc
    refine ⟨by show i < (toS x).cps.size; simpa [toS] using hi, fun v H' y => ?_⟩
    obtain ⟨rfl, c', e', rfl⟩ := y
    have e2 : some c' = some c := e'.symm.trans hc2
    cases e2
    exact ⟨F', .refl, S, Rep.str (x := [c])⟩
def itA : D → Option (List D)
  | .lst xs => some xs
  | .fx .ro [] xs => some xs
  | .fx .rc [] xs => some xs
  | .tup xs => some xs
  | .str x => some (chars x)
  | _ => none
abbrev iAny (K : PySem.W.Frag) (te : TE) : TI := fun σ H R => te σ H fun v H1 => (∃ a, v = .ref a ∧ (∃ xs, SqL K H1 a xs) ∧ R (Itl K a) H1) ∨ (∃ a, v = .ref a ∧ (∃ xs, SqT K H1 a xs) ∧ R (Itt K a) H1) ∨ ∃ x, v = .str x ∧ R (Its x) H1
theorem pi_any {tg : Expr} {te : TE} (he : PE X e te) : PI X tg e (iAny X.K te) := by
  refine ⟨fun pins s σ H R I h => thn (he.run pins s σ H _ I h) fun v s1 ⟨y, H1, I1, r1, q⟩ => ?_⟩
  rcases q with ⟨a, rfl, ⟨xs, hq⟩, q⟩ | ⟨a, rfl, ⟨xs, hq⟩, q⟩ | ⟨x, rfl, q⟩
  · cases r1
    obtain ⟨vals, _, isl, _⟩ := I1.list hq
    exact wpAny_pyIter_list isl.isList (pi_one (tk := s1.toks) I1 _ (turn_list a _) ⟨_, Heap.get?_push_size _ rfl, rfl, rfl⟩ q)
  · cases r1
    obtain ⟨vals, _, ist, _⟩ := I1.tuple hq
    exact wpAny_pyIter_tuple (show s1.heap.IsTuple a vals.toArray from ist) (pi_one (tk := s1.toks) I1 _ (turn_tuple a _) ⟨_, Heap.get?_push_size _ rfl, rfl, rfl⟩ q)
  · obtain ⟨t, rfl⟩ := r1
    cases hw : x.cps.all (· < 128)
    · exact wpAny_pyIter_wide hw (pi_one (tk := s1.toks) I1 _ (turn_str _ x t "str_iterator" (Or.inr rfl)) ⟨_, Heap.get?_push_size _ rfl, rfl, rfl⟩ q)
    · exact wpAny_pyIter_ascii hw (pi_one (tk := s1.toks) I1 _ (turn_str _ x t "str_ascii_iterator" (Or.inl rfl)) ⟨_, Heap.get?_push_size _ rfl, rfl, rfl⟩ q)
def mIt (m : ME) : MM (List D) := fun δ μ => (m δ μ).bind fun s δ1 μ1 => match itA s.d with
  | some ds => .ok ds δ1 μ1
  | none => .bad
theorem Sim.frozen {K : PySem.W.Frag} {mg : Str → Option Value} {Z F H : Hp} {ρ : List Addr} {μ : Mem} {δ : Loc} {σ : St} {p : Addr} {vs : List V} (S : Sim K mg Z F ρ μ δ σ H) (h : F p = some (.lst vs)) : H p = some (.lst vs) := by
  rcases S.le _ _ h with q | ⟨ob, kvs, e, q⟩
  · exact q
  · cases e
theorem ji_any {tg : Expr} {m : ME} (he : JE X W e m) : JI X W tg e (mIt m) := by
  refine (pi_any he.locked).imp fun σ H R ⟨Z, F, ρ, μ, δ, S, q⟩ => ⟨Z, F, ρ, μ, δ, S, (FinE.bind q).imp fun s δ1 μ1 H1 F1 ρ1 l lr S1 ⟨_, _, _, p⟩ v r => ?_⟩
  cases ea : itA s.d with
  | none => simp only [ea] at p; exact p.elim
  | some ds =>
    simp only [ea] at p
    have p' := p H1 F1 ρ1 .refl .refl S1
    unfold itA at ea
    generalize s.d = d at ea r
    cases d <;> first | (cases ea; done) | skip
    · cases ea
      cases (Bor.fr (H := H1) r).str
      exact .inr (.inr ⟨_, rfl, p' _ itr_str⟩)
    · cases ea
      cases r with
      | @lst a vs _ h r =>
        exact .inl ⟨a, rfl, ⟨vs, .of (S1.frozen h)⟩, p' _ (itr_list (fun Z' F' ρ' μ δ σ H to S => .of (S.frozen (to _ _ h))) r)⟩
    · cases ea
      cases r with
      | @tup a vs _ h r =>
        exact .inr (.inl ⟨a, rfl, ⟨vs, h.elim (fun h => .inl (S1.rd h)) .inr⟩, p' _ (itr_tup (fun Z' F' ρ' μ δ σ H to S => h.elim (fun h => .inl (S.rd (Rd.up to h))) .inr) r)⟩)
    · rename_i b' ks' x'
      cases b' <;> cases ks' <;> first | (cases ea; done) | skip
      · cases ea
        cases r with
        | @ro a vs _ h r =>
          exact .inl ⟨a, rfl, ⟨vs, h.elim (fun h => .inl (S1.rd h)) .inr⟩, p' _ (itr_list (fun Z' F' ρ' μ δ σ H to S => h.elim (fun h => .inl (S.rd (Rd.up to h))) .inr) r)⟩
      cases ea
      cases r with
      | @rc o a vs _ h hd r =>
        exact .inr (.inl ⟨a, rfl, ⟨vs, .inl (S1.rd (.inr ⟨o, h⟩))⟩, p' _ (itr_tup (fun Z' F' ρ' μ δ σ H to S => .inl (S.rd (Rd.up to (.inr ⟨o, h⟩)))) r)⟩)
def rangeD (lo : Int) (n : Nat) : List D := (List.range n).map fun i => .int (lo + (i : Nat))
theorem itr_range {F : Hp} {ρ : List Addr} {lo : Int} {n : Nat} : ItR X F ρ (Itr lo n) (rangeD lo n) := by
  intro Z' F' ρ' μ δ σ H i to tr S
  refine ⟨fun hl => ?_, fun d hd => ?_⟩
  · show n ≤ i
    simpa [rangeD] using hl
  · unfold rangeD at hd
    rw [List.getElem?_map] at hd
    by_cases hi : i < n
    · rw [List.getElem?_range hi] at hd
      cases hd
      refine ⟨hi, fun x H' y => ?_⟩
      obtain ⟨rfl, rfl⟩ := y
      exact ⟨F', .refl, S, .int⟩
    · rw [List.getElem?_eq_none (by simp; omega)] at hd; cases hd
def mRange1 (o : Opn) : MM (List D) := fun δ μ => (evs [o] δ μ).bind fun rs δ1 μ1 => match OR.ats δ1 μ1 rs with
  | some [.int j] => if -(2 ^ 62) ≤ j ∧ j < 2 ^ 62 then .ok (rangeD 0 j.toNat) δ1 μ1 else .bad
  | _ => .bad
theorem ji_range1 {tg : Expr} {o : Opn} {p : Pos} (hg : Gl X "range") (hm : X.mg "range" = none) (ha : JOs X W [a] [o]) (hs : starEach [a] X.env = [(false, eval a X.env)] := by rfl) : JI X W tg (.Call (.Name "range" p) [a] [] pos) (mRange1 o) := by
  refine (pi_range1 hg hm ha hs).imp fun σ H R ⟨Z, F, ρ, μ, δ, S, q⟩ => ⟨Z, F, ρ, μ, δ, S, (FinE.bind q).imp fun rs δ1 μ1 H1 F1 ρ1 l lr S1 ⟨_, _, _, p⟩ vs hv => ?_⟩
  split at p
  · rename_i j ej
    obtain ⟨v, rfl, hb⟩ := (hv.bor S1 ej).one
    cases hb.int
    by_cases c : -(2 ^ 62) ≤ j ∧ j < 2 ^ 62
    · rw [if_pos c] at p
      exact ⟨j, rfl, c.1, c.2, p H1 F1 ρ1 .refl .refl S1 _ itr_range⟩
    · rw [if_neg c] at p; exact p.elim
  · exact p.elim
def turnD (f : TgF) (m : MS) : D → MS := fun d δ μ => match f d δ with
  | some δ' => m δ' μ
  | none => .bad
def forD (g : D → MS) : List D → MS
  | [] => fun δ μ => .nx δ μ
  | d :: ds => fun δ μ => (g d δ μ).loop (forD g ds)
def mFor (mi : MM (List D)) (f : TgF) (m : MS) : MS := fun δ μ => (mi δ μ).thn fun ds δ1 μ1 => forD (turnD f m) ds δ1 μ1
theorem js_for {tg iter : Expr} {body : List Stmt} {mi : MM (List D)} {f : TgF} {is : List Nat} {m : MS} (hp : PassesOwn (model X.prog X.w) X.A X.env X.xe) (hc : X.calm = true) (hi : JI X W tg iter mi) (hg : JG X tg f is) (hb : JSs X W body m)
    (hs : ∀ x, foldedSetIterable iter X.env x = pure x := by intro _; rfl) : JS X W (.For tg iter body [] pos) (mFor mi f m) := by
  refine (ps_for hp hc hi hg hb hs).imp fun E σ H ⟨Z, F, ρ, μ, δ, S, q⟩ => ⟨Z, F, ρ, μ, δ, S, (FinS.thn q).imp fun ds δ1 μ1 H1 F1 ρ1 l lr S1 ⟨_, p⟩ J hJ => ?_⟩
  let Wd : Nat → Nat → St → Hp → Prop := fun i k σ H => k = ds.length - i ∧ i ≤ ds.length ∧ ∃ F' ρ' μ δ, (∀ p o, F1 p = some o → F' p = some o) ∧ (∀ (k : Nat) p, ρ1[k]? = some p → ρ'[k]? = some p) ∧ Sim X.K X.mg Z F' ρ' μ δ σ H ∧ FinS X W Z F' ρ' E (forD (turnD f m) (ds.drop i) δ μ)
  refine ⟨Wd, ⟨ds.length, by simp, Nat.zero_le _, F1, ρ1, μ1, δ1, fun _ _ h => h, fun _ _ h => h, S1, by rw [List.drop_zero]; exact p⟩, ?_⟩
  rintro i k σ2 H2 ⟨rfl, hle, F2, ρ2, μ2, δ2, to, tr, S2, p2⟩
  obtain ⟨j1, j2⟩ := hJ Z F2 ρ2 μ2 δ2 σ2 H2 i to tr S2
  by_cases hlt : i < ds.length
  · refine .inr ?_
    have hd : ds.drop i = ds[i] :: ds.drop (i + 1) := List.drop_eq_getElem_cons hlt
    obtain ⟨go, yl⟩ := j2 ds[i] (List.getElem?_eq_getElem hlt)
    refine ⟨go, fun σ' H' => Wd (i + 1) (ds.length - (i + 1)) σ' H', fun σ' H' w => ⟨ds.length - (i + 1), by omega, w⟩, fun x H' y => ?_⟩
    obtain ⟨F3, l3, S3, r3⟩ := yl x H' y
    rw [hd] at p2
    unfold forD at p2
    cases ef : f ds[i] δ2 with
    | none =>
      have e : turnD f m ds[i] δ2 μ2 = .bad := by unfold turnD; rw [ef]
      simp only [e] at p2
      exact p2.elim
    | some δ3 =>
      have e : turnD f m ds[i] δ2 μ2 = m δ3 μ2 := by unfold turnD; rw [ef]
      simp only [e] at p2
      refine ⟨Z, F3, ρ2, μ2, δ2, _, S3, r3, δ3, ef, fun σ4 _ _ S4 => ⟨Z, F3, ρ2, μ2, δ3, S4, (p2.mono l3 .refl).loop fun σ' H' F' ρ' μ' δ' l' lr' S' q' => ?_⟩⟩
      exact ⟨rfl, hlt, F', ρ', μ', δ', fun p o h => l'.to p o (l3.to p o (to p o h)), fun k p h => lr'.to k p (tr k p h), S', q'⟩
  · have e : i = ds.length := by omega
    subst e
    rw [List.drop_length] at p2
    exact .inl ⟨j1 (Nat.le_refl _), p2.nx S2⟩
def mYes : MT := fun δ μ => .ok true δ μ
theorem jts_nil : JTs X W [] mYes := ⟨fun pins s σ H Q I ⟨Z, F, ρ, μ, δ, S, q⟩ => pts_nil.run pins s σ H Q I (q H F ρ .refl .refl S)⟩
theorem jts_one {c : Expr} {m : MT} (h : JT X W c m) : JTs X W [c] m := pts_one h
theorem js_setLc {i : Nat} {y : Str} {py : Pos} {elt tg iter : Expr} {ifs : List Expr} {scope : Scope} {own : List (Str × Nat)} {spos : Pos} {mi : MM (List D)} {f : TgF} {is : List Nat} {tests : MT} {m : ME} (hc : X.calm = true) (hN : X.N.Nodup) (hy : X.N[i]? = some y) (hyl : X.env.scope.names.lookup y = some .local)
    (hsw : swapsWith (.ListComp elt [⟨tg, iter, ifs, 0⟩] scope pos) (some (.Name y py)) spos.line X.env = pure true) (hi : JI X W tg iter mi) (ok : BlkOk X.N X.env.scope scope own)
    (hg : ∀ (s : Shared) (H : Hp) (C : Addr) (cl : List (Str × Addr)) (fp : List Addr), JG (X.blk s H scope (compEnvC scope cl C X.env) fp) tg f is) (ht : ∀ (s : Shared) (H : Hp) (C : Addr) (cl : List (Str × Addr)) (fp : List Addr), JTs (X.blk s H scope (compEnvC scope cl C X.env) fp) W0 ifs tests)
    (he : ∀ (s : Shared) (H : Hp) (C : Addr) (cl : List (Str × Addr)) (fp : List Addr), JE (X.blk s H scope (compEnvC scope cl C X.env) fp) W0 elt m) (hsub : ∀ j ∈ is, j ∈ own.map (·.2)) (hs : ∀ x, foldedSetIterable iter X.env x = pure x := by intro _; rfl) :
    JS X W (.Assign [.Name y py] (.ListComp elt [⟨tg, iter, ifs, 0⟩] scope pos) spos) (mSet i (mLc mi f tests m (own.map (·.2)))) :=
  (ps_setLc (g := rdG X f is) (tt := rdT X W0 tests) (te := rdE X W0 m) hc hN hy hyl hsw hi ok hg ht he hs).imp fun E σ H h => by
    obtain ⟨Z, F, ρ, μ, δ, S, q⟩ := h
    refine lc_read (Y := fun _ => True) (B := X) rfl rfl hsub σ H _ ⟨Z, F, ρ, μ, δ, S, (FinS.thn q).imp fun a δ1 μ1 H1 F1 ρ1 l lr S1 ⟨_, p⟩ v vr => p.nx (S1.put vr)⟩
def mPar (i j : Nat) (ma mb : ME) : MS := fun δ μ => (ma δ μ).thn fun s δ1 μ1 => (mb δ1 μ1).thn fun t δ2 μ2 => .nx ((δ2.set i (some s)).set j (some t)) μ2
theorem par_read {i j : Nat} {ma mb : ME} : ∀ E σ H, rdS X W (mPar i j ma mb) E σ H → tPar i j (tCons (rdE X W ma) (tCons (rdE X W mb) tNil)) E σ H := by
  intro E σ H ⟨Z, F, ρ, μ, δ, S, q⟩
  refine ⟨Z, F, ρ, μ, δ, S, (FinS.thn q).imp fun s δ1 μ1 H1 F1 ρ1 l lr S1 ⟨_, p⟩ v vr => ?_⟩
  cases s with
  | fr d =>
    refine ⟨Z, F1, ρ1, μ1, δ1, S1, (FinS.thn p).imp fun t δ2 μ2 H2 F2 ρ2 l2 lr2 S2 ⟨_, p2⟩ w wr => ⟨v, w, rfl, p2.nx ?_⟩⟩
    have r : Rep X.K X.mg F2 ρ2 v d := Rep.up l2.to lr2.to vr.r
    refine (S2.put (i := i) (v := v) (s := .fr d) ⟨r, fun o p z => by cases z⟩).put ⟨wr.r, fun o p z1 z2 k o' e1 e2 => ?_⟩
    by_cases z : k = i
    · subst z
      by_cases hl : k < δ2.length
      · rw [List.getElem?_set_self hl] at e1; cases e1
      · rw [List.getElem?_eq_none (by simpa using hl)] at e1; cases e1
    · rw [List.getElem?_set_ne (Ne.symm z)] at e1 e2
      exact wr.no o p z1 z2 k o' e1 e2
  | own c =>
    obtain ⟨A, ev, fA, rA⟩ := vr.r
    obtain ⟨o, hA⟩ := rA.some
    have SG := S1.guard hA fA (vr.no c A rfl ev)
    refine ⟨upd Z A o, F1, ρ1, μ1, δ1, SG, ?_⟩
    have p' := FinS.thn (σ := σ) p
    generalize mb δ1 μ1 = r2 at p'
    cases r2 with
    | bad => exact p'
    | exc x δ2 μ2 => exact fun c' d' H2 F2 ρ2 l2 lr2 S2 er => p' c' d' H2 F2 ρ2 l2.unguard lr2.unguard (S2.unguard fA.z) er
    | ok t δ2 μ2 =>
      intro H2 F2 ρ2 l2 lr2 S2 w wr
      obtain ⟨_, p2⟩ := p' H2 F2 ρ2 l2.unguard lr2.unguard (S2.unguard fA.z)
      refine ⟨v, w, rfl, p2.nx ?_⟩
      have fA2 := fA.on l2 lr2
      have hA2 : H2 A = some o := S2.guarded
      have vr2 : VR X.K X.mg Z F2 ρ2 δ2 σ H2 v (.own c) := ⟨⟨A, ev, fA2, rA.up l2.to lr2.to (by rw [hA2, hA])⟩, fun o' p' z1 z2 => by
        rw [ev] at z2; cases z2
        exact S2.guardNo⟩
      have S3 := (S2.unguard fA.z).put (i := i) vr2
      cases t with
      | fr d => exact S3.put ⟨wr.r, fun o p z => by cases z⟩
      | own c2 =>
        obtain ⟨B, ew, fB, rB⟩ := wr.r
        have nBA : B ≠ A := (guard_z fB.z).1
        refine S3.put ⟨⟨B, ew, ⟨fB.f, (guard_z fB.z).2, fB.r⟩, rB⟩, fun o p z1 z2 k o' e1 e2 => ?_⟩
        rw [ew] at z2; cases z2
        by_cases z : k = i
        · subst z
          by_cases hl : k < σ.length
          · rw [List.getElem?_set_self hl, ev] at e2
            cases e2
            exact nBA rfl
          · rw [List.getElem?_eq_none (by simpa using hl)] at e2; cases e2
        · rw [List.getElem?_set_ne (Ne.symm z)] at e1 e2
          exact wr.no c2 B rfl ew k o' e1 e2
theorem js_par {i j : Nat} {x y : Str} {ma mb : ME} {px py pt : Pos} {kt k2 pt2} (hc : X.calm = true) (hN : X.N.Nodup) (hi : X.N[i]? = some x) (hj : X.N[j]? = some y) (hij : i ≠ j)
    (hx : X.env.scope.names.lookup x = some .local) (hy : X.env.scope.names.lookup y = some .local) (ha : JE X W a ma) (hb : JE X W b mb)
    (hw : swappedStores [.Tuple [.Name x px, .Name y py] kt pt] (.Tuple [a, b] k2 pt2) X.env = pure (some [x, y]))
    (hs : swapsWithSole [.Tuple [.Name x px, .Name y py] kt pt] (.Tuple [a, b] k2 pt2) pos.line X.env = pure false := by rfl)
    (h1 : starEach [a, b] X.env = (false, eval a X.env) :: starEach [b] X.env := by rfl) (h2 : starEach [b] X.env = (false, eval b X.env) :: starEach [] X.env := by rfl) :
    JS X W (.Assign [.Tuple [.Name x px, .Name y py] kt pt] (.Tuple [a, b] k2 pt2) pos) (mPar i j ma mb) := by
  exact (ps_par hc hN hi hj hij hx hy (pa_cons ha (pa_cons hb pa_nil h2) h1) hw hs).imp par_read
theorem FinS.laid {r : OutS} {E : Ends} {Z F : Hp} {ρ : List Addr} (h : FinS X W Z F ρ E r) : FinS X W Z F ρ { E with nx := fun σ H => ∀ p o, H p = none → E.nx σ (upd H p o) } r := by
  cases r with
  | nx δ μ => exact fun σ' H' F' ρ' l lr S p o hp => h σ' _ F' ρ' l lr (S.laid hp)
  | bk δ μ => exact h
  | ct δ μ => exact h
  | rt s μ => exact h
  | exc x δ μ => exact h
  | bad => exact h
end
end FL
namespace FL
open PySem L2
section
variable {X : Cx} {W : WX} {e a b o : Expr} {es : List Expr} {pos p apos : Pos}
def cutD {α : Type} (xs : List α) (lo hi : Option Int) : List α := (xs.drop (HT.sIx xs.length 0 lo)).take (HT.sIx xs.length xs.length hi - HT.sIx xs.length 0 lo)
def SlJ (X : Cx) (r : V → Option Int → Option Int → Hp → VK → Prop) (g : D → Option Int → Option Int → Option Slot) : Prop := ∀ Z F ρ μ δ σ H x dx lo hi s Q, Sim X.K X.mg Z F ρ μ δ σ H → Bor X.K X.mg F ρ H x dx → g dx lo hi = some s →
  (∀ v H' F', Le Z F F' → Sim X.K X.mg Z F' ρ μ δ σ H' → VR X.K X.mg Z F' ρ δ σ H' v s → Q v H') → r x lo hi H Q
def rdP (X : Cx) (W : WX) (m : MM (Option Int)) : TO := fun σ H Q => ∃ Z F ρ μ δ, Sim X.K X.mg Z F ρ μ δ σ H ∧ FinE X W Z F ρ σ (fun i _ _ _ _ H' => Q i H') (m δ μ)
theorem _root_.L2.PO.imp {X : Cx} {e : Option Expr} {t t' : TO} (h : PO X e t) (hi : ∀ σ H Q, t' σ H Q → t σ H Q) : PO X e t' := ⟨fun pins s σ H Q I q => h.run pins s σ H Q I (hi σ H Q q)⟩
abbrev JP (X : Cx) (W : WX) (e : Option Expr) (m : MM (Option Int)) : Prop := PO X e (rdP X W m)
def mNoP : MM (Option Int) := fun δ μ => .ok none δ μ
def mP (m : ME) : MM (Option Int) := fun δ μ => (m δ μ).bind fun s δ1 μ1 => match s with
  | .fr (.int i) => .ok (some i) δ1 μ1
  | _ => .bad
theorem jp_none : JP X W none mNoP := po_none.imp fun σ H Q ⟨Z, F, ρ, μ, δ, S, q⟩ => q H F ρ .refl .refl S
theorem jp_some {m : ME} (h : JE X W e m) : JP X W (some e) (mP m) := by
  refine (po_some h).imp fun σ H Q ⟨Z, F, ρ, μ, δ, S, q⟩ => ⟨Z, F, ρ, μ, δ, S, (FinE.bind q).imp fun s δ1 μ1 H1 F1 ρ1 l lr S1 ⟨_, _, _, p⟩ v vr => ?_⟩
  cases s with
  | own o => exact p.elim
  | fr d =>
    cases d with
    | int i =>
      cases vr.r
      exact ⟨i, rfl, p H1 F1 ρ1 .refl .refl S1⟩
    | _ => exact p.elim
def mSl (g : D → Option Int → Option Int → Option Slot) (o : Opn) (lo hi : MM (Option Int)) : ME := fun δ μ => (o.ev δ μ).bind fun r δ1 μ1 => (lo δ1 μ1).bind fun l δ2 μ2 => (hi δ2 μ2).bind fun h δ3 μ3 =>
  match r.at δ3 μ3 with
  | some d => lift (g d l h) δ3 μ3
  | none => .bad
theorem je_slice {lo hi : Option Expr} {p2 : Pos} {r : V → Option Int → Option Int → Hp → VK → Prop} {g : D → Option Int → Option Int → Option Slot} {oo : Opn} {ml mh : MM (Option Int)} (hs : SlR X r) (hr : SlJ X r g) (ho : JO X W e oo) (hl : JP X W lo ml) (hh : JP X W hi mh) :
    JE X W (.Subscript e (.Slice lo hi none p2) pos) (mSl g oo ml mh) := by
  refine (pe_slice hs ho hl hh).imp fun σ H Q ⟨Z, F, ρ, μ, δ, S, q⟩ => ⟨Z, F, ρ, μ, δ, S, (FinE.bind q).imp fun ra δ1 μ1 H1 F1 ρ1 l1 lr1 S1 ⟨_, _, _, p⟩ x hx => ?_⟩
  refine ⟨Z, F1, ρ1, μ1, δ1, S1, p.bind.imp fun l δ2 μ2 H2 F2 ρ2 l2 lr2 S2 ⟨_, _, _, p2⟩ => ?_⟩
  refine ⟨Z, F2, ρ2, μ2, δ2, S2, p2.bind.imp fun h δ3 μ3 H3 F3 ρ3 l3 lr3 S3 ⟨_, _, _, p3⟩ => ?_⟩
  cases ea : ra.at δ3 μ3 with
  | none => simp only [ea] at p3; exact p3.elim
  | some d =>
    simp only [ea] at p3
    unfold lift at p3
    cases eg : g d l h with
    | none => simp only [eg] at p3; exact p3.elim
    | some s =>
      simp only [eg] at p3
      exact hr Z F3 ρ3 μ3 δ3 σ H3 x d l h s Q S3 (((hx.up l2 lr2).up l3 lr3).bor S3 ea) eg fun v H' F' l' S' vr => p3 H' F' ρ3 l' .refl S' v vr
def gSl : D → Option Int → Option Int → Option Slot
  | .str x, lo, hi => if x.length ≤ 16777216 then some (.fr (.str (cutD x lo hi))) else none
  | .lst x, lo, hi => some (.own (.lst (cutD x lo hi)))
  | .fx .ro [] x, lo, hi => some (.own (.lst (cutD x lo hi)))
  | .tup x, lo, hi => some (.fr (.tup (cutD x lo hi)))
  | _, _, _ => none
abbrev rSlAny (K : PySem.W.Frag) : V → Option Int → Option Int → Hp → VK → Prop := fun x lo hi H Q => rSlS x lo hi H Q ∨ (rSlL K x lo hi H Q ∨ rSlA K x lo hi H Q)
theorem o_slice : SlR X (rSlAny X.K) := sl_str.or (sl_list.or sl_tupA)
theorem cut_whole {α : Type} {xs : List α} {lo hi : Option Int} (h1 : HT.sIx xs.length 0 lo = 0) (h2 : HT.sIx xs.length xs.length hi = xs.length) : cutD xs lo hi = xs := by
  unfold cutD
  rw [h1, h2]; simp
theorem j_slice : SlJ X (rSlAny X.K) gSl := by
  intro Z F ρ μ δ σ H x dx lo hi s Q S bx e q
  unfold gSl at e
  cases dx <;> first | (cases e; done) | skip
  · rename_i t
    by_cases hz : t.length ≤ 16777216
    · simp only [hz, if_true] at e
      cases e
      cases bx.str
      refine .inl ⟨_, rfl, by rw [toS_len, line_eq]; exact hz, ?_⟩
      have ec : cutS (toS t) lo hi = toS (cutD t lo hi) := by
        unfold cutS cutD
        rw [toS_len]
        rfl
      rw [ec]
      exact q _ H F .refl S ⟨.str, fun o p z => by cases z⟩
    · simp only [hz] at e; cases e
  · rename_i ds
    cases e
    obtain ⟨p, vs, rfl, h, r⟩ := bx.lst S
    refine .inr (.inl ⟨p, vs, rfl, .of h, fun a ha => ?_⟩)
    have r2 : RepL X.K X.mg F ρ (cutV vs lo hi) (cutD ds lo hi) := by unfold cutV cutD; rw [r.len]; exact (r.drop _).take _
    obtain ⟨S', vr⟩ := vr_newL S ha r2
    exact q _ _ F .refl S' vr
  · rename_i ds
    cases e
    have rp := bx.rep fun o e => by cases o <;> cases e
    obtain ⟨p, vs, rfl, h, r⟩ := bx.tup S
    refine .inr (.inr ⟨p, vs, rfl, h, fun hw => ?_, fun _ a ha => ?_⟩)
    · rw [r.len] at hw
      rw [cut_whole hw.1 hw.2] at q
      exact q _ H F .refl S ⟨rp, fun o p z => by cases z⟩
    · have r2 : RepL X.K X.mg F ρ (cutV vs lo hi) (cutD ds lo hi) := by unfold cutV cutD; rw [r.len]; exact (r.drop _).take _
      obtain ⟨F', l', S', vr⟩ := vr_newT S ha r2
      exact q _ _ F' l' S' vr
  · rename_i b' ks' ds
    cases b' <;> cases ks' <;> first | (cases e; done) | skip
    cases e
    obtain ⟨p, vs, rfl, h, r⟩ := bx.ro S
    refine .inr (.inl ⟨p, vs, rfl, h, fun a ha => ?_⟩)
    have r2 : RepL X.K X.mg F ρ (cutV vs lo hi) (cutD ds lo hi) := by unfold cutV cutD; rw [r.len]; exact (r.drop _).take _
    obtain ⟨S', vr⟩ := vr_newL S ha r2
    exact q _ _ F .refl S' vr
def recv (δ : Loc) (μ : Mem) : OR → Option (Own × (Own → Loc × Mem))
  | .d (.obj k) => match μ[k]? with
    | some c => some (c, fun c' => (δ, μ.set k c'))
    | none => none
  | .d _ => none
  | .i j => match δ[j]? with
    | some (some (.own c)) => some (c, fun c' => (δ.set j (some (.own c')), μ))
    | some (some (.fr (.obj k))) => match μ[k]? with
      | some c => some (c, fun c' => (δ, μ.set k c'))
      | none => none
    | _ => none
theorem recv_ok {K : PySem.W.Frag} {mg : Str → Option Value} {Z F H : Hp} {ρ : List Addr} {μ : Mem} {δ : Loc} {σ : St} {v : V} {r : OR} {c : Own} {w : Own → Loc × Mem} (S : Sim K mg Z F ρ μ δ σ H) (h : OrR K mg F ρ σ v r) (e : recv δ μ r = some (c, w)) :
    ∃ p, v = .ref p ∧ OwnR K mg F ρ H p c ∧ ∀ o c', OwnR K mg F ρ (upd H p o) p c' → Sim K mg Z F ρ (w c').2 (w c').1 σ (upd H p o) := by
  have mem : ∀ {k : Nat}, Rep K mg F ρ v (.obj k) → (match μ[k]? with | some c => some (c, fun c' => (δ, μ.set k c')) | none => (none : Option (Own × (Own → Loc × Mem)))) = some (c, w) →
      ∃ p, v = .ref p ∧ OwnR K mg F ρ H p c ∧ ∀ o c', OwnR K mg F ρ (upd H p o) p c' → Sim K mg Z F ρ (w c').2 (w c').1 σ (upd H p o) := by
    intro k hr he
    cases hr with
    | @obj _ p hp =>
      cases em : μ[k]? with
      | none => simp only [em] at he; cases he
      | some c0 =>
        simp only [em] at he
        cases he
        obtain ⟨a, ea, _, _, r⟩ := S.mem k _ em
        rw [hp] at ea; cases ea
        exact ⟨p, rfl, r, fun o c' hc => S.writeM em hp hc⟩
  cases r with
  | d d =>
    cases d <;> first | (cases e; done) | skip
    exact mem h e
  | i j =>
    have h' : σ[j]? = some (some v) := h
    unfold recv at e
    cases ej : δ[j]? with
    | none => simp only [ej] at e; cases e
    | some so =>
      cases so with
      | none => simp only [ej] at e; cases e
      | some s =>
        obtain ⟨u, eu, rr⟩ := S.slot j s ej
        rw [h'] at eu; cases eu
        cases s with
        | own c0 =>
          simp only [ej] at e
          cases e
          obtain ⟨p, rfl, _, ro⟩ := rr
          exact ⟨p, rfl, ro, fun o c' hc => S.write ej h' hc⟩
        | fr d =>
          cases d <;> first | (simp only [ej] at e; cases e; done) | skip
          simp only [ej] at e
          exact mem rr e
theorem RepL.dropLast {F : Hp} {ρ : List Addr} {vs : List V} {ds : List D} (h : RepL X.K X.mg F ρ vs ds) : RepL X.K X.mg F ρ vs.dropLast ds.dropLast := by
  rw [List.dropLast_eq_take, List.dropLast_eq_take, h.len]
  exact h.take _
def SetJ (X : Cx) (t : TSet) (g : Own → D → D → Option Own) : Prop := ∀ Z F ρ μ δ σ H p c i v di dv c' Q, Sim X.K X.mg Z F ρ μ δ σ H → OwnR X.K X.mg F ρ H p c → Bor X.K X.mg F ρ H i di → Rep X.K X.mg F ρ v dv → g c di dv = some c' →
  (∀ o, OwnR X.K X.mg F ρ (upd H p o) p c' → Q (upd H p o)) → t (.ref p) i v H Q
def mSetI (g : Own → D → D → Option Own) (oo oi : Opn) (m : ME) : MS := fun δ μ => (m δ μ).thn fun s δ1 μ1 => (oo.ev δ1 μ1).thn fun r δ2 μ2 => (oi.ev δ2 μ2).thn fun ri δ3 μ3 => match recv δ3 μ3 r, ri.at δ3 μ3 with
  | some (c, w), some di => match g c di s.d with
    | some c' => .nx (w c').1 (w c').2
    | none => .bad
  | _, _ => .bad
theorem js_setI {i : Expr} {spos : Pos} {t : TSet} {g : Own → D → D → Option Own} {oo oi : Opn} {m : ME} (hp : PSet X t) (hr : SetJ X t g) (he : JE X W e m) (ho : JO X W o oo) (hi : JO X W i oi)
    (ha : ∀ v, assign (.Subscript o i spos) X.env v = (do
      let ov ← holding [v] (eval o X.env)
      let iv ← holding [v, ov] (eval i X.env)
      standAt spos
      holding [v, ov, iv] (setItem ov iv v)
      release [v, ov, iv] []) := by intro _; rfl)
    (hs : swapsWithSole [.Subscript o i spos] e pos.line X.env = pure false := by rfl) (hw : swappedStores [.Subscript o i spos] e X.env = pure none := by rfl)
    (h1 : (assignEach [.Subscript o i spos] X.env).map (·.2) = [assign (.Subscript o i spos) X.env] := by rfl) : JS X W (.Assign [.Subscript o i spos] e pos) (mSetI g oo oi m) := by
  refine (ps_asg he.locked (L2.pg_sub ho hi hp ha) hs hw h1).imp fun E σ H ⟨Z, F, ρ, μ, δ, S, q⟩ => ⟨Z, F, ρ, μ, δ, S, (FinS.thn q).imp fun s δ1 μ1 H1 F1 ρ1 l1 lr1 S1 ⟨_, p1⟩ v rv => ?_⟩
  refine ⟨Z, F1, ρ1, μ1, δ1, S1, (FinS.thn p1).imp fun r δ2 μ2 H2 F2 ρ2 l2 lr2 S2 ⟨_, p2⟩ x hx => ?_⟩
  refine ⟨Z, F2, ρ2, μ2, δ2, S2, (FinS.thn p2).imp fun ri δ3 μ3 H3 F3 ρ3 l3 lr3 S3 ⟨_, p3⟩ y hy => ?_⟩
  cases e0 : recv δ3 μ3 r with
  | none => simp only [e0] at p3; exact p3.elim
  | some cw =>
    obtain ⟨c, w⟩ := cw
    cases e1 : ri.at δ3 μ3 with
    | none => simp only [e0, e1] at p3; exact p3.elim
    | some di =>
      simp only [e0, e1] at p3
      cases eg : g c di s.d with
      | none => simp only [eg] at p3; exact p3.elim
      | some c' =>
        simp only [eg] at p3
        obtain ⟨pa, rfl, ow, hw'⟩ := recv_ok S3 (hx.up l3 lr3) e0
        exact hr Z F3 ρ3 μ3 δ3 σ H3 pa c y v di s.d c' _ S3 ow (hy.bor S3 e1) ((Rep.up l2.to lr2.to rv).up l3.to lr3.to) eg fun o' ho' => p3.nx (hw' o' c' ho')
def gSetL : Own → D → D → Option Own
  | .lst xs, .int k, d => match ixN xs.length k with
    | some j => some (.lst (xs.set j d))
    | none => none
  | _, _, _ => none
theorem j_setL : SetJ X rSetL gSetL := by
  intro Z F ρ μ δ σ H p c i v di dv c' Q S ow bi rv e q
  unfold gSetL at e
  split at e
  · rename_i xs k
    cases ej : ixN xs.length k with
    | none => simp only [ej] at e; cases e
    | some j =>
      simp only [ej] at e
      cases e
      cases bi.int
      obtain ⟨vs, hH, r⟩ := ow
      exact ⟨p, vs, k, j, rfl, rfl, hH, by rw [r.len]; exact ej, q _ ⟨_, upd_same, r.set rv j⟩⟩
  · cases e
end
end FL
namespace FL
open PySem PySem.Spec PyProof.Rows L2
theorem RmG.mono {j k : Nat} {A : Around} (r : RmG k A) (h : j ≤ k) : RmG j A := ⟨r.r.mono h, r.g⟩
theorem RmG.deeper {k : Nat} {A : Around} (r : RmG (k + 1) A) (env : Env) : RmG k (A.deeper env) := ⟨r.r.deeper env, r.g⟩
theorem FnG.mono {P : Program} {w : World} {K : PySem.W.Frag} {mg : Str → Option Value} {base : Heap} {Y : CXT} {j k : Nat} {f : Addr} {fd : FuncData} {ps : List Str} {sp : Sp} (h : FnG P w K mg base Y j f fd ps sp) (le : j ≤ k) : FnG P w K mg base Y k f fd ps sp :=
  ⟨h.len, fun A outer s H args us vs Q E hr => h.run A outer s H args us vs Q E (hr.mono le)⟩
theorem fnG_of {Y : CXT} {P : Program} {w : World} {K : PySem.W.Frag} {mg : Str → Option Value} {base : Heap} {k : Nat} {f : Addr} {x qual : Str} {st : Stmt} {fd : FuncData} {N ps : List Str} {sp : Sp} {dV : Value} (F : Fd K x qual st f fd dV) (S : FnScope N ps (defScope st))
    (len : ∀ vs H Q E, sp vs H Q E → vs.length = ps.length)
    (hbody : ∀ (cdv : Value) (A : Around) (outer : List Env) (s : Shared) (H : Hp) (vs : List V) (Q : VK) (E : XK), RmG k (A.deeper (envOfC qual (defScope st) s.heap.objs.size f cdv)) → sp vs H Q E →
      ∃ t, PSs (cxOf Y P w K mg base N qual (defScope st) f cdv A outer s H E) (defBody st) t ∧ t { nx := fun _ H' => Q .non H', rt := Q } (L2.start N vs) H) : FnG P w K mg base Y (k + 1) f fd ps sp := by
  obtain ⟨oc, od, kV, doc, pm, an, cdv, ct, osl, rfl, lk, hcd⟩ := F.ex
  refine ⟨len, fun A outer s H args us vs Q E hr e0 hb r hsp => ?_⟩
  have hlen := len _ _ _ _ hsp
  have inK : K.In s.heap := e0.mod.kin.keeps fun b o e => (e0.bs b o e).1
  have lim : s.heap.NoLimit := e0.mod.nolimit.keeps fun b o e => (e0.bs b o e).1
  have kinds : ∀ y ∈ ps.zip us, (defScope st).names.lookup y.1 = some .local ∨ ((defScope st).names.lookup y.1 = some .cell ∧ ((cellsFrom (s.heap.objs.size + 1) (defScope st).names []).lookup y.1).isSome = true) := fun ⟨n, u⟩ hy => by
    rcases S.par n (List.of_mem_zip hy).1 with q | q
    · exact Or.inl q
    · exact Or.inr ⟨q, PySem.W.cellsFrom_some _ _ _ (Or.inl q)⟩
  refine codeAny_call_function hr.r.depth (inK _ _ lk) rfl S.co S.gen rfl (PySem.W.codeRec_of inK hcd) (hb _ _ _ _ ?_)
  refine wpAny_newFunctionEnv_cells S.kind kinds fun env eenv s1 xx => ?_
  subst eenv
  refine ⟨lim.keeps xx.toInCall.keep, codeAny_func ?_⟩
  obtain ⟨t, ht, hq⟩ := hbody cdv A outer s H vs Q E (hr.deeper _) hsp
  have I : Inv (cxOf Y P w K mg base N qual (defScope st) f cdv A outer s H E) [] (L2.start N vs) H s1 := inv_start S hr.r.hd e0 hlen r xx
  refine wpAny_mono (ht.run [] s1 (L2.start N vs) H _ I hq) (fun fl s' hs => ?_) fun e s' hs => hs
  cases fl with
  | ret u =>
    obtain ⟨v, σ', H', J, rv, q⟩ := hs
    exact ⟨v, H', J.os, J.bare, J.base, J.hok, rv, q⟩
  | next =>
    obtain ⟨σ', H', J, q⟩ := hs
    exact ⟨.non, H', J.os, J.bare, J.base, J.hok, rfl, q⟩
  | brk =>
    obtain ⟨_, _, _, z⟩ := hs
    exact z.elim
  | cont =>
    obtain ⟨_, _, _, z⟩ := hs
    exact z.elim
def startD (n : Nat) (ds : List D) : Loc := ds.map (fun d => some (.fr d)) ++ List.replicate (n - ds.length) none
def OutS.fin (r : OutS) : OutF := match r with
  | .nx _ μ => .ok (.fr .non) μ
  | .rt s μ => .ok s μ
  | .exc x _ μ => .exc x μ
  | _ => .bad
theorem sealed {α : Type} (a : α) : ∃ r : α, r = a := ⟨a, rfl⟩
noncomputable def mFn (n : Nat) (m : MS) : MF := Classical.choose (sealed fun ds μ => (m (startD n ds) μ).fin)
theorem mFn_eq {n : Nat} {m : MS} {ds : List D} {μ : Mem} : mFn n m ds μ = (m (startD n ds) μ).fin := congrFun (congrFun (Classical.choose_spec (sealed fun ds μ => (m (startD n ds) μ).fin)) ds) μ
theorem start_get {N : List Str} {vs : List V} {i : Nat} (hi : i < vs.length) : (L2.start N vs)[i]? = some (vs[i]?) := by
  unfold L2.start
  rw [List.getElem?_append_left (by simpa using hi), List.getElem?_map]
  rw [List.getElem?_eq_getElem hi]; rfl
theorem Sim.begin {K : PySem.W.Frag} {mg : Str → Option Value} {Z F H : Hp} {ρ : List Addr} {μ : Mem} {N : List Str} {vs : List V} {ds : List D} (S : Sim K mg Z F ρ μ [] [] H) (r : RepL K mg F ρ vs ds) : Sim K mg Z F ρ μ (startD N.length ds) (L2.start N vs) H := by
  have hl := r.len
  have none_own : ∀ (i : Nat) c, (startD N.length ds)[i]? ≠ some (some (.own c)) := by
    intro i c h
    unfold startD at h
    by_cases hi : i < ds.length
    · rw [List.getElem?_append_left (by simpa using hi), List.getElem?_map, List.getElem?_eq_getElem hi] at h
      cases h
    · rw [List.getElem?_append_right (by simpa using hi), List.getElem?_replicate] at h
      split at h <;> cases h
  refine ⟨S.le, S.zk, ?_, fun i s e => ?_, fun i j p s s' e => absurd e (none_own i s), S.mem, S.mlen, S.nod⟩
  · unfold L2.start startD
    rw [List.length_append, List.length_append, List.length_map, List.length_map, List.length_replicate, List.length_replicate, hl]
  · by_cases hi : i < ds.length
    · have hv : i < vs.length := by rw [hl]; exact hi
      unfold startD at e
      rw [List.getElem?_append_left (by simpa using hi), List.getElem?_map, List.getElem?_eq_getElem hi] at e
      cases e
      obtain ⟨v, ev, rv⟩ := r.get (List.getElem?_eq_getElem hi)
      exact ⟨v, by rw [start_get hv, ev], rv⟩
    · unfold startD at e
      rw [List.getElem?_append_right (by simpa using hi), List.getElem?_replicate] at e
      split at e <;> cases e
theorem fnG_m {P : Program} {w : World} {K : PySem.W.Frag} {mg : Str → Option Value} {base : Heap} {k n : Nat} {f : Addr} {x qual : Str} {st : Stmt} {fd : FuncData} {N ps : List Str} {m : MS} {dV : Value} (F : Fd K x qual st f fd dV) (S : FnScope N ps (defScope st)) (hn : ps.length = n)
    (hbody : ∀ (X : Cx) (W : WX), X.prog = P → X.w = w → X.K = K → X.mg = mg → X.base = base → Cd X W k N (defScope st) → JSs X W (defBody st) m) : FnG P w K mg base (L2.CX P w) (k + 1) f fd ps (spM K mg (mFn N.length m) n) := by
  subst hn
  refine fnG_of F S (fun vs H Q E h => h.1) (fun cdv A outer s H vs Q E hr h => ?_)
  obtain ⟨hl, Z, F0, ρ, μ, ds, S0, r, q⟩ := h
  refine ⟨_, hbody (cxOf (L2.CX P w) P w K mg base N qual (defScope st) f cdv A outer s H E) (fun c d _ H => E c d H) rfl rfl rfl rfl rfl ⟨⟨rfl, hr, takes_of rfl rfl rfl rfl, rfl, rfl, S.nd⟩, passes_of rfl, fun _ _ => rfl⟩, ?_⟩
  refine ⟨Z, F0, ρ, μ, _, S0.begin r, ?_⟩
  rw [mFn_eq] at q
  generalize m (startD N.length ds) μ = o at q
  cases o with
  | nx δ μ' => exact fun σ' H' F' ρ' l lr S' => q .non H' F' ρ' l lr S'.drop .non
  | rt s μ' => exact fun v H' F' ρ' l lr S' rv => q v H' F' ρ' l lr S' rv
  | bk δ μ' => exact q.elim
  | ct δ μ' => exact q.elim
  | exc x δ μ' => exact fun c d σ' H' F' ρ' l lr S' er => q c d H' F' ρ' l lr S'.drop er
  | bad => exact q
section
variable {X : Cx} {W : WX} {k j : Nat} {N : List Str} {sc : Scope} {e : Expr} {es : List Expr} {pos p : Pos} {f : Addr} {fd : FuncData} {ps : List Str} {x : Str}
def mCall (m : MF) (ms : List ME) (dds : List D) : ME := fun δ μ => (evA ms δ μ).bind fun ds δ1 μ1 => match m (ds ++ dds) μ1 with
  | .ok s μ2 => .ok s δ1 μ2
  | .exc x μ2 => .exc x δ1 μ2
  | .bad => .bad
theorem evA_len : ∀ {ms : List ME} {δ : Loc} {μ : Mem} {ds : List D} {δ' : Loc} {μ' : Mem}, evA ms δ μ = .ok ds δ' μ' → ms.length = ds.length := by
  intro ms
  induction ms with
  | nil => intro δ μ ds δ' μ' e; cases e; rfl
  | cons m ms ih =>
    intro δ μ ds δ' μ' e
    have e : ((m δ μ).bind fun s δ1 μ1 => (evA ms δ1 μ1).bind fun ds δ2 μ2 => Out.ok (s.d :: ds) δ2 μ2) = .ok ds δ' μ' := e
    cases em : m δ μ with
    | ok s δ1 μ1 =>
      rw [em] at e
      have e : ((evA ms δ1 μ1).bind fun ds δ2 μ2 => Out.ok (s.d :: ds) δ2 μ2) = .ok ds δ' μ' := e
      cases er : evA ms δ1 μ1 with
      | ok ds2 δ2 μ2 =>
        rw [er] at e
        cases e
        rw [List.length_cons, List.length_cons, ih er]
      | exc x δ2 μ2 => rw [er] at e; cases e
      | bad => rw [er] at e; cases e
    | exc x δ1 μ1 => rw [em] at e; cases e
    | bad => rw [em] at e; cases e
theorem call_end {m : MF} {n : Nat} {dds : List D} {ms : List ME} {dvs : List V} (hdd : ∀ F ρ, RepL X.K X.mg F ρ dvs dds) (hn : ∀ ds, ms.length = ds.length → (ds ++ dds).length = n) : ∀ σ H Q, rdE X W (mCall m ms dds) σ H Q → tCallSD (spM X.K X.mg m n) dvs (WE W) (rdA X W ms) σ H Q := by
  intro σ H Q ⟨Z, F, ρ, μ, δ, S, q⟩
  refine ⟨Z, F, ρ, μ, δ, S, ?_⟩
  cases ea : evA ms δ μ with
  | bad => unfold mCall at q; rw [ea] at q; exact q
  | exc x δ1 μ1 => unfold mCall at q; rw [ea] at q; exact q
  | ok ds δ1 μ1 =>
    unfold mCall at q
    rw [ea, Out.bind_ok] at q
    intro H1 F1 ρ1 l1 lr1 S1 vs hv
    have q1 := q.mono l1 lr1
    have hvd := hv.app (hdd F1 ρ1)
    refine ⟨by rw [hvd.len]; exact hn ds (evA_len ea), zone Z H1 δ1 σ, F1, ρ1, μ1, ds ++ dds, S1.enter, hvd, ?_⟩
    generalize m (ds ++ dds) μ1 = o at q1
    cases o with
    | ok s μ2 => exact fun v H' F' ρ' l lr S' rv => q1 H' F' ρ' (S1.leLeave l) (S1.leRLeave lr) (S1.leave S' l lr) v (S1.came rv)
    | exc x μ2 => exact fun c d H' F' ρ' l lr S' er => q1 c d H' F' ρ' (S1.leLeave l) (S1.leRLeave lr) (S1.leave S' l lr) er
    | bad => exact q1
theorem pe_callG {Y : CXT} {sp : Sp} {dvs : List V} {ds : List Value} {E : L2.St → XK} {t : TA} (F : FnG X.prog X.w X.K X.mg X.base Y j f fd ps sp) (hr : RmG j X.A) (hg : Gl X x) (hm : X.mg x = some (.ref f)) (hk : PySem.W.keepIn X.K (.ref f) = true) (hb : Binds X.K fd ps ds) (hd : Vals dvs ds) (hx : ∀ σ, PassesAt Y X σ (E σ))
    (ha : PA X (e :: es) t) (hdb : (x == ("__debug__" : Str)) = false) (he : starEach (e :: es) X.env = (false, eval e X.env) :: starEach es X.env) (hpl : (backTo pos (starEach es X.env)).any (·.1) = false) :
    PE X (.Call (.Name x p) (e :: es) [] pos) (tCallSD sp dvs E t) :=
  ⟨fun pins s σ H Q I h => wpAny_Call_Name_kw (ld_glob I hg hm (PySem.W.callWith_K (h₀ := X.base) I.ok.mod.kin hk (thn (ha.run pos pins s σ H _ I h) fun us s1 ⟨vs, H1, I1, r, q⟩ => ⟨I1.kIn, run_callG F hr hb hd (hx σ) I1 r q⟩) he hpl) hdb)⟩
theorem je_call {m : MF} {n : Nat} {dds : List D} {ms : List ME} (C : Cs X W k N sc) (F : FuX X j x m n dds) (hjk : j ≤ k) (hg : glC sc x = true) (ha : JA X W (e :: es) ms) (hn : ms.length + dds.length = n)
    (he : starEach (e :: es) X.env = (false, eval e X.env) :: starEach es X.env := by rfl) (hpl : (backTo pos (starEach es X.env)).any (·.1) = false := by rfl) : JE X W (.Call (.Name x p) (e :: es) [] pos) (mCall m ms dds) := by
  obtain ⟨f, fd, ps, ds, dvs, F, hm, hk, hb, hd, hdd⟩ := F.ex
  obtain ⟨g1, g2, g3⟩ := C.gl hg
  exact (pe_callG F (C.rm.mono hjk) g1 hm hk hb hd (passAt C.tk) ha g2 he hpl).imp (call_end (ms := ms) hdd fun ds hl => by rw [List.length_append]; omega)
theorem Cs.ov {i : Nat} (C : Cs X W k N sc) (h : varC N sc i x = true) : JO X W (.Name x p) (.v i) := jo_v (C.var h)
theorem Cs.setLc {i : Nat} {y : Str} {py : Pos} {elt tg iter : Expr} {ifs : List Expr} {scope : Scope} {spos : Pos} {mi : MM (List D)} {f : TgF} {is : List Nat} {tests : MT} {m : ME} {Tx : Program → World → PySem.W.Frag → (Str → Option Value) → Heap → Prop} (C : Cs X W k N sc) (T : Tx X.prog X.w X.K X.mg X.base) (own : List (Str × Nat)) (hy : ownC N sc i y = true)
    (hl : (py.line == pos.line) = true) (hl2 : spos.line = pos.line) (hk : sc.kind = .function) (hna : (scope.names.any fun (n, k) => n == y && (k == .local || k == .cell)) = false)
    (hi : JI X W tg iter mi) (ok : blkC N sc scope own = true)
    (hb : ∀ (Y : Cx), Tx Y.prog Y.w Y.K Y.mg Y.base → Cs Y W0 k N (relS scope sc) → JG Y tg f is ∧ JTs Y W0 ifs tests ∧ JE Y W0 elt m) (hsub : (is.all fun j => (own.map (·.2)).contains j) = true) (hs : ∀ x, foldedSetIterable iter X.env x = pure x := by intro _; rfl) :
    JS X W (.Assign [.Name y py] (.ListComp elt [⟨tg, iter, ifs, 0⟩] scope pos) spos) (mSet i (mLc mi f tests m (own.map (·.2)))) :=
  let ⟨a, b, c⟩ := C.own hy
  js_setLc C.calm a b c (sw_true (by rw [C.hsc]; exact hk) c hl hna) hi (by rw [C.hN, C.hsc]; exact blkOk_by ok) (fun s H c cl fp => (hb (X.blk s H scope (compEnvC scope cl c X.env) fp) T (C.blk scope s H c cl fp)).1) (fun s H c cl fp => (hb (X.blk s H scope (compEnvC scope cl c X.env) fp) T (C.blk scope s H c cl fp)).2.1)
    (fun s H c cl fp => (hb (X.blk s H scope (compEnvC scope cl c X.env) fp) T (C.blk scope s H c cl fp)).2.2) (fun j hj => by simpa using List.all_eq_true.mp hsub j hj) hs
end
end FL
namespace FL
open PySem PySem.Spec PyProof.Rows L2
def gMulA : D → D → Option Slot := fun x y => (gMul x y).or (gRep x y)
abbrev rMulA : R2 := fun x y H Q => rI CMulW (fun i j => .int (i * j)) x y H Q ∨ rRep x y H Q
section
variable {X : Cx} {W : WX} {k j : Nat} {N : List Str} {sc : Scope} {a b c e o : Expr} {es : List Expr} {pos p apos : Pos} {x : Str} {oa ob : Opn}
theorem o_mulA : OpR X (binaryOp .Mult) rMulA := op_mulW.or op_rep
theorem j_mulA : R2J X rMulA gMulA := R2J.or j_mulI j_rep
theorem Cs.hu (C : Cs X W k N sc) : X.A.units + 64 < cLine := by have := C.rm.r.un; omega
theorem add_ (ha : JO X W a oa) (hb : JO X W b ob) : JE X W (.BinOp a .Add b pos) (m2 gAdd oa ob) := je_bin o_add j_add ha hb
theorem sub_ (ha : JO X W a oa) (hb : JO X W b ob) : JE X W (.BinOp a .Sub b pos) (m2 gSub oa ob) := je_bin o_sub j_sub ha hb
theorem mul_ (ha : JO X W a oa) (hb : JO X W b ob) : JE X W (.BinOp a .Mult b pos) (m2 gMulA oa ob) := je_bin o_mulA j_mulA ha hb
theorem div_ (ha : JO X W a oa) (hb : JO X W b ob) : JE X W (.BinOp a .FloorDiv b pos) (m2 gDiv oa ob) := je_bin op_fdivW j_div ha hb
theorem mod_ (ha : JO X W a oa) (hb : JO X W b ob) : JE X W (.BinOp a .Mod b pos) (m2 gMod oa ob) := je_bin op_mod j_mod ha hb
theorem pow_ (ha : JO X W a oa) (hb : JO X W b ob) : JE X W (.BinOp a .Pow b pos) (m2 gPow oa ob) := je_bin op_pow j_pow ha hb
theorem Cs.eq (C : Cs X W k N sc) (ha : JO X W a oa) (hb : JO X W b ob) : JE X W (.Compare a [.Eq] [b] pos) (m2 (gEq false) oa ob) := je_cmp (o_eq C.hu) j_eq ha hb (nomark _)
theorem Cs.ne (C : Cs X W k N sc) (ha : JO X W a oa) (hb : JO X W b ob) : JE X W (.Compare a [.NotEq] [b] pos) (m2 (gEq true) oa ob) := je_cmp (o_ne C.hu) j_ne ha hb (nomark _)
theorem in_ (ha : JO X W a oa) (hb : JO X W b ob) (hm : behindInMarks .In b = false := by rfl) : JE X W (.Compare a [.In] [b] pos) (m2 (gIn false) oa ob) := je_cmp o_in (j_in false) ha hb hm
theorem ltT (ha : JO X W a oa) (hb : JO X W b ob) : JT X W (.Compare a [.Lt] [b] pos) (mTb (m2 gLt oa ob)) := jt_cmp o_lt j_lt ha hb (nomark _)
theorem gtT (ha : JO X W a oa) (hb : JO X W b ob) : JT X W (.Compare a [.Gt] [b] pos) (mTb (m2 gGt oa ob)) := jt_cmp o_gt j_gt ha hb (nomark _)
theorem geT (ha : JO X W a oa) (hb : JO X W b ob) : JT X W (.Compare a [.GtE] [b] pos) (mTb (m2 gGe oa ob)) := jt_cmp o_ge j_ge ha hb (nomark _)
theorem Cs.eqT (C : Cs X W k N sc) (ha : JO X W a oa) (hb : JO X W b ob) : JT X W (.Compare a [.Eq] [b] pos) (mTb (m2 (gEq false) oa ob)) := jt_cmp (o_eq C.hu) j_eq ha hb (nomark _)
theorem Cs.neT (C : Cs X W k N sc) (ha : JO X W a oa) (hb : JO X W b ob) : JT X W (.Compare a [.NotEq] [b] pos) (mTb (m2 (gEq true) oa ob)) := jt_cmp (o_ne C.hu) j_ne ha hb (nomark _)
theorem isNT (ha : JO X W a oa) (hb : JO X W b ob) : JT X W (.Compare a [.Is] [b] pos) (mTb (m2 (gIsN false) oa ob)) := jt_cmp o_isN (j_isN false) ha hb (nomark _)
theorem ix_ (ha : JO X W a oa) (hb : JO X W b ob) (hs : PlainIx b) : JE X W (.Subscript a b pos) (m2 gIxL oa ob) := je_ix ix_seq j_ix ha hb hs
theorem Cs.bi {id : String} {r : List V → Hp → VK → Prop} {g : List D → Option Slot} {os : List Opn} (C : Cs X W k N sc) (h : glC sc x = true) (hm : X.mg x = none) (hv : bootBuiltins x = some (.builtin id)) (hc : CallR X (.builtin id) r) (hr : RLJ X r g) (ha : JOs X W (e :: es) os)
    (he : starEach (e :: es) X.env = (false, eval e X.env) :: starEach es X.env := by rfl) (hpl : (backTo pos (starEach es X.env)).any (·.1) = false := by rfl) : JE X W (.Call (.Name x p) (e :: es) [] pos) (mC g os) :=
  let ⟨g1, g2, g3⟩ := C.gl h
  je_callB hc hr g1 hm hv ha g3 g2 he hpl
theorem Cs.bt {T : String} {r : List V → Hp → VK → Prop} {g : List D → Option Slot} {os : List Opn} (C : Cs X W k N sc) (h : glC sc x = true) (hm : X.mg x = none) (hv : bootBuiltins x = some (.type T)) (hc : CallR X (.type T) r) (hr : RLJ X r g) (ha : JOs X W (e :: es) os)
    (he : starEach (e :: es) X.env = (false, eval e X.env) :: starEach es X.env := by rfl) (hpl : (backTo pos (starEach es X.env)).any (·.1) = false := by rfl) : JE X W (.Call (.Name x p) (e :: es) [] pos) (mC g os) :=
  let ⟨g1, g2, g3⟩ := C.gl h
  je_callTy hc hr g1 hm hv ha g3 g2 he hpl
theorem Cs.gInt {i : Int} (C : Cs X W k N sc) (h : glC sc x = true) (hm : ∃ t, X.mg x = some (.int i t)) : JE X W (.Name x pos) (mD (.int i)) :=
  let ⟨g1, g2, g3⟩ := C.gl h
  let ⟨t, hm⟩ := hm
  je_mod g1 hm (v := .int i) ⟨t, rfl⟩ (fun _ _ => .int) g2
theorem Cs.gStr {s : String} (C : Cs X W k N sc) (h : glC sc x = true) (hm : ∃ t, X.mg x = some (.str (Str.ofString s) t)) : JE X W (.Name x pos) (mD (.str (lit s))) :=
  let ⟨g1, g2, g3⟩ := C.gl h
  let ⟨t, hm⟩ := hm
  je_mod g1 hm (v := .str (Str.ofString s)) ⟨t, rfl⟩ (fun _ _ => by rw [ofS_lit]; exact .str) g2
def mChain (g g' : D → D → Option Slot) (oa ob oc : Opn) : ME := fun δ μ => (oa.ev δ μ).bind fun ra δ1 μ1 => (ob.ev δ1 μ1).bind fun rb δ2 μ2 => match ra.at δ2 μ2, rb.at δ2 μ2 with
  | some da, some db => match g da db with
    | some (.fr (.bl true)) => (oc.ev δ2 μ2).bind fun rc δ3 μ3 => match rb.at δ3 μ3, rc.at δ3 μ3 with
      | some db', some dc => lift (g' db' dc) δ3 μ3
      | _, _ => .bad
    | some (.fr (.bl false)) => .ok (.fr (.bl false)) δ2 μ2
    | _ => .bad
  | _, _ => .bad
theorem chain_read {r r' : R2} {g g' : D → D → Option Slot} {oc : Opn} (hr : R2J X r g) (hr' : R2J X r' g') : ∀ σ H Q, rdE X W (mChain g g' oa ob oc) σ H Q → tChain r r' (rdO X W oa) (rdO X W ob) (rdO X W oc) σ H Q := by
  intro σ H Q ⟨Z, F, ρ, μ, δ, S, q⟩
  refine ⟨Z, F, ρ, μ, δ, S, (FinE.bind q).imp fun ra δ1 μ1 H1 F1 ρ1 l1 lr1 S1 ⟨_, _, _, p1⟩ x hx => ?_⟩
  refine ⟨Z, F1, ρ1, μ1, δ1, S1, p1.bind.imp fun rb δ2 μ2 H2 F2 ρ2 l2 lr2 S2 ⟨_, _, _, p2⟩ y hy => ?_⟩
  cases ea : ra.at δ2 μ2 with
  | none => simp only [ea] at p2; exact p2.elim
  | some da =>
    cases eb : rb.at δ2 μ2 with
    | none => simp only [ea, eb] at p2; exact p2.elim
    | some db =>
      simp only [ea, eb] at p2
      cases eg : g da db with
      | none => simp only [eg] at p2; exact p2.elim
      | some s =>
        refine hr Z F2 ρ2 μ2 δ2 σ H2 x y da db s _ S2 ((hx.up l2 lr2).bor S2 ea) (hy.bor S2 eb) eg fun v H3 F3 l3 S3 vr => ?_
        cases s with
        | own o => simp only [eg] at p2; exact p2.elim
        | fr d =>
          cases d with
          | bl kk =>
            cases vr.r
            refine ⟨kk, rfl, ?_⟩
            cases kk with
            | false =>
              simp only [eg] at p2
              rw [if_neg Bool.false_ne_true]
              exact p2 H3 F3 ρ2 l3 .refl S3 _ .bl
            | true =>
              simp only [eg] at p2
              rw [if_pos rfl]
              refine ⟨Z, F3, ρ2, μ2, δ2, S3, (p2.mono l3 .refl).bind.imp fun rc δ4 μ4 H4 F4 ρ4 l4 lr4 S4 ⟨_, _, _, p4⟩ w hw => ?_⟩
              cases eb' : rb.at δ4 μ4 with
              | none => simp only [eb'] at p4; exact p4.elim
              | some db' =>
                cases ec : rc.at δ4 μ4 with
                | none => simp only [eb', ec] at p4; exact p4.elim
                | some dc =>
                  simp only [eb', ec] at p4
                  unfold lift at p4
                  cases eg' : g' db' dc with
                  | none => simp only [eg'] at p4; exact p4.elim
                  | some s' =>
                    simp only [eg'] at p4
                    exact hr' Z F4 ρ4 μ4 δ4 σ H4 y w db' dc s' Q S4 (((hy.up l3 .refl).up l4 lr4).bor S4 eb') (hw.bor S4 ec) eg' fun v H' F' l' S' vr => p4 H' F' ρ4 l' .refl S' v vr
          | _ => simp only [eg] at p2; exact p2.elim
theorem chain_ {op op' : CmpOp} {r r' : R2} {g g' : D → D → Option Slot} {oc : Opn} (ho : OpR X (compareOp op) r) (hr : R2J X r g) (ho' : OpR X (compareOp op') r') (hr' : R2J X r' g') (ha : JO X W a oa) (hb : JO X W b ob) (hc : JO X W c oc)
    (hm : lastMarks [op, op'] [b, c] = false := by with_unfolding_all rfl) : JE X W (.Compare a [op, op'] [b, c] pos) (mChain g g' oa ob oc) := (pe_chain ho ho' ha hb hc hm).imp (chain_read hr hr')
theorem chainT {op op' : CmpOp} {r r' : R2} {g g' : D → D → Option Slot} {oc : Opn} (ho : OpR X (compareOp op) r) (hr : R2J X r g) (ho' : OpR X (compareOp op') r') (hr' : R2J X r' g') (ha : JO X W a oa) (hb : JO X W b ob) (hc : JO X W c oc)
    (hm : lastMarks [op, op'] [b, c] = false := by with_unfolding_all rfl) : JT X W (.Compare a [op, op'] [b, c] pos) (mTb (mChain g g' oa ob oc)) := (pt_chain ho ho' ha hb hc hm).imp (mTb_read (chain_read hr hr'))
theorem Cs.par {i j : Nat} {x y : Str} {ma mb : ME} {px py pt : Pos} {kt k2 pt2} (C : Cs X W k N sc) (hi : ownC N sc i x = true) (hj : ownC N sc j y = true) (hij : i ≠ j) (ha : JE X W a ma) (hb : JE X W b mb)
    (hw : ∀ env : Env, env.scope = sc → swappedStores [.Tuple [.Name x px, .Name y py] kt pt] (.Tuple [a, b] k2 pt2) env = pure (some [x, y]))
    (hs : swapsWithSole [.Tuple [.Name x px, .Name y py] kt pt] (.Tuple [a, b] k2 pt2) pos.line X.env = pure false := by rfl)
    (h1 : starEach [a, b] X.env = (false, eval a X.env) :: starEach [b] X.env := by rfl) (h2 : starEach [b] X.env = (false, eval b X.env) :: starEach [] X.env := by rfl) :
    JS X W (.Assign [.Tuple [.Name x px, .Name y py] kt pt] (.Tuple [a, b] k2 pt2) pos) (mPar i j ma mb) :=
  let ⟨n, i1, i2⟩ := C.own hi
  let ⟨_, j1, j2⟩ := C.own hj
  js_par C.calm n i1 j1 hij i2 j2 ha hb (hw X.env C.hsc) hs h1 h2
theorem range1_ {tg : Expr} {o : Opn} (C : Cs X W k N sc) (h : glC sc "range" = true) (hm : X.mg "range" = none) (ha : JOs X W [a] [o]) (hs : starEach [a] X.env = [(false, eval a X.env)] := by rfl) : JI X W tg (.Call (.Name "range" p) [a] [] pos) (mRange1 o) :=
  ji_range1 (C.gl h).1 hm ha hs
theorem slice_ {lo hi : Option Expr} {p2 : Pos} {oo : Opn} {ml mh : MM (Option Int)} (ho : JO X W e oo) (hl : JP X W lo ml) (hh : JP X W hi mh) : JE X W (.Subscript e (.Slice lo hi none p2) pos) (mSl gSl oo ml mh) := je_slice o_slice j_slice ho hl hh
theorem setI_ {i : Expr} {spos : Pos} {oo oi : Opn} {m : ME} (he : JE X W e m) (ho : JO X W o oo) (hi : JO X W i oi)
    (ha : ∀ v, assign (.Subscript o i spos) X.env v = (do
      let ov ← holding [v] (eval o X.env)
      let iv ← holding [v, ov] (eval i X.env)
      standAt spos
      holding [v, ov, iv] (setItem ov iv v)
      release [v, ov, iv] []) := by intro _; rfl)
    (hs : swapsWithSole [.Subscript o i spos] e pos.line X.env = pure false := by rfl) (hw : swappedStores [.Subscript o i spos] e X.env = pure none := by rfl)
    (h1 : (assignEach [.Subscript o i spos] X.env).map (·.2) = [assign (.Subscript o i spos) X.env] := by rfl) : JS X W (.Assign [.Subscript o i spos] e pos) (mSetI gSetL oo oi m) :=
  js_setI set_list j_setL he ho hi ha hs hw h1
end
theorem Fu.mk0 {P : Program} {w : World} {K : PySem.W.Frag} {mg : Str → Option Value} {base : Heap} {k n : Nat} {x : Str} {m : MF} {f : Addr} {fd : FuncData} {ps : List Str} (F : FnG P w K mg base (L2.CX P w) k f fd ps (spM K mg m n)) (hm : mg x = some (.ref f)) (hk : PySem.W.keepIn K (.ref f) = true)
    (hb : Binds K fd ps []) : Fu P w K mg base k x m n [] := ⟨f, fd, ps, [], [], F, hm, hk, hb, .nil, fun _ _ => .nil⟩
theorem Fd.binds {K : PySem.W.Frag} {x qual : Str} {st : Stmt} {f : Addr} {fd : FuncData} (F : Fd K x qual st f fd .none) {ps : List Str}
    (h : ∀ (kV doc pm : Value) (an : Option Addr) (cdv ct : Value) (us : List Value), us.length = ps.length → bindArgs (PySem.W.fnOf x qual (defArgs st) (defBody st) (defScope st) .none kV doc pm an cdv ct) ⟨us, []⟩ = pure (ps.zip us)) : Binds K fd ps [] := by
  obtain ⟨oc, od, kV, doc, pm, an, cdv, ct, osl, rfl, lk, hcd⟩ := F.ex
  exact .all (h kV doc pm an cdv ct)
theorem fnG_s {P : Program} {w : World} {K : PySem.W.Frag} {mg : Str → Option Value} {base : Heap} {k n : Nat} {f : Addr} {x qual : Str} {st : Stmt} {fd : FuncData} {N ps : List Str} {m : MS} {dV : Value} {sc : Scope} (F : Fd K x qual st f fd dV) (S : FnScope N ps sc) (hsc : defScope st = sc) (hn : ps.length = n)
    (hbody : ∀ (X : Cx) (W : WX), X.prog = P → X.w = w → X.K = K → X.mg = mg → X.base = base → Cd X W k N sc → JSs X W (defBody st) m) : FnG P w K mg base (L2.CX P w) (k + 1) f fd ps (spM K mg (mFn N.length m) n) := by
  subst hsc
  exact fnG_m F S hn hbody
end FL
namespace FL
open PySem PySem.Spec PyProof.Rows L2
abbrev supE (qual : Str) (scope : Scope) (L f : Addr) (cd : Value) (cc : Addr) : Env := PySem.W.ksEnv qual scope L f cd cc
def supX (P : Program) (w : World) (K : PySem.W.Frag) (mg : Str → Option Value) (base : Heap) (N : List Str) (qual : Str) (scope : Scope) (f : Addr) (cd : Value) (cc : Addr) (A : Around) (outer : List Env) (s : Shared) (H : Hp) (E : XK) : Cx where
  prog := P
  w := w
  K := K
  mg := mg
  base := base
  A := A.deeper (supE qual scope s.heap.objs.size f cd cc)
  N := N
  s_0 := s
  H_0 := H
  env := supE qual scope s.heap.objs.size f cd cc
  outer := outer
  stack := supE qual scope s.heap.objs.size f cd cc :: outer
  ex := []
  calm := true
  fn := fun _ => false
  pn := []
  xe := fun e s' => wpAny (model P w) (A.deeper (supE qual scope s.heap.objs.size f cd cc)) (leaving (supE qual scope s.heap.objs.size f cd cc) e) (fun _ s'' => L2.CX P w outer H s E e s'') (fun e' s'' => L2.CX P w outer H s E e' s'') s'
theorem sup_start {P : Program} {w : World} {K : PySem.W.Frag} {mg : Str → Option Value} {base : Heap} {qual : Str} {scope : Scope} {f cc D : Addr} {cd : Value} {A : Around} {outer : List Env} {s : Shared} {H : Hp} {E : XK} {p0 p1 : Str} {u0 u1 : Value} {v0 v1 : V} {h₁ : Heap} {tk : Nat} {cl : Value} {cld : Option Addr} {csl : Array (Option Value)}
    (hk : scope.kind = .function) (hc : ∀ y ∈ scope.names, y.2 ≠ .cell ∧ (y.2 = .free → y.1 = "__class__")) (h01 : p0 ≠ p1) (l0 : scope.names.lookup p0 = some .local) (l1 : scope.names.lookup p1 = some .local) (hd : A.handled = none) (e0 : Env0 P w K mg base A outer s H)
    (hcell : K.lookup cc = some ⟨cl, cld, .cell (some (.ref D)), csl⟩) (r0 : RelV v0 u0) (r1 : RelV v1 u1) (hns : h₁.Ns s.heap.objs.size fun y => ([(p0, u0), (p1, u1)] : List (Str × Value)).reverse.lookup y) (kp : ∀ b o, s.heap.get? b = some o → h₁.get? b = some o) :
    Inv (supX P w K mg base [p0, p1] qual scope f cd cc A outer s H E) [] [some v0, some v1] H { s with heap := h₁, toks := tk } := by
  have noA : ∀ b : Addr, b ∉ (supX P w K mg base [p0, p1] qual scope f cd cc A outer s H E).ex := fun b z => absurd (show b ∈ ([] : List Addr) from z) (by simp)
  have look : ∀ {y : Str} {c : Addr}, ([(("__class__" : Str), cc)] : List (Str × Addr)).lookup y = some c → y = "__class__" ∧ c = cc := fun {y c} e => by
    rw [List.lookup_cons] at e
    by_cases z : y = "__class__"
    · subst z
      simp at e
      exact ⟨rfl, e.symm⟩
    · have : (y == ("__class__" : Str)) = false := by simpa using z
      rw [this] at e
      cases e
  have hbase := e0.mod.kin _ _ hcell
  refine ⟨⟨e0.mod, hk, rfl, rfl, Nat.le_refl _, fun y z c e1 e2 => ?_, fun y hy => ?_, fun y c z _ => ?_, fun _ => hd, Around.frames_deeper e0.frames, .inr ⟨rfl, rfl⟩, fun b z => absurd z (noA b), e0.bs, e0.bsz, fun b _ _ => noA b, fun b z => absurd z (noA b), e0.funs, e0.frf⟩,
    rfl, e0.bare, Un.kept kp, ⟨_, hns, fun i y v e1 e2 e3 => ?_⟩, fun y c e => ?_, e0.hok.fresh (Nat.le_refl _), fun y c e => ?_, fun q hq => absurd (show q ∈ ([] : List (Addr × Obj)) from hq) (by simp), e0.hok.kept kp, rfl⟩
  · rw [(look e1).1, (look e2).1]
  · have hy : scope.names.lookup y = some .cell ∨ scope.names.lookup y = some .free := hy
    rcases hy with hy | hy
    · exact absurd rfl (hc _ (PySem.mem_of_lookup hy)).1
    · have e := (hc _ (PySem.mem_of_lookup hy)).2 rfl
      have e : y = "__class__" := e
      exact ⟨cc, by rw [e]; show ([(("__class__" : Str), cc)] : List (Str × Addr)).lookup ("__class__" : Str) = some cc; simp⟩
  · have z : false = true := z
    cases z
  · match i, e1, e2 with
    | 0, e1, e2 =>
      cases e1
      cases e2
      refine ⟨u0, r0, .inl ⟨l0, ?_⟩⟩
      show ([(p1, u1), (p0, u0)] : List (Str × Value)).lookup p0 = some u0
      rw [List.lookup_cons, show (p0 == p1) = false by simpa using h01]
      simp
    | 1, e1, e2 =>
      cases e1
      cases e2
      refine ⟨u1, r1, .inl ⟨l1, ?_⟩⟩
      show ([(p1, u1), (p0, u0)] : List (Str × Value)).lookup p1 = some u1
      simp
    | i + 2, e1, e2 =>
      have e1 : ([p0, p1] : List Str)[i + 2]? = some y := e1
      simp at e1
  · have e : ([(("__class__" : Str), cc)] : List (Str × Addr)).lookup y = some c := e
    rw [(look e).2]
    exact ⟨_, _, kp _ _ (e0.bs _ _ hbase).1, rfl⟩
  · have e : ([(("__class__" : Str), cc)] : List (Str × Addr)).lookup y = some c := e
    rw [(look e).2]
    exact (e0.bs _ _ hbase).2
theorem sup_call {X : Cx} {pins : List (Addr × Obj)} {σ : L2.St} {H : Hp} {s : Shared} {A : Around} {E : Value → Shared → Prop} {a C u : Addr} {us : List Value} {Q : Value → Shared → Prop} (T : OexC X.K C) (I : Inv X pins σ H s) (e : H a = some (exo a C none))
    (hu : s.heap.get? u = some (PySem.W.kxs_mw "ValueError.__init__" a)) (hl : us.length ≤ sizeLine) (h : ∀ s', Inv X pins σ H s' → Q .none s') : wpAny (model X.prog X.w) A (call (.ref u) us) Q E s := by
  obtain ⟨nm, q, N, bs, bm, sn, sub, ab, col, dd, k0, k1, k2, k3, k5, hC, hbm⟩ := T.cls
  obtain ⟨t1, ho⟩ := exo_at I.hok e
  obtain ⟨hp, g, d, t, os⟩ := s
  refine wpAny_call (codeAny_of_tree ?_)
  show wpAny _ A.in1 (callAny (.ref u) ⟨us, []⟩) _ _ _
  simp only [callAny]
  refine wpAny_bind (wpAny_load hu ?_)
  simp only [PySem.W.kxs_mw, show (Value.type "method-wrapper" == Value.type "method" || Value.type "method-wrapper" == Value.type "builtin_function_or_method" || Value.type "method-wrapper" == Value.type "method-wrapper") = true by decide, if_true]
  refine PySem.W.KFB.if_so (by decide) ?_
  refine wpAny_bind (PySem.W.check_bound_init F.excBase_ValueError.toExcCallFacts (I.kIn _ _ hC) ho rfl ?_)
  refine wpAny_bind (wpAny_pure (wpAny_pure ?_))
  refine ⟨plainId_quiet F.excBase_ValueError.init.plain _, codeAny_builtin F.excBase_ValueError.initEntry ?_⟩
  refine PySem.W.exc_init_tree (cls := .ref C) (t0 := t1) (dv := none) (c2 := .none) (c3 := .none) (b4 := .bool false) ho hl fun h' k hx _ => ?_
  have J := I.write (t' := t) (x := a) (e := a) (o := exo a C none) (by rw [e]; exact True.intro) (.inl rfl) k ⟨_, hx⟩ (exo_ok hx)
  have eu : upd H a (exo a C none) = H := by
    funext b
    by_cases hb : b = a
    · rw [hb, upd_same, e]
    · rw [upd_ne hb]
  rw [eu] at J
  exact h _ J
def spSup (K : PySem.W.Frag) (D : Addr) (at_ : Str) : Sp := fun vs H Q E => ∃ (a C : Addr) (r : V), vs = [.ref a, r] ∧ OexC K C ∧ PySem.W.mroIn K C (.ref D) = some true ∧ PySem.W.ks_superIn K C D "__init__" = some (some (.builtin "ValueError.__init__")) ∧
  PySem.W.subIn K (.ref C) (.type "ValueError") = some true ∧ PySem.W.findIn K (.ref C) at_ = some none ∧ H a = some (exo a C none) ∧ ∀ dx, H dx = none → dx ≠ a → Q .non (upd (upd H dx (exd dx [(at_, r)])) a (exo a C (some dx)))
abbrev supC (p1 : Str) (q : Nat → Pos) : Expr := .Call (.Attribute (.Call (.Name "super" (q 0)) [] [] (q 1)) "__init__" (q 2)) [.Name p1 (q 3)] [] (q 4)
abbrev supB (p0 p1 at_ : Str) (q : Nat → Pos) : List Stmt := [.Expr (supC p1 q) (q 5), .Assign [.Attribute (.Name p0 (q 6)) at_ (q 7)] (.Name p1 (q 8)) (q 9)]
structure SupF (K : PySem.W.Frag) (P : Program) (fI D cc cda : Addr) (qual p0 p1 at_ : Str) (params : Arguments) (q : Nat → Pos) (scope : Scope) (fd : FuncData) : Prop where
  lk : ∃ oc od dV kV doc pm an ct osl, fd = PySem.W.ksFn "__init__" qual params (supB p0 p1 at_ q) scope dV kV doc pm an (.ref cda) ct cc ∧ K.lookup fI = some { cls := oc, dict := od, data := .func fd, slots := osl }
  cd : PySem.W.codeIn K (.ref cda) qual = true
  code : ∃ ccl cdd vs ccs file tf, K.lookup cda = some { cls := ccl, dict := cdd, data := .fields vs, slots := ccs } ∧ vs[2]? = some (.str file tf) ∧ ((P.main.file : Str) == file) = true
  cell : ∃ cl cld csl, K.lookup cc = some { cls := cl, dict := cld, data := .cell (some (.ref D)), slots := csl }
  clsD : ∃ cdD, PySem.W.clsIn K D = some cdD
  any : PySem.W.nsIn K cStatics "thirdparty.any" = some none
  top : (P.main.scope.names.lookup ("super" : Str)).isSome = false
  ev : ∃ pl : Sem Bool, ∀ L : Addr, eval (supC p1 q) (supE qual scope L fI (.ref cda) cc) = (do
      let ov ← attributeBase (.Call (.Name "super" (q 0)) [] [] (q 1)) "__init__" (supE qual scope L fI (.ref cda) cc) (eval (.Call (.Name "super" (q 0)) [] [] (q 1)) (supE qual scope L fI (.ref cda) cc))
      standAt (q 2).atName
      let (f, first) ← holding [ov] (getMethod ov "__init__" pl)
      callWith (q 4) f first (backTo (q 4) (starEach [.Name p1 (q 3)] (supE qual scope L fI (.ref cda) cc))) [])
  sw1 : ∀ L : Addr, swapsWith (supC p1 q) none (q 5).line (supE qual scope L fI (.ref cda) cc) = pure false
  sw2 : ∀ L : Addr, swapsWith (.Name p1 (q 8)) (some (.Attribute (.Name p0 (q 6)) at_ (q 7))) (q 9).line (supE qual scope L fI (.ref cda) cc) = pure false
  self : ∃ ar, (params.posonlyargs ++ params.args).head? = some ar ∧ ar.arg = p0
  kind : scope.kind = .function
  co : scope.isCoroutine = false
  gen : scope.isGenerator = false
  names : ∀ y ∈ scope.names, y.2 ≠ .cell ∧ (y.2 = .free → y.1 = "__class__")
  ne : p0 ≠ p1
  l0 : scope.names.lookup p0 = some .local
  l1 : scope.names.lookup p1 = some .local
  ls : scope.names.lookup ("super" : Str) = some .globalImplicit
  lc : scope.names.lookup ("__class__" : Str) = some .free
  d0 : (p0 == ("__debug__" : Str)) = false ∧ (p0 == ("__classdict__" : Str)) = false
  d1 : (p1 == ("__debug__" : Str)) = false ∧ (p1 == ("__classdict__" : Str)) = false
theorem fn_sup {P : Program} {w : World} {K : PySem.W.Frag} {mg : Str → Option Value} {base : Heap} {fI D cc cda : Addr} {qual p0 p1 at_ : Str} {params : Arguments} {q : Nat → Pos} {scope : Scope} {fd : FuncData} (S : SupF K P fI D cc cda qual p0 p1 at_ params q scope fd) (hsup : mg "super" = none) :
    FnOk P w K mg base (L2.CX P w) 2 fI fd [p0, p1] (spSup K D at_) := by
  refine ⟨fun vs H Q E ⟨_, _, _, e, _⟩ => by rw [e]; rfl, fun A outer s H args us vs Q E hr e0 hb r h => ?_⟩
  obtain ⟨a, C, r1, rfl, T, hsub, hm, hB, hno, ha, hq⟩ := h
  obtain ⟨oc, od, dV, kV, doc, pm, an, ct, osl, rfl, lk⟩ := S.lk
  obtain ⟨ccl, cdd, cvs, ccs, file, tf, hcode, hvs, hfile⟩ := S.code
  obtain ⟨cl, cld, csl, hcell⟩ := S.cell
  obtain ⟨cdD, hD⟩ := S.clsD
  obtain ⟨pl, ev⟩ := S.ev
  obtain ⟨ar, har, har2⟩ := S.self
  obtain ⟨u0, u1, rfl, ra, rr⟩ := vals2 r
  cases ra
  have KX : K.In s.heap := e0.mod.kin.keeps fun b o e => (e0.bs b o e).1
  have lim : s.heap.NoLimit := e0.mod.nolimit.keeps fun b o e => (e0.bs b o e).1
  have binds : [p0, p1].zip [Value.ref a, u1] = [(p0, Value.ref a), (p1, u1)] := rfl
  rw [binds] at hb
  refine PySem.ks_codeAny_call_defAt hr.depth (KX _ _ lk) rfl lim (PySem.W.codeRec_of KX S.cd) rfl hb (fun y hy => (S.names y hy).1) (fun y hy => ?_) (fun h₁ hns kp => ?_) S.co S.gen S.kind
  · simp only [List.mem_cons, List.not_mem_nil, or_false] at hy
    rcases hy with rfl | rfl
    · exact S.l0
    · exact S.l1
  have I : Inv (supX P w K mg base [p0, p1] qual scope fI (.ref cda) cc A outer s H E) [] [some (.ref a), some r1] H { s with heap := h₁, toks := s.toks + ([(p0, Value.ref a), (p1, u1)] : List (Str × Value)).length } :=
    sup_start S.kind S.names S.ne S.l0 S.l1 hr.hd e0 hcell rfl rr hns kp
  have gv0 := hns
  obtain ⟨mb, hmb, hbb⟩ := e0.mod.blt
  have KX1 : K.In h₁ := I.kIn
  have ga : (fun y => ([(p0, Value.ref a), (p1, u1)] : List (Str × Value)).reverse.lookup y) p0 = some (.ref a) := by
    show ([(p1, u1), (p0, Value.ref a)] : List (Str × Value)).lookup p0 = some (.ref a)
    rw [List.lookup_cons, show (p0 == p1) = false by simpa using S.ne]
    simp
  show _root_.PySem.wpAt (model P w) (A.deeper (supE qual scope s.heap.objs.size fI (.ref cda) cc)) (.func (supB p0 p1 at_ q) (supE qual scope s.heap.objs.size fI (.ref cda) cc)) (execs (supB p0 p1 at_ q) (supE qual scope s.heap.objs.size fI (.ref cda) cc)) _ _ _
  refine ks_wpAt_execs_cons (ks_wpAt_Expr_any (ks_wpAt_MethodCall (pl := pl) ?_ (ev _)) (by unfold interactive; simp [S.kind]) (S.sw1 _))
  refine ks_wpAt_super_base S.ls S.lc (by decide) rfl (KX1 _ _ lk) rfl har rfl (KX1 _ _ hcode) rfl hvs hfile S.top ?_
  have oD : ∃ o : Obj, K.lookup D = some o ∧ o.data = .cls cdD := by
    unfold PySem.W.clsIn at hD
    split at hD
    · rename_i ho
      cases hD
      exact ⟨_, ho, rfl⟩
    · cases hD
  obtain ⟨oD, hoD, hdD⟩ := oD
  have lcell : h₁.IsCell cc (some (.ref D)) := ⟨_, KX1 _ _ hcell, rfl⟩
  have hcl : ([(("__class__" : Str), cc)] : List (Str × Addr)).lookup ("__class__" : Str) = some cc := by simp
  obtain ⟨t1, hox⟩ := exo_at I.hok ha
  refine PySem.W.ks_loadName_global S.kind S.ls (PySem.Calls.loadGlobal_builtin (mg := mg) (by exact e0.mod.glob.keeps I.bk) hsup (by exact hmb.keeps I.bk) ((hbb "super" (by decide)).trans PyProof.Rows.Boot.«super») ⟨rfl, ?_⟩)
  refine wpAny_loadName_free S.kind S.lc hcl lcell ?_
  refine wpAny_loadName_local (m := fun y => ([(p0, Value.ref a), (p1, u1)] : List (Str × Value)).reverse.lookup y) S.kind (by rw [har2]; exact S.l0) hns (by rw [har2]; exact ga) ?_
  refine PySem.ks_wpAny_isType_cls (KX1 _ _ hoD) hdD ⟨rfl, ?_⟩
  refine PySem.ks_wpAny_call_super (KX1 _ _ hoD) hdD hox rfl (fun c z => by cases z) (PySem.W.looks_mroIn KX1 hsub) fun h2 hso k2 => ?_
  have KX2 : K.In h2 := KX1.keeps k2
  have I2 := I.kept (t' := s.toks + ([(p0, Value.ref a), (p1, u1)] : List (Str × Value)).length) k2
  obtain ⟨nm, qq, NN, bs, bm, sn, sub, ab, col, dd, x0, x1, x2, x3, x5, hC, hbm⟩ := T.cls
  have hcd : ∃ cd, PySem.W.clsIn K C = some cd := by
    unfold PySem.W.clsIn
    rw [hC]
    exact ⟨_, rfl⟩
  obtain ⟨cdC, hcC⟩ := hcd
  have hal : PySem.W.alongIn K "__init__" ((cdC.mro.dropWhile (· != .ref D)).drop 1) = some (some (.builtin "ValueError.__init__")) := by
    unfold PySem.W.ks_superIn at hm
    rw [hcC] at hm
    exact hm
  have hox2 := k2 _ _ hox
  have hne : a ≠ C := fun z => by
    have y := KX2 _ _ hC
    rw [← z, hox2] at y
    have y2 := congrArg Obj.data (Option.some.inj y)
    cases y2
  refine PySem.W.kxs_getMethod PySem.W.kxs_ValueError hso (PySem.W.looks_opaque KX2 S.any) (l₀ := cdC.mro) (fun A Q E s k q => wpAny_bind ((PySem.W.looks_clsIn KX2 hcC) A _ E s k (wpAny_pure q))) rfl KX2 hal ?_ hne (by decide) ?_
  · exact (PySem.W.InstAt.type (od := none) ⟨hox2, rfl, rfl, trivial⟩).andThen (PySem.W.looks_subIn KX2 hB)
  have k3 : ∀ b o, h2.get? b = some o → (h2.push (PySem.W.kxs_mw "ValueError.__init__" a)).get? b = some o := fun b o e => Heap.get?_push_of_some _ e
  have I3 := I2.kept (t' := s.toks + ([(p0, Value.ref a), (p1, u1)] : List (Str × Value)).length + 1) k3
  have hmw := Heap.get?_push_size h2 (o := PySem.W.kxs_mw "ValueError.__init__" a) rfl
  refine PySem.W.kxs_callWith (i := "ValueError.__init__") (x := a) rfl ?_
  refine PySem.Calls.evalArgs_plain (PySem.Calls.spliced_cons ?_)
  have hns3 := hns.at fun o y => k3 _ _ (k2 _ _ y)
  refine wpAny_Name (wpAny_loadName_local (v := u1) S.kind S.l1 hns3 (by simp) ?_) S.d1.1
  refine PySem.Calls.spliced_nil ⟨hmw, ?_⟩
  refine sup_call (H := H) (X := supX P w K mg base [p0, p1] qual scope fI (.ref cda) cc A outer s H E) T I3 ha hmw (by rw [sizeLine_eq]; simp) fun s4 I4 => ?_
  refine wpAt_of_wpAny ?_
  have go := (pss_one (ps_ost (f := at_) (p' := q 7) (pos := q 9) (pe_var (X := supX P w K mg base [p0, p1] qual scope fI (.ref cda) cc A outer s H E) (i := 0) (pos := q 6) rfl (.inl S.l0) S.d0.1 S.d0.2) (pe_var (i := 1) (pos := q 8) rfl (.inl S.l1) S.d1.1 S.d1.2) (S.sw2 _))).run [] s4 [some (.ref a), some r1] H { nx := fun σ' H' => Q .non H', rt := fun _ _ => False } I4 ?_
  · refine wpAny_mono go (fun fl s' hs => ?_) fun e s' hs => hs
    cases fl with
    | next =>
      obtain ⟨σ', H', J, qz⟩ := hs
      exact ⟨.non, H', J.os, J.bare, J.base, J.hok, rfl, qz⟩
    | ret u =>
      obtain ⟨v, σ', H', J, rv, qz⟩ := hs
      exact False.elim qz
    | brk =>
      obtain ⟨_, _, _, qz⟩ := hs
      exact False.elim qz
    | cont =>
      obtain ⟨_, _, _, qz⟩ := hs
      exact False.elim qz
  · exact ⟨r1, rfl, .ref a, rfl, a, C, rfl, T, hno, .inl ⟨ha, hq⟩⟩
structure Xc (P : Program) (w : World) (K : PySem.W.Frag) (mg : Str → Option Value) (base : Heap) (c at_ : String) : Prop where
  ex : ∃ (C fI : Addr) (fd : FuncData) (ps : List Str), mg (Str.ofString c) = some (.ref C) ∧ OexC K C ∧ PySem.W.findIn K (.ref C) "__init__" = some (some (.ref fI)) ∧ PySem.W.typeIn K (.ref fI) = some (.type "function") ∧
    FnOk P w K mg base (L2.CX P w) 2 fI fd ps (spSup K C (Str.ofString at_)) ∧ Binds K fd ps [] ∧ PySem.W.mroIn K C (.ref C) = some true ∧ PySem.W.ks_superIn K C C "__init__" = some (some (.builtin "ValueError.__init__")) ∧
    PySem.W.subIn K (.ref C) (.type "ValueError") = some true ∧ PySem.W.findIn K (.ref C) (Str.ofString at_) = some none
abbrev XcX (X : Cx) (c at_ : String) : Prop := Xc X.prog X.w X.K X.mg X.base c at_
def mRaise (c at_ : String) (m : ME) : MS := fun δ μ => (m δ μ).thn fun s δ1 μ1 => .exc ⟨c, at_, s.d⟩ δ1 μ1
theorem js_raise {X : Cx} {W : WX} {k : Nat} {N : List Str} {sc : Scope} {c at_ : String} {e : Expr} {m : ME} {p pos pos' : Pos} (C : Cs X W k N sc) (V : XcX X c at_) (hk : 3 ≤ k) (hg : glC sc (Str.ofString c) = true) (he : JE X W e m)
    (hs : starEach [e] X.env = (false, eval e X.env) :: starEach [] X.env := by rfl) : JS X W (.Raise (some (.Call (.Name (Str.ofString c) p) [e] [] pos)) none pos') (mRaise c at_ m) := by
  obtain ⟨A, fI, fd, ps, h1, T, h3, h4, F, hb, h6, h7, h8, h9⟩ := V.ex
  obtain ⟨g1, g2, g3⟩ := C.gl hg
  have mk := pmk_oex (pos := pos) (p := p) T h3 h4 F ((C.rm.mono hk).r) hb (.nil) (passes_call C.tk (fun _ _ _ _ z => z.elim)) g1 h1 (ja_cons he ja_nil hs) g2 hs
  refine (ps_raise C.calm C.tk mk).imp fun D σ H ⟨Z, F, ρ, μ, δ, S, q⟩ => ?_
  refine ⟨Z, F, ρ, μ, δ, S, ?_⟩
  unfold mRaise at q
  show FinE X W Z F ρ σ _ ((m δ μ).bind fun s δ1 μ1 => (evA [] δ1 μ1).bind fun ds δ2 μ2 => .ok (s.d :: ds) δ2 μ2)
  cases em : m δ μ with
  | bad => rw [em] at q; exact q
  | exc x δ1 μ1 => rw [em] at q; exact fun c d H' F' ρ' l lr S e => q c d σ H' F' ρ' l lr S e
  | ok s δ1 μ1 =>
    rw [em] at q
    intro H1 F1 ρ1 l1 lr1 S1 vs hv
    cases hv with
    | @cons r _ _ _ hv hn =>
      cases hn
      refine ⟨by simp, fun a ha => ?_⟩
      refine ⟨a, A, _, rfl, T, h6, h7, h8, h9, upd_same, fun dx hdx hne => ?_⟩
      have hdx1 : H1 dx = none := by
        rw [upd_ne hne] at hdx
        exact hdx
      refine ⟨rfl, dx, [(Str.ofString at_, r)], upd_same, by rw [upd_ne hne, upd_same], hdx1, ?_⟩
      have eH : upd (del (upd (upd (upd H1 a (exo a A none)) dx (exd dx [(Str.ofString at_, r)])) a (exo a A (some dx))) a) dx (.xd [(Str.ofString at_, r)]) = upd H1 dx (.xd [(Str.ofString at_, r)]) := by
        funext b
        by_cases hb : b = dx
        · rw [hb, upd_same, upd_same]
        · rw [upd_ne hb, upd_ne hb]
          by_cases hb2 : b = a
          · rw [hb2, del_same, ha]
          · rw [del_ne hb2, upd_ne hb2, upd_ne hb, upd_ne hb2]
      rw [eH]
      have S2 := S1.laid (o := .xd [(Str.ofString at_, r)]) hdx1
      have N1 := S1.notIn hdx1
      obtain ⟨l3, S3⟩ := S2.freeze upd_same ⟨N1.1, N1.2.1, N1.2.2.1⟩ N1.2.2.2
      exact q _ _ σ _ _ _ (l1.trans l3) lr1 S3 ⟨A, dx, _, rfl, rfl, h1, .inl upd_same, hv.up l3.to fun _ _ h => h⟩
structure SupS (P : Program) (st : Stmt) (p0 p1 at_ : Str) (q : Nat → Pos) (sc : Scope) : Prop where
  scope : defScope st = sc
  body : defBody st = supB p0 p1 at_ q
  self : ∃ ar, ((defArgs st).posonlyargs ++ (defArgs st).args).head? = some ar ∧ ar.arg = p0
  top : (P.main.scope.names.lookup ("super" : Str)).isSome = false
  ev : ∀ (qual : Str) (fI : Addr) (cda : Value) (cc : Addr), ∃ pl : Sem Bool, ∀ L : Addr, eval (supC p1 q) (supE qual sc L fI cda cc) = (do
      let ov ← attributeBase (.Call (.Name "super" (q 0)) [] [] (q 1)) "__init__" (supE qual sc L fI cda cc) (eval (.Call (.Name "super" (q 0)) [] [] (q 1)) (supE qual sc L fI cda cc))
      standAt (q 2).atName
      let (f, first) ← holding [ov] (getMethod ov "__init__" pl)
      callWith (q 4) f first (backTo (q 4) (starEach [.Name p1 (q 3)] (supE qual sc L fI cda cc))) [])
  sw1 : ∀ (qual : Str) (fI : Addr) (cda : Value) (cc L : Addr), swapsWith (supC p1 q) none (q 5).line (supE qual sc L fI cda cc) = pure false
  sw2 : ∀ (qual : Str) (fI : Addr) (cda : Value) (cc L : Addr), swapsWith (.Name p1 (q 8)) (some (.Attribute (.Name p0 (q 6)) at_ (q 7))) (q 9).line (supE qual sc L fI cda cc) = pure false
  kind : sc.kind = .function
  co : sc.isCoroutine = false
  gen : sc.isGenerator = false
  names : ∀ y ∈ sc.names, y.2 ≠ .cell ∧ (y.2 = .free → y.1 = "__class__")
  ne : p0 ≠ p1
  l0 : sc.names.lookup p0 = some .local
  l1 : sc.names.lookup p1 = some .local
  ls : sc.names.lookup ("super" : Str) = some .globalImplicit
  lc : sc.names.lookup ("__class__" : Str) = some .free
  d0 : (p0 == ("__debug__" : Str)) = false ∧ (p0 == ("__classdict__" : Str)) = false
  d1 : (p1 == ("__debug__" : Str)) = false ∧ (p1 == ("__classdict__" : Str)) = false
theorem xc_of {P : Program} {w : World} {K : PySem.W.Frag} {mg : Str → Option Value} {base : Heap} {c at_ : String} {st : Stmt} {p0 p1 : Str} {q : Nat → Pos} {sc : Scope} {C fI cc cda : Addr} {qual nm qn file : Str} {tf : Tok} {NN : Addr} {bs bm : List Value} {sn : List Str} {sub : List Value} {ab : Bool} {col : Option Bool} {dd : Option Addr} {k0 k1 k2 k3 k5 : Option Value}
    {oc kV doc pm ct ccl cl : Value} {od an cdd cld : Option Addr} {osl ccs csl : Array (Option Value)} {vs : Array Value}
    (S : SupS P st p0 p1 (Str.ofString at_) q sc) (hm : mg (Str.ofString c) = some (.ref C)) (hsup : mg "super" = none) (hC : K.lookup C = some (excClassObj nm qn C NN bs bm true sn sub ab col dd k0 k1 k2 k3 k5 "ValueError.__new__")) (hbm : PySem.HandSPX.refsVE bm = true)
    (sa : PySem.W.findIn K (.ref C) "__setattr__" = some (some (.builtin "object.__setattr__"))) (exC : PySem.W.subIn K (.ref C) (.type "BaseException") = some true) (tyC : PySem.W.typeIn K (.ref C) = some (.type "type")) (kC : PySem.W.keepIn K (.ref C) = true)
    (iC : PySem.W.findIn K (.ref C) "__init__" = some (some (.ref fI))) (tI : PySem.W.typeIn K (.ref fI) = some (.type "function"))
    (lI : K.lookup fI = some { cls := oc, dict := od, data := .func (PySem.W.ksFn "__init__" qual (defArgs st) (defBody st) (defScope st) .none kV doc pm an (.ref cda) ct cc), slots := osl })
    (cI : PySem.W.codeIn K (.ref cda) qual = true) (lcd : K.lookup cda = some { cls := ccl, dict := cdd, data := .fields vs, slots := ccs }) (hvs : vs[2]? = some (.str file tf)) (hfile : ((P.main.file : Str) == file) = true)
    (lcc : K.lookup cc = some { cls := cl, dict := cld, data := .cell (some (.ref C)), slots := csl }) (any : PySem.W.nsIn K cStatics "thirdparty.any" = some none) (mro : PySem.W.mroIn K C (.ref C) = some true)
    (sup : PySem.W.ks_superIn K C C "__init__" = some (some (.builtin "ValueError.__init__"))) (sB : PySem.W.subIn K (.ref C) (.type "ValueError") = some true) (fat : PySem.W.findIn K (.ref C) (Str.ofString at_) = some none)
    (hb : ∀ us : List Value, us.length = [p0, p1].length → bindArgs (PySem.W.ksFn "__init__" qual (defArgs st) (defBody st) (defScope st) .none kV doc pm an (.ref cda) ct cc) ⟨us, []⟩ = pure ([p0, p1].zip us)) : Xc P w K mg base c at_ := by
  have hcls : ∃ cd, PySem.W.clsIn K C = some cd := by
    unfold PySem.W.clsIn
    rw [hC]
    exact ⟨_, rfl⟩
  obtain ⟨pl, ev⟩ := S.ev qual fI (.ref cda) cc
  have e1 := S.scope
  have e2 := S.body
  have F : SupF K P fI C cc cda qual p0 p1 (Str.ofString at_) (defArgs st) q sc (PySem.W.ksFn "__init__" qual (defArgs st) (defBody st) (defScope st) .none kV doc pm an (.ref cda) ct cc) :=
    ⟨⟨oc, od, .none, kV, doc, pm, an, ct, osl, by rw [e1, e2], lI⟩, cI, ⟨_, _, _, _, _, _, lcd, hvs, hfile⟩, ⟨_, _, _, lcc⟩, hcls, any, S.top, ⟨pl, ev⟩, S.sw1 _ _ _ _, S.sw2 _ _ _ _, S.self, S.kind, S.co, S.gen, S.names, S.ne, S.l0, S.l1, S.ls, S.lc, S.d0, S.d1⟩
  exact ⟨C, fI, _, _, hm, ⟨⟨_, _, _, _, _, _, _, _, _, _, _, _, _, _, _, hC, hbm⟩, sa, exC, tyC, kC⟩, iC, tI, fn_sup F hsup, .all hb, mro, sup, sB, fat⟩
end FL
namespace FL
open PySem PySem.Spec PyProof.Rows L2 LamX
section
variable {K : PySem.W.Frag} {mg : Str → Option Value} {Z F : Hp} {ρ : List Addr} {μ : Mem} {δ : FL.Loc} {σ : L2.St} {H : Hp}
theorem Sim.tabAt {j : Nat} {P : Addr} {q : Str} (S : Sim K mg Z F ρ μ δ σ H) (e : μ[j]? = some (.tab P q)) : ρ[j]? = some P ∧ ∃ ps : Array Value, H P = some (.tbl ps) ∧ TriplesOk ps.toList ∧ ∀ (pos : Pos) (cv : Value), codeAmong pos ps.toList = some cv → ∃ c, cv = .ref c ∧ F c = some (CodeO c q) := by
  obtain ⟨a, e1, _, _, r⟩ := S.mem j _ e
  obtain ⟨rfl, ps, h1, h2, h3⟩ := r
  exact ⟨e1, ps, h1, h2, h3⟩
theorem Sim.tabNew {j : Nat} {P c : Addr} {q : Str} {pos : Pos} {ps : Array Value} (S : Sim K mg Z F ρ μ δ σ H) (e : μ[j]? = some (.tab P q)) (hP : H P = some (.tbl ps)) (ht : TriplesOk ps.toList)
    (ha : ∀ (p : Pos) (cv : Value), codeAmong p ps.toList = some cv → ∃ c, cv = .ref c ∧ F c = some (CodeO c q)) (hc : H c = none) :
    ∃ F1, Le Z F F1 ∧ F1 c = some (CodeO c q) ∧ Sim K mg Z F1 ρ μ δ σ (upd (upd H P (.tbl (ps ++ #[rawInt pos.line, rawInt pos.col, .ref c]))) c (CodeO c q)) := by
  have nPc : P ≠ c := ne_of_none hP hc
  obtain ⟨b1, b2, b3, b4⟩ := S.notIn hc
  have S1 := S.laid (o := CodeO c q) hc
  obtain ⟨l, S2⟩ := S1.freeze upd_same ⟨b1, b2, b3⟩ b4
  obtain ⟨ep, _⟩ := S.tabAt e
  have eL : (ps ++ #[rawInt pos.line, rawInt pos.col, .ref c]).toList = ps.toList ++ [rawInt pos.line, rawInt pos.col, .ref c] := by simp
  have S3 := S2.writeM (c' := .tab P q) (o := .tbl (ps ++ #[rawInt pos.line, rawInt pos.col, .ref c])) e ep ⟨rfl, _, upd_same, by rw [eL]; exact PySem.TriplesOk_snoc _ _ _ _ ht, fun p' cv hcv => by
    rw [eL] at hcv
    rcases among_app _ ht hcv with z | z
    · obtain ⟨c0, e1, e2⟩ := ha p' cv z
      exact ⟨c0, e1, l.to _ _ e2⟩
    · exact ⟨c, z, upd_same⟩⟩
  have em : μ.set j (.tab P q) = μ := by
    apply List.ext_getElem?
    intro i
    by_cases z : i = j
    · subst z
      rw [List.getElem?_set_self (List.getElem?_eq_some_iff.mp e).1, e]
    · rw [List.getElem?_set_ne (Ne.symm z)]
  have eH : upd (upd H c (CodeO c q)) P (.tbl (ps ++ #[rawInt pos.line, rawInt pos.col, .ref c])) = upd (upd H P (.tbl (ps ++ #[rawInt pos.line, rawInt pos.col, .ref c]))) c (CodeO c q) := by
    funext b
    by_cases h1 : b = c
    · rw [h1, upd_same, upd_ne (Ne.symm nPc), upd_same]
    · by_cases h2 : b = P
      · rw [h2, upd_same, upd_ne nPc, upd_same]
      · rw [upd_ne h2, upd_ne h1, upd_ne h1, upd_ne h2]
  rw [em, eH] at S3
  exact ⟨_, l, upd_same, S3⟩
def hide (δ : FL.Loc) : FL.Loc := δ.map fun o => match o with
  | some (.fr d) => some (.fr d)
  | _ => none
theorem hide_fr {i : Nat} {s : FL.Slot} (e : (hide δ)[i]? = some (some s)) : ∃ d, s = .fr d ∧ δ[i]? = some (some (.fr d)) := by
  unfold hide at e
  rw [List.getElem?_map] at e
  cases q : δ[i]? with
  | none => rw [q] at e; cases e
  | some o =>
    rw [q] at e
    cases o with
    | none => cases e
    | some t =>
      cases t with
      | fr d => cases e; exact ⟨d, rfl, rfl⟩
      | own c => cases e
theorem Sim.borrow {Z1 F1 : Hp} {ρ1 : List Addr} {μ1 : Mem} {H1 : Hp} (S : Sim K mg Z F ρ μ δ σ H) (S1 : Sim K mg Z1 F1 ρ1 μ1 [] [] H1) (l : ∀ p o, F p = some o → F1 p = some o) (lr : ∀ (k : Nat) p, ρ[k]? = some p → ρ1[k]? = some p) :
    Sim K mg Z1 F1 ρ1 μ1 (hide δ) σ H1 := by
  refine ⟨S1.le, S1.zk, by unfold hide; rw [List.length_map]; exact S.len, fun i s e => ?_, fun i j p s s' e => ?_, S1.mem, S1.mlen, S1.nod⟩
  · obtain ⟨d, rfl, e2⟩ := hide_fr e
    obtain ⟨v, ev, r⟩ := S.slot i _ e2
    exact ⟨v, ev, Rep.up l lr r⟩
  · obtain ⟨d, e1, _⟩ := hide_fr e
    cases e1
end
def lmSB (N : List Str) (sc scope : Scope) : Bool :=
  decide (scope.kind = .function) && !scope.isCoroutine && !scope.isGenerator && scope.names.all fun y => !decide (y.2 = .cell) && (!decide (y.2 = .local) || !decide (y.1 ∈ N)) && (!decide (y.2 = .free) || decide (sc.names.lookup y.1 = some .cell) || decide (sc.names.lookup y.1 = some .free))
theorem lmS_by {N : List Str} {sc scope : Scope} (h : lmSB N sc scope = true) : LmS N sc scope := by
  unfold lmSB at h
  simp only [Bool.and_eq_true, Bool.or_eq_true, Bool.not_eq_true', decide_eq_true_eq, decide_eq_false_iff_not, List.all_eq_true] at h
  obtain ⟨⟨⟨a1, a2⟩, a3⟩, a4⟩ := h
  refine ⟨a1, a2, a3, fun y hy => ⟨(a4 y hy).1.1, fun e => ?_⟩, fun y hy e => ?_⟩
  · rcases (a4 y hy).1.2 with z | z
    · exact absurd e z
    · exact z
  · rcases (a4 y hy).2 with (z | z) | z
    · exact absurd e z
    · exact Or.inl z
    · exact Or.inr z
section
variable {X : Cx} {pins : List (Addr × Obj)} {σ : L2.St} {H HZ : Hp} {s s1 : Shared}
theorem lm_start {A : Around} {outer : List Env} {E : XK} {scope : Scope} {f c' : Addr} {h₁ : Heap} {tk : Nat} {bs : List (Str × Value)} (J : Inv X pins σ H s) (L : LmS X.N X.env.scope scope) (e0 : Env0 X.prog X.w X.K X.mg X.base A outer s1 HZ) (hd : A.handled = none)
    (un : Un (frs X.stack) [] H HZ s.heap s1.heap) (hns : h₁.Ns s1.heap.objs.size fun y => bs.reverse.lookup y) (kp : ∀ b o, s1.heap.get? b = some o → h₁.get? b = some o) :
    Inv (lamCx X A outer s1 HZ E scope f c') [] σ HZ { s1 with heap := h₁, toks := tk } := by
  have has := L.has J.ok
  have down : ∀ {y c}, (cloFrom X.env.cells scope.names []).lookup y = some c → X.env.cells.lookup y = some c := fun {y c} q => by
    rcases cloFrom_mem (PySem.mem_of_lookup q) with hm | ⟨m1, m2⟩
    · cases hm
    · obtain ⟨d, hd'⟩ := has _ m1 rfl
      have hd' : X.env.cells.lookup y = some d := hd'
      have ed : c = d := by
        rw [m2, hd'] <;> rfl
      rw [ed]
      exact hd'
  have find : ∀ {y}, scope.names.lookup y = some .free → ∃ c, (cloFrom X.env.cells scope.names []).lookup y = some c := fun {y} hl =>
    mem_lookup (cloFrom_has (cells := X.env.cells) (acc := []) (PySem.mem_of_lookup hl : (y, NameKind.free) ∈ scope.names))
  have stays : ∀ {c : Addr} {v : Option Value}, H c = none → s.heap.IsCell c v → h₁.IsCell c v := fun {c v} n ⟨o, ho, hc⟩ => by
    obtain ⟨sl, q⟩ := un.any ho n (by simp)
    exact ⟨_, kp _ _ q, hc⟩
  have none_ex : ∀ b : Addr, b ∉ (lamCx X A outer s1 HZ E scope f c').ex := fun b z => nomatch (show b ∈ ([] : List Addr) from z)
  refine ⟨⟨e0.mod, L.kind, rfl, rfl, Nat.le_refl _, fun y z c e1 e2 => J.ok.inj y z c (down e1) (down e2), fun y hy => ?_, fun y c z _ => ?_, fun _ => hd, Around.frames_deeper e0.frames, .inr ⟨rfl, rfl⟩, fun b z => absurd z (none_ex b), e0.bs, e0.bsz, fun b _ _ => none_ex b,
      fun b z => absurd z (none_ex b), e0.funs, e0.frf⟩,
    rfl, e0.bare, Un.kept kp, ⟨_, hns, fun i y v e1 e2 e3 => ?_⟩, fun y c e => ?_, e0.hok.fresh (Nat.le_refl _), fun y c e => ?_, fun q hq => (nomatch (show q ∈ ([] : List (Addr × Obj)) ++ [] from hq)), e0.hok.kept kp, J.len⟩
  · have hy : scope.names.lookup y = some .cell ∨ scope.names.lookup y = some .free := hy
    rcases hy with hy | hy
    · exact absurd rfl (L.own _ (PySem.mem_of_lookup hy)).1
    · exact find hy
  · exact absurd (show false = true from z) (by decide)
  · have e3 : Vis scope y := e3
    have e1 : X.N[i]? = some y := e1
    rcases e3 with k | k | k
    · exact absurd (List.mem_of_getElem? e1) ((L.own _ (PySem.mem_of_lookup k)).2 rfl)
    · exact absurd rfl (L.own _ (PySem.mem_of_lookup k)).1
    · obtain ⟨m, hn, hl⟩ := J.loc
      have hvis : Vis X.env.scope y := (L.free _ (PySem.mem_of_lookup k) rfl).elim (fun k => .inr (.inl k)) (fun k => .inr (.inr k))
      obtain ⟨w', r, q⟩ := hl i y v e1 e2 hvis
      obtain ⟨c2, h2⟩ := find k
      refine ⟨w', r, .inr ⟨.inr k, c2, h2, ?_⟩⟩
      have c1 := down h2
      rcases q with ⟨k', _⟩ | ⟨_, c3, e', z⟩
      · have k' : X.env.scope.names.lookup y = some .local := k'
        rcases L.free _ (PySem.mem_of_lookup k) rfl with k2 | k2
        · rw [show X.env.scope.names.lookup y = _ from k2] at k'
          cases k'
        · rw [show X.env.scope.names.lookup y = _ from k2] at k'
          cases k'
      · rw [c1] at e'
        cases e'
        exact stays (J.freeC y _ c1) z
  · obtain ⟨w', z⟩ := J.cell y c (down e)
    exact ⟨w', stays (J.freeC y c (down e)) z⟩
  · obtain ⟨v, o, ho, _⟩ := J.cell y c (down e)
    exact un.free c o ho (J.freeC y c (down e)) (by simp)
structure Act (P : Program) (w : World) (K : PySem.W.Frag) (mg : Str → Option Value) (base : Heap) (k : Nat) (out0 : List Env) (f : Addr) (F0 : Hp) (ρ0 : List Addr) (act : Mem → OutF) (s0 : Shared) (H0 : Hp) : Prop where
  at_ : (∃ oc od fd osl, s0.heap.get? f = some { cls := oc, dict := od, data := .func fd, slots := osl }) ∧ H0 f = none ∧ f ∉ frs out0
  run : ∀ (A : Around) (outer : List Env) (s : Shared) (H : Hp) (Q : VK) (E : XK) (Z F : Hp) (ρ : List Addr) (μ : Mem), RmG k A → Env0 P w K mg base A outer s H → Un (frs out0) [] H0 H s0.heap s.heap → (∀ p o, F0 p = some o → F p = some o) → (∀ (k : Nat) p, ρ0[k]? = some p → ρ[k]? = some p) →
    Sim K mg Z F ρ μ [] [] H → FinF K mg Z F ρ Q E (act μ) → codeAny (model P w) A (.call (.ref f) ⟨[], []⟩) (CR (L2.CX P w) outer P w H s Q E) s
def actOf (m : ME) (δ : FL.Loc) : Mem → OutF := fun μ => match m (hide δ) μ with
  | .ok s _ μ' => .ok s μ'
  | .exc x _ μ' => .exc x μ'
  | .bad => .bad
abbrev lamW (E : XK) : WX := fun c d _ H => E c d H
theorem act_ok {k : Nat} {f c' : Addr} {q : Str} {params : Arguments} {body : Expr} {scope : Scope} {dV doc pm ctv : Value} {bs : List (Str × Value)} {F0 Z0 : Hp} {ρ0 : List Addr} {μ0 : Mem} {δ : FL.Loc} {m : ME} (I : Inv X pins σ H s) (S : SimX X Z0 F0 ρ0 μ0 δ σ H) (L : LmS X.N X.env.scope scope) (hN : X.N.Nodup)
    (eq : X.env.qual ++ "<lambda>" = q)
    (hf : s.heap.get? f = some (PySem.W.kdv_obj "<lambda>" q params (.expr body) scope (cloFrom X.env.cells scope.names []) dV doc pm c' ctv)) (hfn : H f = none) (hfr : f ∉ frs X.stack) (hco : F0 c' = some (CodeO c' q))
    (hbind : ∀ s1 : Shared, Un (frs X.stack) [] H H s.heap s.heap → (∀ b o, s.heap.get? b = some o → H b = none → b ∉ frs X.stack → s1.heap.get? b = some o) → BindsTo s1 (PySem.W.kdv_fn "<lambda>" q params (.expr body) scope (cloFrom X.env.cells scope.names []) dV doc pm (.ref c') ctv) ⟨[], []⟩ bs)
    (hloc : ∀ y ∈ bs, scope.names.lookup y.1 = some .local)
    (hbody : ∀ (A : Around) (outer : List Env) (s : Shared) (H : Hp) (E : XK), Cs (lamCx X A outer s H E scope f c') (lamW E) k X.N scope → JE (lamCx X A outer s H E scope f c') (lamW E) body m) :
    Act X.prog X.w X.K X.mg X.base (k + 1) X.stack f F0 ρ0 (actOf m δ) s H := by
  subst eq
  refine ⟨⟨⟨_, _, _, _, hf⟩, hfn, hfr⟩, fun A outer s1 HZ Q E Z F ρ μ hr e0 un l lr S1 fin => ?_⟩
  have kept : ∀ b o, s.heap.get? b = some o → H b = none → b ∉ frs X.stack → s1.heap.get? b = some o := fun b o e n hb => un.keep b o e n hb (by simp)
  have of1 := kept f _ hf hfn hfr
  have hc1 : HZ c' = some (CodeO c' (X.env.qual ++ "<lambda>")) := by
    rcases S1.le c' _ (l _ _ hco) with z | ⟨_, _, z, _⟩
    · exact z
    · unfold CodeO at z
      cases z
  obtain ⟨⟨oc, vs, t, hoc, hdc, hvc⟩, _, _⟩ := e0.hok c' _ hc1
  have lim : s1.heap.NoLimit := e0.mod.nolimit.keeps fun b o e => (e0.bs b o e).1
  refine PySem.W.kla_callFunE hr.r.depth of1 rfl L.co L.gen rfl ⟨c', oc, vs, t, rfl, hoc, hdc, hvc⟩ (hbind s1 (Un.kept fun _ _ z => z) kept _ _ _ _ ?_)
  refine wpAny_newFunctionEnv (fun y hy => (L.own y hy).1) hloc (fun h₁ hns hsb => ⟨lim.fresh _ hsb, ?_⟩) L.kind
  show codeAny _ _ (.expr body (lamEnv X scope s1.heap.objs.size f c')) _ _
  have kp : ∀ b o, s1.heap.get? b = some o → h₁.get? b = some o := fun b o e => hsb.extBut b o (Nat.ne_of_lt (Heap.lt_size e)) (Heap.get?_push_of_some _ e)
  have J : Inv (lamCx X A outer s1 HZ E scope f c') [] σ HZ { s1 with heap := h₁, toks := s1.toks + bs.length } := lm_start I L e0 hr.r.hd un hns kp
  have C : Cs (lamCx X A outer s1 HZ E scope f c') (lamW E) k X.N scope := ⟨rfl, hr.deeper _, takes_of rfl rfl rfl rfl, rfl, rfl, hN⟩
  refine PySem.W.kla_codeExpr (wpAny_mono ((hbody A outer s1 HZ E C).run [] _ σ HZ Q J ⟨Z, F, ρ, μ, hide δ, S.borrow S1 l lr, ?_⟩) (fun v s' hq => ?_) fun e s' hq => hq)
  · unfold actOf at fin
    cases em : m (hide δ) μ with
    | ok sl δ' μ' =>
      rw [em] at fin
      exact fun H' F' ρ' l2 lr2 S2 v vr => fin v H' F' ρ' l2 lr2 S2.drop vr.r
    | exc x δ' μ' =>
      rw [em] at fin
      exact fun c d H' F' ρ' l2 lr2 S2 er => fin c d H' F' ρ' l2 lr2 S2.drop er
    | bad => rw [em] at fin; exact fin
  · obtain ⟨w', H', J', rv, q⟩ := hq
    exact ⟨w', H', J'.os, J'.bare, J'.base, J'.hok, rv, q⟩
end
section
variable {X : Cx} {pins : List (Addr × Obj)} {σ : L2.St} {H Z F : Hp} {ρ : List Addr} {μ : Mem} {δ : FL.Loc} {s : Shared}
theorem nofr_of (I : Inv X pins σ H s) {f : Addr} (hf : s.heap.objs.size ≤ f) : f ∉ frs X.stack := fun z => by
  rcases List.mem_cons.mp (I.stkSub _ z) with e | e
  · have h1 := I.lt
    rw [← e] at h1
    exact absurd (Nat.lt_of_lt_of_le h1 hf) (Nat.lt_irrefl _)
  · exact I.nofs hf e
theorem lam_tail {j : Nat} {c P : Addr} {q : Str} {params : Arguments} {body : Expr} {scope : Scope} {dV : Value} {pos : Pos} {fl : Nat} {E : Value → Shared → Prop} {Q : Value → Shared → Prop} (I : Inv X pins σ H s) (S : SimX X Z F ρ μ δ σ H) (hj : μ[j]? = some (.tab P q))
    (TB : TabB X.base X.mg c P) (hcode : X.env.code = .ref c) (eq : X.env.qual ++ "<lambda>" = q) (hfree : ∀ y ∈ scope.names, y.2 = .free → ∃ c, X.env.cells.lookup y.1 = some c)
    (h : ∀ (f c' : Addr) (pm ctv doc : Value) (H1 F1 : Hp) (s' : Shared), Inv X pins σ H1 s' → Le Z F F1 → SimX X Z F1 ρ μ δ σ H1 → s'.heap.get? f = some (PySem.W.kdv_obj "<lambda>" q params (.expr body) scope (cloFrom X.env.cells scope.names []) dV doc pm c' ctv) → H1 f = none → f ∉ frs X.stack →
      F1 c' = some (CodeO c' q) → (∀ b o, H b = none → s.heap.get? b = some o → s'.heap.get? b = some o ∧ H1 b = none) → Q (.ref f) s') :
    wpAny (model X.prog X.w) X.A (makeTail "<lambda>" (X.env.qual ++ "<lambda>") params (.expr body) scope X.env dV .none none pos fl) Q E s := by
  subst eq
  obtain ⟨_, ps, hP, ht, ha⟩ := S.tabAt hj
  have bP : s.heap.BuiltinsAt X.mg P := TB.bm.keeps I.bk
  have hP' : s.heap.get? P = some { cls := .none, data := .fields ps } := I.hok P _ hP
  cases hc : codeAmong pos ps.toList with
  | none =>
    refine PySem.W.kdv_makeTail (mg := X.mg) (c := c) (P := P) (ps := ps) (closure_ok hfree) I.ok.glob (I.mod.glob.keeps I.bk) hcode (TB.code.keeps I.bk) hP' ht hc TB.gP bP fun c' ctv doc h' tk hx hge hlt hrec htb => ?_
    obtain ⟨c2, oc, vs, t, e2, hoc, hd, hv⟩ := hrec
    cases e2
    have hsz : s.heap.objs.size ≤ h'.objs.size := Nat.le_trans hge (Nat.le_of_lt hlt)
    have nC : H c' = none := I.hok.fresh hge
    have I1 := inv_table (t' := tk) (more := #[rawInt pos.line, rawInt pos.col, .ref c']) (h' := h'.push (PySem.W.kdv_obj "<lambda>" (X.env.qual ++ "<lambda>") params (.expr body) scope (cloFrom X.env.cells scope.names []) dV doc ((X.mg "__name__").getD .none) c' ctv)) I hP
      (fun b o hb e => Heap.get?_push_of_some _ (hx b o hb e)) (Heap.get?_push_of_some _ htb) hge ⟨oc, vs, t, Heap.get?_push_of_some _ hoc, hd, hv⟩
    obtain ⟨F1, l, hF, S1⟩ := S.tabNew (pos := pos) hj hP ht ha nC
    refine h h'.objs.size c' ((X.mg "__name__").getD .none) ctv doc _ F1 _ I1 l S1 (Heap.get?_push_size _ rfl) ?_ (nofr_of I hsz) hF fun b o n e => ⟨Heap.get?_push_of_some _ (hx b o (fun z => ?_) e), ?_⟩
    · have n1 : h'.objs.size ≠ c' := Nat.ne_of_gt hlt
      have n2 : h'.objs.size ≠ P := Nat.ne_of_gt (Nat.lt_of_lt_of_le (Heap.lt_size hP') hsz)
      rw [upd_ne n1, upd_ne n2]
      exact I.hok.fresh hsz
    · rw [z, hP] at n
      cases n
    · have m1 : b ≠ c' := Nat.ne_of_lt (Nat.lt_of_lt_of_le (Heap.lt_size e) hge)
      have m2 : b ≠ P := fun z => by
        rw [z, hP] at n
        cases n
      rw [upd_ne m1, upd_ne m2]
      exact n
  | some cv =>
    obtain ⟨c', e, hco⟩ := ha pos cv hc
    subst e
    refine PySem.W.kdv_makeTailHit (mg := X.mg) (c := c) (P := P) (ps := ps) (closure_ok hfree) I.ok.glob (I.mod.glob.keeps I.bk) hcode (TB.code.keeps I.bk) hP' ht hc bP fun ctv doc h' tk hx hsz => ?_
    have I1 : Inv X pins σ H { s with heap := h'.push (PySem.W.kdv_obj "<lambda>" (X.env.qual ++ "<lambda>") params (.expr body) scope (cloFrom X.env.cells scope.names []) dV doc ((X.mg "__name__").getD .none) c' ctv), toks := tk } := I.kept fun b o e => Heap.get?_push_of_some _ (hx b o e)
    exact h h'.objs.size c' ((X.mg "__name__").getD .none) ctv doc H F _ I1 .refl S (Heap.get?_push_size _ rfl) (I.hok.fresh hsz) (nofr_of I hsz) hco fun b o n e => ⟨Heap.get?_push_of_some _ (hx b o e), n⟩
end
structure Hlp (P : Program) (w : World) (K : PySem.W.Frag) (mg : Str → Option Value) (base : Heap) (k : Nat) (x : Str) (m : (Mem → OutF) → Mem → OutF) : Prop where
  ex : ∃ g : Addr, mg x = some (.ref g) ∧ PySem.W.keepIn K (.ref g) = true ∧
    ∀ (A : Around) (outer : List Env) (s : Shared) (H : Hp) (f : Addr) (Q : VK) (E : XK) (act : Mem → OutF) (Z F : Hp) (ρ : List Addr) (μ : Mem), RmG (k + 1) A → Env0 P w K mg base A outer s H → Sim K mg Z F ρ μ [] [] H → Act P w K mg base k outer f F ρ act s H →
      FinF K mg Z F ρ Q E (m act μ) → codeAny (model P w) A (.call (.ref g) ⟨[.ref f], []⟩) (CR (L2.CX P w) outer P w H s Q E) s
def mLam (h : (Mem → OutF) → Mem → OutF) (j : Nat) (P : Addr) (q : Str) (m : ME) : ME := fun δ μ => match μ[j]? with
  | some (.tab P' q') => if P' = P ∧ q' = q then (match h (actOf m δ) μ with
    | .ok s μ' => .ok s δ μ'
    | .exc x μ' => .exc x δ μ'
    | .bad => .bad) else .bad
  | _ => .bad
section
variable {X : Cx} {W : WX} {k : Nat} {N : List Str} {sc : Scope} {q : Str} {P : Addr}
theorem lam_call {pins : List (Addr × Obj)} {σ : L2.St} {H Z F : Hp} {ρ : List Addr} {μ : Mem} {δ : FL.Loc} {s : Shared} {kh : Nat} {f c' : Addr} {params : Arguments} {body : Expr} {scope : Scope} {dV doc pm ctv : Value} {bs : List (Str × Value)} {h : (Mem → OutF) → Mem → OutF} {m : ME} {Q : VK} {g : Addr}
    (C : Cm X W k N sc q P) (hk : kh + 2 ≤ k) (hh : ∀ (A : Around) (outer : List Env) (s : Shared) (H : Hp) (f : Addr) (Q : VK) (E : XK) (act : Mem → OutF) (Z F : Hp) (ρ : List Addr) (μ : Mem), RmG (kh + 2) A → Env0 X.prog X.w X.K X.mg X.base A outer s H → Sim X.K X.mg Z F ρ μ [] [] H → Act X.prog X.w X.K X.mg X.base (kh + 1) outer f F ρ act s H →
      FinF X.K X.mg Z F ρ Q E (h act μ) → codeAny (model X.prog X.w) A (.call (.ref g) ⟨[.ref f], []⟩) (CR (L2.CX X.prog X.w) outer X.prog X.w H s Q E) s)
    (I : Inv X pins σ H s) (S : SimX X Z F ρ μ δ σ H) (L : LmS N sc scope)
    (hf : s.heap.get? f = some (PySem.W.kdv_obj "<lambda>" q params (.expr body) scope (cloFrom X.env.cells scope.names []) dV doc pm c' ctv)) (hfn : H f = none) (hfr : f ∉ frs X.stack) (hco : F c' = some (CodeO c' q))
    (hbind : ∀ s1 : Shared, (∀ b o, s.heap.get? b = some o → H b = none → b ∉ frs X.stack → s1.heap.get? b = some o) → BindsTo s1 (PySem.W.kdv_fn "<lambda>" q params (.expr body) scope (cloFrom X.env.cells scope.names []) dV doc pm (.ref c') ctv) ⟨[], []⟩ bs)
    (hloc : ∀ y ∈ bs, scope.names.lookup y.1 = some .local)
    (hbody : ∀ (Y : Cx) (V : WX), Y.prog = X.prog → Y.w = X.w → Y.K = X.K → Y.mg = X.mg → Y.base = X.base → Cs Y V kh N scope → JE Y V body m)
    (hq : FinE X W Z F ρ σ (fun s δ' _ F' ρ' H' => ∀ v, VR X.K X.mg Z F' ρ' δ' σ H' v s → Q v H') (match h (actOf m δ) μ with
      | .ok s μ' => .ok s δ μ'
      | .exc x μ' => .exc x δ μ'
      | .bad => .bad)) :
    wpAny (model X.prog X.w) X.A (call (.ref g) [.ref f]) (EP X pins σ Q) X.xe s := by
  have eN := C.hN
  have eS := C.hsc
  have act : Act X.prog X.w X.K X.mg X.base (kh + 1) X.stack f F ρ (actOf m δ) s H := act_ok I S (by rw [eN, eS]; exact L) (by rw [eN]; exact C.nd) C.qual hf hfn hfr hco (fun s1 _ kp => hbind s1 kp) hloc
    fun A outer s H E C2 => hbody _ _ rfl rfl rfl rfl rfl (by rw [eN] at C2; exact C2)
  have S0 := S.enter
  refine wpAny_call (codeAny_mono (hh X.A X.stack s H f Q (WE W σ) (actOf m δ) (zone Z H δ σ) F ρ μ (C.rm.mono hk) I.env0 S0 act ?_) fun res s' hr => ?_)
  · revert hq
    generalize h (actOf m δ) μ = o
    intro hq
    cases o with
    | ok sl μ2 => exact fun v H' F' ρ' l lr S' rv => hq H' F' ρ' (S.leLeave l) (S.leRLeave lr) (S.leave S' l lr) v (S.came rv)
    | exc x μ2 => exact fun c d H' F' ρ' l lr S' er => hq c d H' F' ρ' (S.leLeave l) (S.leRLeave lr) (S.leave S' l lr) er
    | bad => exact hq
  · cases res with
    | error e => exact passAt C.tk σ pins H s e s' I hr
    | ok fl =>
      cases fl with
      | ret u => exact I.after hr
      | next => exact False.elim hr
      | brk => exact False.elim hr
      | cont => exact False.elim hr
end
section
variable {X : Cx} {W : WX} {k : Nat} {N : List Str} {sc : Scope} {q : Str} {P : Addr} {j kh : Nat} {x : Str} {params : Arguments} {body : Expr} {scope : Scope} {lpos p pos : Pos} {h : (Mem → OutF) → Mem → OutF} {m : ME}
theorem Cm.lam0 (C : Cm X W k N sc q P) (hH : Hlp X.prog X.w X.K X.mg X.base (kh + 1) x h) (hk : kh + 2 ≤ k) (hg : glC sc x = true) (L : lmSB N sc scope = true)
    (hbody : ∀ (Y : Cx) (V : WX), Y.prog = X.prog → Y.w = X.w → Y.K = X.K → Y.mg = X.mg → Y.base = X.base → Cs Y V kh N scope → JE Y V body m)
    (hdef : defaultsOf params X.env = ([], []) := by rfl)
    (hbind : ∀ (q : Str) (cl : List (Str × Addr)) (doc pm cv ctv : Value), bindArgs (PySem.W.kdv_fn "<lambda>" q params (.expr body) scope cl .none doc pm cv ctv) ⟨[], []⟩ = pure [] := by intro _ _ _ _ _ _; rfl) :
    JE X W (.Call (.Name x p) [.Lambda params body scope lpos] [] pos) (mLam h j P q m) := by
  refine ⟨fun pins s σ H Q I hr => ?_⟩
  obtain ⟨Z, F, ρ, μ, δ, S, fin⟩ := hr
  obtain ⟨g, hm, hkp, hh⟩ := hH.ex
  obtain ⟨g1, g2, g3⟩ := C.gl hg
  obtain ⟨c, hcode, TB⟩ := C.tab
  have LS := lmS_by L
  have LX : LmS N X.env.scope scope := by rw [C.hsc]; exact LS
  unfold mLam at fin
  cases ej : μ[j]? with
  | none => simp only [ej] at fin; exact fin.elim
  | some o =>
    cases o with
    | lst _ => simp only [ej] at fin; exact fin.elim
    | dct _ _ => simp only [ej] at fin; exact fin.elim
    | ins _ _ _ _ => simp only [ej] at fin; exact fin.elim
    | idc _ => simp only [ej] at fin; exact fin.elim
    | tab P' q' =>
      simp only [ej] at fin
      by_cases hPq : P' = P ∧ q' = q
      · rw [if_pos hPq] at fin
        obtain ⟨rfl, rfl⟩ := hPq
        refine wpAny_Call_Name_kw (ld_glob I g1 hm ?_ g2)
        refine PySem.W.callWith_K (h₀ := X.base) I.ok.mod.kin hkp ?_ (by rfl) (by rfl)
        show wpAny _ _ (spliced ((false, eval (.Lambda params body scope lpos) X.env) :: backTo pos (starEach [] X.env))) _ _ s
        refine Calls.spliced_cons (PySem.W.kla_eval hdef ?_)
        rw [makeFunction_eq]
        simp only [List.zip_nil_right, List.filterMap_nil, List.isEmpty_nil, if_true, pure_bind]
        refine lam_tail I S ej TB hcode C.qual (fun y hy => LX.has I.ok y hy) fun f c' pm ctv doc H1 F1 s' I1 l S1 hf hfn hfr hco _ => ?_
        exact Calls.spliced_nil ⟨I1.kIn, lam_call C hk hh I1 S1 LS hf hfn hfr hco (fun s1 _ => .of_eq (hbind _ _ _ _ _ _)) (fun y hy => nomatch hy) hbody (fin.mono l .refl)⟩
      · rw [if_neg hPq] at fin
        exact fin.elim
end
section
variable {K : PySem.W.Frag} {mg : Str → Option Value} {Z F F1 : Hp} {ρ ρ1 : List Addr} {μ : Mem} {δ : FL.Loc} {σ : L2.St} {H : Hp} {Q : VK} {E : XK}
theorem FinF.mono {r : OutF} (h : FinF K mg Z F ρ Q E r) (l : Le Z F F1) (lr : LeR Z ρ ρ1) : FinF K mg Z F1 ρ1 Q E r := by
  cases r with
  | ok s μ => exact fun v H' F' ρ' l' lr' S rv => h v H' F' ρ' (l.trans l') (lr.trans lr') S rv
  | exc x μ => exact fun c d H' F' ρ' l' lr' S er => h c d H' F' ρ' (l.trans l') (lr.trans lr') S er
  | bad => exact h
theorem fin_S {X : Cx} {W : WX} {r : OutS} (hW : ∀ c d σ' H', E c d H' → W c d σ' H') (h : FinF X.K X.mg Z F ρ Q E r.fin) : FinS X W Z F ρ { nx := fun _ H' => Q .non H', rt := Q } r := by
  cases r with
  | nx δ μ' => exact fun σ' H' F' ρ' l lr S' => h .non H' F' ρ' l lr S'.drop .non
  | rt s μ' => exact fun v H' F' ρ' l lr S' rv => h v H' F' ρ' l lr S' rv
  | bk δ μ' => exact h.elim
  | ct δ μ' => exact h.elim
  | exc x δ μ' => exact fun c d σ' H' F' ρ' l lr S' er => hW _ _ _ _ (h c d H' F' ρ' l lr S'.drop er)
  | bad => exact h
theorem Sim.frs (S : Sim K mg Z F ρ μ [] [] H) (hl : σ.length = δ.length) (h : ∀ (i : Nat) s, δ[i]? = some (some s) → ∃ d v, s = .fr d ∧ σ[i]? = some (some v) ∧ Rep K mg F ρ v d) : Sim K mg Z F ρ μ δ σ H := by
  refine ⟨S.le, S.zk, hl, fun i s e => ?_, fun i j p s s' e => ?_, S.mem, S.mlen, S.nod⟩
  · obtain ⟨d, v, rfl, ev, r⟩ := h i s e
    exact ⟨v, ev, r⟩
  · obtain ⟨d, v, z, _⟩ := h i _ e
    cases z
end
theorem fnG_l {P : Program} {w : World} {K : PySem.W.Frag} {mg : Str → Option Value} {base : Heap} {k n : Nat} {f c Pt : Addr} {x qual q : Str} {st : Stmt} {fd : FuncData} {N ps : List Str} {m : MS} {dV : Value} {sc : Scope} (Fz : FdL K x qual st f fd dV c) (TB : TabB base mg c Pt) (S : FnScope N ps sc) (hsc : defScope st = sc) (hn : ps.length = n)
    (hq : ∀ (L : Addr), (envOfC qual sc L f (.ref c)).qual ++ "<lambda>" = q)
    (hbody : ∀ (X : Cx) (W : WX), X.prog = P → X.w = w → X.K = K → X.mg = mg → X.base = base → Cm X W k N sc q Pt → JSs X W (defBody st) m) : FnG P w K mg base (L2.CX P w) (k + 1) f fd ps (spM K mg (mFn N.length m) n) := by
  subst hsc
  subst hn
  obtain ⟨oc, od, kV, doc, pm, an, ct, osl, rfl, lk, hcd⟩ := Fz.ex
  refine ⟨fun vs H Q E h => h.1, fun A outer s H args us vs Q E hr e0 hb r hsp => ?_⟩
  obtain ⟨hl, Z, F0, ρ, μ, ds, S0, rr, fin⟩ := hsp
  have inK : K.In s.heap := e0.mod.kin.keeps fun b o e => (e0.bs b o e).1
  have lim : s.heap.NoLimit := e0.mod.nolimit.keeps fun b o e => (e0.bs b o e).1
  refine codeAny_call_function hr.r.depth (inK _ _ lk) rfl S.co S.gen rfl (PySem.W.codeRec_of inK hcd) (hb _ _ _ _ ?_)
  refine wpAny_newFunctionEnv_cells S.kind (fun ⟨y, u⟩ hy => ?_) fun env eenv s1 xx => ?_
  · rcases S.par y (List.of_mem_zip hy).1 with z | z
    · exact Or.inl z
    · exact Or.inr ⟨z, PySem.W.cellsFrom_some _ _ _ (Or.inl z)⟩
  subst eenv
  refine ⟨lim.keeps xx.toInCall.keep, codeAny_func ?_⟩
  have ht := hbody (cxOf (L2.CX P w) P w K mg base N qual (defScope st) f (.ref c) A outer s H E) (lamW E) rfl rfl rfl rfl rfl ⟨⟨⟨rfl, hr.deeper _, takes_of rfl rfl rfl rfl, rfl, rfl, S.nd⟩, passes_of rfl, fun _ _ => rfl⟩, ⟨c, rfl, TB⟩, hq _⟩
  have I : Inv (cxOf (L2.CX P w) P w K mg base N qual (defScope st) f (.ref c) A outer s H E) [] (L2.start N vs) H s1 := inv_start S hr.r.hd e0 hl r xx
  refine wpAny_mono (ht.run [] s1 (L2.start N vs) H { nx := fun _ H' => Q .non H', rt := Q } I ⟨Z, F0, ρ, μ, _, S0.begin rr, fin_S (fun _ _ _ _ z => z) (mFn_eq ▸ fin)⟩) (fun fl s' hs => ?_) fun e s' hs => hs
  cases fl with
  | ret u =>
    obtain ⟨v, σ', H', J, rv, q⟩ := hs
    exact ⟨v, H', J.os, J.bare, J.base, J.hok, rv, q⟩
  | next =>
    obtain ⟨σ', H', J, q⟩ := hs
    exact ⟨.non, H', J.os, J.bare, J.base, J.hok, rfl, q⟩
  | brk =>
    obtain ⟨_, _, _, z⟩ := hs
    exact z.elim
  | cont =>
    obtain ⟨_, _, _, z⟩ := hs
    exact z.elim
def mDct0 : ME := fun δ μ => .ok (.own (.dct [] [])) δ μ
theorem je_dict0 {X : Cx} {W : WX} {pos : Pos} : JE X W (.Dict [] [] pos) mDct0 := by
  refine pe_dnewK.imp fun σ H Q ⟨Z, F, ρ, μ, δ, S, q⟩ p hp => ?_
  obtain ⟨n1, n2, n3, n4⟩ := S.notIn hp
  exact q _ F ρ .refl .refl (S.laid hp) _ ⟨⟨p, rfl, ⟨n1, n2, n3⟩, [], upd_same, rfl, .nil⟩, fun o p' z z2 => by cases z2; exact n4⟩
end FL
namespace FL
open PySem PySem.Spec PyProof.Rows L2 LamX
section
variable {X : Cx} {pins : List (Addr × Obj)} {σ : L2.St} {H : Hp} {s sI : Shared}
theorem errO_ok {P : Program} {w : World} {a : Addr} {cls : Value} {d : Option Addr} {oe : Obj} {vs : Array Value} {h : Heap} {H' : Hp} (he : h.get? a = some oe) (h1 : oe.cls = cls) (h2 : oe.dict = d) (h3 : oe.data = .fields vs) : ObjOk P w H' h a (ErrO a cls d) :=
  ⟨⟨oe, vs, he, h1, h2, h3⟩, ⟨oe, he⟩, fun g1 g2 ⟨o, ws, x1, x2, x3, x4⟩ st => ⟨o, ws, st _ x1, x2, x3, x4⟩⟩
theorem track {a : Addr} {cls : Value} {d : Option Addr} {oe : Obj} {vs : Array Value} (J : Inv X pins σ H s) (na : H a = none) (he : s.heap.get? a = some oe) (h1 : oe.cls = cls) (h2 : oe.dict = d) (h3 : oe.data = .fields vs) (n0 : X.s_0.heap.get? a = none) (nL : a ≠ X.env.locals)
    (np : ∀ p ∈ X.pn ++ pins, p.1 ≠ a) : Inv X pins σ (upd H a (ErrO a cls d)) s := by
  have off : ∀ b, b ≠ a → upd H a (ErrO a cls d) b = H b := fun b z => upd_ne z
  have had : ∀ {b o}, H b = some o → b ≠ a := fun {b o} q z => by
    rw [z, na] at q
    cases q
  have h0 : ∀ {b o}, X.s_0.heap.get? b = some o → b ≠ a := fun {b o} q z => by
    rw [z, n0] at q
    cases q
  refine ⟨J.ok, J.os, J.bare, ⟨J.base.keep, J.base.slot, fun b o e n hx => ?_, J.base.there, fun b xs e => ?_, fun b o u e => ?_, fun b ps e => ?_⟩, J.loc, J.cell, ?_, fun y c e => ?_, fun p hp => ?_, fun b o e => ?_, J.len⟩
  · rw [off b (h0 e)]
    exact J.base.free b o e n hx
  · have z := J.base.tups b xs e
    rw [off b (had z)]
    exact z
  · have z := J.base.frzs b o u e
    rw [off b (had z)]
    exact z
  · obtain ⟨more, z⟩ := J.base.tbls b ps e
    exact ⟨more, by rw [off b (had z)]; exact z⟩
  · rw [off _ (Ne.symm nL)]
    exact J.free
  · have ne : c ≠ a := fun z => by
      obtain ⟨v, o, q1, q2⟩ := J.cell y c e
      rw [z, he] at q1
      cases q1
      rw [h3] at q2
      cases q2
    rw [off c ne]
    exact J.freeC y c e
  · obtain ⟨q1, q2, q3⟩ := J.pin p hp
    exact ⟨q1, by rw [off _ (np p hp)]; exact q2, q3⟩
  · by_cases z : b = a
    · rw [z, upd_same] at e
      cases e
      rw [z]
      exact errO_ok he h1 h2 h3
    · rw [off b z] at e
      refine (J.hok b o e).stay (fun c v _ q => q) (fun c q => ?_) fun c xs q => ?_
      · rw [off c (had q)]
        exact q
      · rw [off c (had q)]
        exact q
end
structure ExcK (K : PySem.W.Frag) (C : Addr) : Prop where
  cl : (PySem.W.clsIn K C).isSome = true
  ga : PySem.W.findIn K (.ref C) "__getattribute__" = some (some (.builtin "BaseException.__getattribute__"))
  gt : PySem.W.findIn K (.ref C) "__getattr__" = some none
  sb : PySem.W.subIn K (.ref C) (.type "BaseException") = some true
  ca : PySem.W.findIn K (.ref C) "__class__" = some (some (.builtin "object.__class__"))
  sp : PySem.W.specialIn K (.builtin "object.__class__") "__get__" = some (some (.builtin "getset_descriptor.__get__"))
  tk : PySem.W.takesIn K (.builtin "object.__class__") = some true
  ob : PySem.W.mroIn K C (.type "object") = some true
def Isa (K : PySem.W.Frag) (mg : Str → Option Value) (isa : String → String → Option Bool) : Prop := ∀ c d b C D, isa c d = some b → mg (Str.ofString c) = some (.ref C) → mg (Str.ofString d) = some (.ref D) → ExcK K C ∧ PySem.W.kitOne K (.ref C) (.ref D) = some b
def rIsX (K : PySem.W.Frag) : List V → Hp → VK → Prop := fun xs H Q => ∃ (a C D dx : Addr) (fs : List (Str × V)) (b : Bool), xs = [.ref a, .ref D] ∧ H a = some (ErrO a (.ref C) (some dx)) ∧ Rd H dx (.xd fs) ∧ ExcK K C ∧ PySem.W.kitOne K (.ref C) (.ref D) = some b ∧ Q (.bl b) H
theorem call_isX {X : Cx} : CallR X (.builtin "isinstance") (rIsX X.K) := by
  intro pins s σ H xs us Q I r h
  obtain ⟨a, C, D, dx, fs, b, rfl, ha, hd, E, ko, q⟩ := h
  cases r with
  | cons rx rr =>
    cases rr with
    | cons rt rr =>
      cases rr
      cases rx
      cases rt
      obtain ⟨⟨oe, vs, h1, h2, h3, h4⟩, _, _⟩ := I.hok a _ ha
      have hx : ∃ od, s.heap.get? dx = some od := by
        rcases hd with hd | ⟨ob, hd⟩
        · obtain ⟨mA, hns, _⟩ := I.hok dx _ hd
          obtain ⟨o, es, ep, e, _⟩ := hns
          exact ⟨o, e⟩
        · exact ⟨_, (I.hok dx _ hd).1⟩
      obtain ⟨od, hod⟩ := hx
      have J : PySem.W.InstAt s.heap a oe C (some od) := by
        obtain ⟨oc, oo, oda, osl⟩ := oe
        dsimp only at h2 h3 h4
        subst h2 h3 h4
        exact ⟨h1, rfl, rfl, hod⟩
      exact PySem.W.kia_one (PySem.W.kitx_exc E.cl E.ga E.gt E.sb E.ca E.sp E.tk E.ob) I.kIn J ko (fun z => nomatch z) fun tk => ⟨.bl b, H, I.kept (t' := tk) fun _ _ z => z, rfl, q⟩
def gIsX (isa : String → String → Option Bool) : List D → Option FL.Slot
  | [.exn c _ _, .glo d] => (isa c d).map fun b => tb b
  | _ => none
theorem j_isX {X : Cx} {isa : String → String → Option Bool} (hi : Isa X.K X.mg isa) (hc : ∀ d b c, isa c d = some b → ∃ D, X.mg (Str.ofString d) = some (.ref D)) : RLJ X (rIsX X.K) (gIsX isa) := by
  intro Z F ρ μ δ σ H xs ds s Q S b e q
  unfold gIsX at e
  split at e
  · rename_i c at_ v d
    obtain ⟨k, e1, e2⟩ := Option.map_eq_some_iff.mp e
    subst e2
    obtain ⟨x, y, rfl, hx, hy⟩ := b.two
    obtain ⟨D, hD⟩ := hc _ _ _ e1
    have rx := hx.rep (fun o z => by cases o <;> cases z)
    have ry := hy.rep (fun o z => by cases o <;> cases z)
    cases rx with
    | exn h1 h2 h3 h4 =>
      cases ry with
      | glo g1 g2 =>
        rw [hD] at g1
        cases g1
        have ey : y = V.ref D := by
          cases y with
          | ref p => cases g2; rfl
          | non => cases g2
          | bl _ => cases g2
          | int _ => obtain ⟨_, z⟩ := g2; cases z
          | str _ => obtain ⟨_, z⟩ := g2; cases z
          | byt _ => obtain ⟨_, z⟩ := g2; cases z
          | flt _ => obtain ⟨_, z⟩ := g2; cases z
          | ty _ => cases g2
        subst ey
        obtain ⟨i1, i2⟩ := hi _ _ _ _ _ e1 h1 hD
        have hH : H _ = some _ := (S.le _ _ h3).elim (fun z => z) fun ⟨ob, kvs, z, _⟩ => by
          unfold ErrO at z
          cases z
        exact ⟨_, _, D, _, _, k, rfl, hH, S.rd h2, i1, i2, q _ H F .refl S ⟨.bl, fun o p z => by cases z⟩⟩
  · cases e
end FL
namespace FL
open PySem L2
theorem ofS_inj {a b : String} (h : Str.ofString a = Str.ofString b) : a = b := by
  rw [ofS_lit, ofS_lit] at h
  have e := toS_inj h
  unfold lit at e
  have e2 : a.toList = b.toList := by
    have inj : ∀ l m : List Char, l.map Char.toNat = m.map Char.toNat → l = m := by
      intro l
      induction l with
      | nil => intro m h; cases m with
        | nil => rfl
        | cons _ _ => cases h
      | cons c l ih =>
        intro m h
        cases m with
        | nil => cases h
        | cons d m =>
          rw [List.map_cons, List.map_cons] at h
          injection h with h1 h2
          rw [ih m h2, Char.ext (UInt32.toNat_inj.mp h1)]
    exact inj _ _ e
  exact String.toList_inj.mp e2
def getF : List String → List D → String → Option D
  | k :: ks, d :: ds, f => if k = f then some d else getF ks ds f
  | _, _, _ => none
def putNm : List String → String → List String
  | [], f => [f]
  | k :: ks, f => if k = f then k :: ks else k :: putNm ks f
def putVs : List String → List D → String → D → List D
  | [], _, _, d => [d]
  | k :: ks, x :: xs, f, d => if k = f then d :: xs else x :: putVs ks xs f d
  | _ :: _, [], _, _ => []
abbrev rowF (ks : List String) (vs : List V) : List (Str × V) := (ks.map Str.ofString).zip vs
section
variable {K : PySem.W.Frag} {mg : Str → Option Value} {Z F F' : Hp} {ρ ρ' : List Addr} {μ : Mem} {δ : FL.Loc} {σ : L2.St} {H H' : Hp}
theorem getF_row : ∀ {ks : List String} {vs : List V} {ds : List D} {f : String} {d : D}, RepL K mg F ρ vs ds → getF ks ds f = some d → ∃ v, (rowF ks vs).lookup (Str.ofString f) = some v ∧ Rep K mg F ρ v d
  | k :: ks, _, _, f, d, .cons (v := v) (vs := vs) h t, e => by
    unfold getF at e
    by_cases hk : k = f
    · rw [if_pos hk] at e
      cases e
      exact ⟨v, by simp [rowF, hk], h⟩
    · rw [if_neg hk] at e
      obtain ⟨w, e1, e2⟩ := getF_row t e
      refine ⟨w, ?_, e2⟩
      have : (Str.ofString f == Str.ofString k) = false := beq_eq_false_iff_ne.mpr fun z => hk (ofS_inj z).symm
      simp only [rowF, List.map_cons, List.zip_cons_cons, List.lookup_cons, this]
      exact e1
  | [], _, _, _, _, _, e => by cases e
  | _ :: _, _, _, _, _, .nil, e => by cases e
theorem getF_none : ∀ {ks : List String} {vs : List V} {ds : List D} {f : String}, RepL K mg F ρ vs ds → ks.length = vs.length → getF ks ds f = none → (rowF ks vs).lookup (Str.ofString f) = none
  | k :: ks, _, _, f, .cons (v := v) (vs := vs) h t, n, e => by
    unfold getF at e
    by_cases hk : k = f
    · rw [if_pos hk] at e; cases e
    · rw [if_neg hk] at e
      have : (Str.ofString f == Str.ofString k) = false := beq_eq_false_iff_ne.mpr fun z => hk (ofS_inj z).symm
      simp only [rowF, List.map_cons, List.zip_cons_cons, List.lookup_cons, this]
      exact getF_none t (by simpa using n) e
  | [], _, _, _, _, _, _ => by simp [rowF]
  | _ :: _, _, _, _, .nil, n, _ => by simp at n
theorem putF_row {v : V} {d : D} (hv : Rep K mg F ρ v d) : ∀ {ks : List String} {vs : List V} {ds : List D} {f : String}, RepL K mg F ρ vs ds → ks.length = vs.length →
    ∃ vs', putF (Str.ofString f) v (rowF ks vs) = rowF (putNm ks f) vs' ∧ (putNm ks f).length = vs'.length ∧ RepL K mg F ρ vs' (putVs ks ds f d)
  | [], _, _, f, .nil, _ => ⟨[v], rfl, rfl, .cons hv .nil⟩
  | [], _, _, f, .cons _ _, n => by simp at n
  | _ :: _, _, _, _, .nil, n => by simp at n
  | k :: ks, _, _, f, .cons (v := x) (vs := vs) (ds := ds) h t, n => by
    by_cases hk : k = f
    · subst hk
      exact ⟨v :: vs, by simp [putNm, putF, rowF], by simpa [putNm] using n, by simp only [putVs, if_true]; exact .cons hv t⟩
    · obtain ⟨vs', e1, e2, e3⟩ := putF_row hv (f := f) t (by simpa using n)
      have hne : ¬ Str.ofString k = Str.ofString f := fun z => hk (ofS_inj z)
      refine ⟨x :: vs', ?_, by simpa [putNm, hk] using e2, by simp only [putVs, hk, if_false]; exact .cons h e3⟩
      simp only [putNm, hk, if_false, rowF, List.map_cons, List.zip_cons_cons, putF, hne]
      rw [show (ks.map Str.ofString).zip vs = rowF ks vs from rfl, e1]
theorem Sim.newIns {x dx C : Addr} {c : String} (S : Sim K mg Z F ρ μ [] [] H) (hx : H x = none) (hd : H dx = none) (ne : dx ≠ x) (hc : mg (Str.ofString c) = some (.ref C)) :
    Sim K mg Z F (ρ ++ [x, dx]) (μ ++ [.ins c (μ.length + 1) [] [], .idc μ.length]) [] [] (upd (upd H dx (.own x)) x (.ins C dx [])) ∧ LeR Z ρ (ρ ++ [x, dx]) ∧ Rep K mg F (ρ ++ [x, dx]) (.ref x) (.obj μ.length) := by
  obtain ⟨x1, x2, x3, _⟩ := S.notIn hx
  obtain ⟨d1, d2, d3, _⟩ := S.notIn hd
  have S1 := S.laid (o := .own x) hd
  have hx1 : upd H dx (.own x) x = none := by rw [upd_ne (Ne.symm ne)]; exact hx
  have S2 := S1.laid (o := .ins C dx []) hx1
  have to : ∀ (k : Nat) p, ρ[k]? = some p → (ρ ++ [x, dx])[k]? = some p := fun k p e => by rw [List.getElem?_append_left (List.getElem?_eq_some_iff.mp e).1]; exact e
  have i0 : (ρ ++ [x, dx])[μ.length]? = some x := by rw [← S.mlen]; simp
  have i1 : (ρ ++ [x, dx])[μ.length + 1]? = some dx := by rw [← S.mlen]; simp
  refine ⟨⟨S2.le, S2.zk, rfl, fun i s e => by simp at e, fun i j p s s' e => by simp at e, fun j u e => ?_, by simp [S.mlen], ?_⟩, ⟨to, fun p hp => ?_⟩, .obj i0⟩
  · by_cases hj : j < μ.length
    · rw [List.getElem?_append_left hj] at e
      obtain ⟨a, ea, f1, f2, r⟩ := S2.mem j u e
      exact ⟨a, to j a ea, f1, f2, r.up (fun _ _ z => z) to rfl⟩
    · rw [List.getElem?_append_right (by omega)] at e
      have hj2 : j - μ.length = 0 ∨ j - μ.length = 1 := by
        have := (List.getElem?_eq_some_iff.mp e).1
        simp at this
        omega
      rcases hj2 with hj2 | hj2
      · rw [hj2] at e
        simp at e
        subst e
        have : j = μ.length := by omega
        subst this
        exact ⟨x, i0, x1, x2, C, dx, [], hc, i1, upd_same, rfl, .nil⟩
      · rw [hj2] at e
        simp at e
        subst e
        have : j = μ.length + 1 := by omega
        subst this
        exact ⟨dx, i1, d1, d2, x, i0, by rw [upd_ne ne, upd_same]⟩
  · rw [List.nodup_append]
    refine ⟨S.nod, by simp [Ne.symm ne], fun a ha b hb z => ?_⟩
    subst z
    rcases List.mem_cons.mp hb with z | z
    · subst z; exact x3 ha
    · rw [List.mem_singleton.mp z] at ha; exact d3 ha
  · rcases List.mem_append.mp hp with hp | hp
    · exact .inl hp
    · rcases List.mem_cons.mp hp with z | z
      · subst z; exact .inr x2
      · rw [List.mem_singleton.mp z]; exact .inr d2
end
end FL
namespace FL
open PySem PySem.Spec PyProof.Rows L2
def insOf (μ : Mem) : D → Option (String × List String × List D)
  | .ins c ks vs => some (c, ks, vs)
  | .obj k => match μ[k]? with
    | some (.ins c _ ks vs) => some (c, ks, vs)
    | _ => none
  | _ => none
def OR.self (δ : FL.Loc) : OR → Option D
  | .d x => some x
  | .i j => match δ[j]? with
    | some (some (.fr x)) => some x
    | _ => none
section
variable {K : PySem.W.Frag} {mg : Str → Option Value} {Z F F' : Hp} {ρ ρ' : List Addr} {μ : Mem} {δ : FL.Loc} {σ : L2.St} {H H' : Hp} {v : V} {d : D}
theorem OR.self_rep {r : OR} (S : Sim K mg Z F ρ μ δ σ H) (h : OrR K mg F ρ σ v r) (e : r.self δ = some d) : Rep K mg F ρ v d := by
  cases r with
  | d d' => cases e; exact h
  | i j =>
    have h' : σ[j]? = some (some v) := h
    have e : (match δ[j]? with | some (some (.fr x)) => some x | _ => none) = some d := e
    cases q : δ[j]? with
    | none => rw [q] at e; cases e
    | some o =>
      cases o with
      | none => rw [q] at e; cases e
      | some s =>
        cases s with
        | own o => rw [q] at e; cases e
        | fr d' =>
          rw [q] at e
          cases e
          obtain ⟨w, ew, r⟩ := S.slot j _ q
          rw [h'] at ew
          cases ew
          exact r
theorem ins_at {c : String} {ks : List String} {ds : List D} (S : Sim K mg Z F ρ μ δ σ H) (h : Rep K mg F ρ v d) (e : insOf μ d = some (c, ks, ds)) :
    ∃ p C dx vs, v = .ref p ∧ mg (Str.ofString c) = some (.ref C) ∧ H p = some (.ins C dx (rowF ks vs)) ∧ ks.length = vs.length ∧ RepL K mg F ρ vs ds := by
  cases h with
  | ins hc e1 e2 n r =>
    cases e
    exact ⟨_, _, _, _, rfl, hc, (S.le _ _ e1).elim (fun q => q) fun ⟨_, _, z, _⟩ => (nomatch z), n, r⟩
  | @obj k p hp =>
    have e : (match μ[k]? with | some (.ins c _ ks vs) => some (c, ks, vs) | _ => none) = some (c, ks, ds) := e
    cases q : μ[k]? with
    | none => rw [q] at e; cases e
    | some o =>
      cases o with
      | ins c' kd ks' vs' =>
        rw [q] at e
        cases e
        obtain ⟨a, ea, _, _, C, dx, vs, e1, e2, e3, n, r⟩ := S.mem k _ q
        rw [hp] at ea
        cases ea
        exact ⟨p, C, dx, vs, rfl, e1, e3, n, r⟩
      | _ => rw [q] at e; cases e
  | _ => cases e
end
def Att.isF : Att → Bool
  | .fld => true
  | _ => false
theorem Att.isF_eq {a : Att} (h : a.isF = true) : a = .fld := by cases a <;> first | rfl | cases h
def AttOk (K : PySem.W.Frag) (mg : Str → Option Value) (f : String) (C : Addr) : Att → Prop
  | .fld => NoAttr K C (Str.ofString f)
  | .con d => ∃ v u, Con K C (Str.ofString f) v u ∧ ∀ F ρ, Rep K mg F ρ v d
  | .no => True
def AttsOk (K : PySem.W.Frag) (mg : Str → Option Value) (at_ : String → String → Att) : Prop := ∀ c f C, at_ c f ≠ .no → mg (Str.ofString c) = some (.ref C) → Cls K C ∧ AttOk K mg f C (at_ c f)
def mAt (at_ : String → String → Att) (f : String) (o : Opn) : ME := fun δ μ => (o.ev δ μ).bind fun r δ1 μ1 => match (r.self δ1).bind (insOf μ1) with
  | some (c, ks, ds) => (match at_ c f with
    | .fld => lift ((getF ks ds f).map .fr) δ1 μ1
    | .con d => if getF ks ds f = none then .ok (.fr d) δ1 μ1 else .bad
    | .no => .bad)
  | none => .bad
section
variable {X : Cx} {W : WX} {k : Nat} {e o : Expr} {pos pos' : Pos} {oo : Opn} {f : String} {at_ : String → String → Att}
theorem VR.fr' {Z F : Hp} {ρ : List Addr} {δ : FL.Loc} {σ : L2.St} {H : Hp} {v : V} {d : D} (r : Rep X.K X.mg F ρ v d) : VR X.K X.mg Z F ρ δ σ H v (.fr d) := ⟨r, fun o p z => by cases z⟩
def tAt (K : PySem.W.Frag) (ta : TE) (f : Str) : TE := fun σ H Q => ta σ H fun x H1 => ∃ a C dx fs, x = .ref a ∧ H1 a = some (.ins C dx fs) ∧ Cls K C ∧ ((NoAttr K C f ∧ ∃ v, fs.lookup f = some v ∧ Q v H1) ∨ ∃ v u, Con K C f v u ∧ fs.lookup f = none ∧ Q v H1)
theorem pe_at {ta : TE} {f : Str} (he : PE X e ta) (hb : attributeBase e f X.env (eval e X.env) = eval e X.env) : PE X (.Attribute e f pos) (tAt X.K ta f) :=
  ⟨fun pins s σ H Q I h => attr_of hb (thn (he.run pins s σ H _ I h) fun u s1 ⟨x, H1, I1, rx, a, C, dx, fs, ex, ea, c, q⟩ => by
    subst ex
    obtain rfl : u = Value.ref a := rx
    rcases q with ⟨n, v, l, q⟩ | ⟨v, u0, k, l, q⟩
    · exact getattr_ok I1 ea c n l fun u' s2 I2 ru => ⟨v, H1, I2, ru, q⟩
    · exact getcon_ok I1 ea c k l fun s2 I2 => ⟨v, H1, I2, k.rel, q⟩)⟩
theorem je_at (AO : AttsOk X.K X.mg at_) (ho : JO X W o oo) (hb : attributeBase o (Str.ofString f) X.env (eval o X.env) = eval o X.env := by rfl) : JE X W (.Attribute o (Str.ofString f) pos) (mAt at_ f oo) := by
  refine (pe_at ho hb).imp fun σ H Q ⟨Z, F, ρ, μ, δ, S, q⟩ => ⟨Z, F, ρ, μ, δ, S, (FinE.bind q).imp fun r δ1 μ1 H1 F1 ρ1 l lr S1 ⟨_, _, _, p⟩ x hx => ?_⟩
  cases es : (r.self δ1).bind (insOf μ1) with
  | none => simp only [es] at p; exact p.elim
  | some t =>
    obtain ⟨c, ks, ds⟩ := t
    simp only [es] at p
    obtain ⟨d, e1, e2⟩ := Option.bind_eq_some_iff.mp es
    obtain ⟨a, C, dx, vs, rfl, hc, hH, n, rl⟩ := ins_at S1 (OR.self_rep S1 hx e1) e2
    have ao := AO c f C
    cases ea : at_ c f with
    | no => simp only [ea] at p; exact p.elim
    | fld =>
      simp only [ea] at p ao
      obtain ⟨cl, no⟩ := ao (fun z => nomatch z) hc
      unfold lift at p
      cases eg : getF ks ds f with
      | none => simp only [eg] at p; exact p.elim
      | some d' =>
        simp only [eg] at p
        obtain ⟨v, lv, rv⟩ := getF_row rl eg
        exact ⟨a, C, dx, _, rfl, hH, cl, .inl ⟨no, v, lv, p H1 F1 ρ1 .refl .refl S1 v (VR.fr' rv)⟩⟩
    | con d' =>
      simp only [ea] at p ao
      obtain ⟨cl, v, u, co, rv⟩ := ao (fun z => nomatch z) hc
      by_cases eg : getF ks ds f = none
      · rw [if_pos eg] at p
        exact ⟨a, C, dx, _, rfl, hH, cl, .inr ⟨v, u, co, getF_none rl n eg, p H1 F1 ρ1 .refl .refl S1 v (VR.fr' (rv F1 ρ1))⟩⟩
      · rw [if_neg eg] at p; exact p.elim
def mStF (at_ : String → String → Att) (f : String) (o : Opn) (m : ME) : MS := fun δ μ => (m δ μ).thn fun s δ1 μ1 => (o.ev δ1 μ1).thn fun r δ2 μ2 => match r.self δ2 with
  | some (.obj k) => (match μ2[k]? with
    | some (.ins c kd ks vs) => if (at_ c f).isF = true ∧ ks.length < 1000 then .nx δ2 (μ2.set k (.ins c kd (putNm ks f) (putVs ks vs f s.d))) else .bad
    | _ => .bad)
  | _ => .bad
theorem js_stF {m : ME} (AO : AttsOk X.K X.mg at_) (ho : JO X W o oo) (he : JE X W e m) (hs : swapsWith e (some (.Attribute o (Str.ofString f) pos')) pos.line X.env = pure false := by rfl) : JS X W (.Assign [.Attribute o (Str.ofString f) pos'] e pos) (mStF at_ f oo m) := by
  refine (ps_fld ho he.locked hs).imp fun D' σ H ⟨Z, F, ρ, μ, δ, S, q⟩ => ⟨Z, F, ρ, μ, δ, S, (FinS.thn q).imp fun s δ1 μ1 H1 F1 ρ1 l lr S1 ⟨_, p⟩ y hy => ?_⟩
  refine ⟨Z, F1, ρ1, μ1, δ1, S1, (FinS.thn p).imp fun r δ2 μ2 H2 F2 ρ2 l2 lr2 S2 ⟨_, p2⟩ x hx => ?_⟩
  have hy2 := hy.up l2.to lr2.to
  cases es : r.self δ2 with
  | none => simp only [es] at p2; exact p2.elim
  | some d =>
    cases d with
    | obj k =>
      simp only [es] at p2
      cases em : μ2[k]? with
      | none => simp only [em] at p2; exact p2.elim
      | some u =>
        cases u with
        | ins c kd ks vs =>
          simp only [em] at p2
          by_cases hc : (at_ c f).isF = true ∧ ks.length < 1000
          · rw [if_pos hc] at p2
            have hr := OR.self_rep S2 hx es
            cases hr with
            | obj hp =>
              obtain ⟨a, ea, f1, f2, C, dx, ws, e1, e2, e3, n, rl⟩ := S2.mem k _ em
              rw [hp] at ea
              cases ea
              have ao := AO c f C
              simp only [Att.isF_eq hc.1] at ao
              obtain ⟨cl, no⟩ := ao (fun z => nomatch z) e1
              obtain ⟨vs', g1, g2, g3⟩ := putF_row hy2 (f := f) rl n
              refine ⟨_, C, dx, _, rfl, e3, cl, no, ?_, ?_⟩
              · have : (rowF ks ws).length ≤ ks.length := by simp [rowF]; omega
                exact Nat.lt_of_le_of_lt this hc.2
              · rw [g1]
                exact p2.nx (S2.writeM em hp ⟨C, dx, vs', e1, e2, upd_same, g2, g3⟩)
          · rw [if_neg hc] at p2; exact p2.elim
        | _ => simp only [em] at p2; exact p2.elim
    | _ => simp only [es] at p2; exact p2.elim
end
section
variable {X : Cx} {W : WX} {k j n : Nat} {N : List Str} {sc : Scope} {e : Expr} {es : List Expr} {pos p : Pos} {f C : Addr} {fd : FuncData} {ps : List Str} {ds : List Value} {dvs : List V} {dds : List D} {m : MF} {x : Str}
def mkS0 (c : String) (mi : MF) : MF := fun ds μ => match mi (.obj μ.length :: ds) (μ ++ [.ins c (μ.length + 1) [] [], .idc μ.length]) with
  | .ok (.fr .non) μ' => OutF.ok (.fr (.obj μ.length)) μ'
  | .exc x μ' => .exc x μ'
  | _ => .bad
noncomputable def mkS (c : String) (mi : MF) : MF := Classical.choose (sealed (mkS0 c mi))
theorem mkS_eq {c : String} {mi : MF} {ds : List D} {μ : Mem} : mkS c mi ds μ = mkS0 c mi ds μ := congrFun (congrFun (Classical.choose_spec (sealed (mkS0 c mi))) ds) μ
end
section
variable {K : PySem.W.Frag} {mg : Str → Option Value} {H : Hp} {C x dx : Addr} {c : String} {mi : MF} {n : Nat} {vs : List V} {Q : VK} {E : XK}
theorem new_spS (hc : mg (Str.ofString c) = some (.ref C)) (hx : H x = none) (hd : H dx = none) (ne : dx ≠ x) (h : spM K mg (mkS c mi) n vs H Q E) :
    spM K mg mi (n + 1) (.ref x :: vs) (upd (upd H dx (.own x)) x (.ins C dx [])) (fun v H2 => v = .non ∧ Q (.ref x) H2) E := by
  obtain ⟨hl, Z, F, ρ, μ, ds, S, r, q⟩ := h
  obtain ⟨S2, lr, rp⟩ := S.newIns hx hd ne hc
  refine ⟨by rw [List.length_cons, hl], Z, F, _, _, .obj μ.length :: ds, S2, .cons rp (r.up (fun _ _ z => z) lr.to), ?_⟩
  rw [mkS_eq] at q
  unfold mkS0 at q
  generalize mi (.obj μ.length :: ds) (μ ++ [.ins c (μ.length + 1) [] [], .idc μ.length]) = o at q
  cases o with
  | bad => exact q
  | exc xx μ' => exact fun cv d H' F' ρ' l lr' S' er => q cv d H' F' ρ' l (lr.trans lr') S' er
  | ok s μ' =>
    cases s with
    | own o => exact q.elim
    | fr d =>
      cases d with
      | non =>
        intro v H' F' ρ' l lr' S' rv
        cases rv
        exact ⟨rfl, q (.ref x) H' F' ρ' l (lr.trans lr') S' (rp.up l.to lr'.to)⟩
      | _ => exact q.elim
end
section
variable {X : Cx} {W : WX} {k j n : Nat} {N : List Str} {sc : Scope} {e : Expr} {es : List Expr} {pos p : Pos} {f C : Addr} {fd : FuncData} {ps : List Str} {ds : List Value} {dvs : List V} {dds : List D} {m mi : MF} {x : Str} {c : String}
theorem RmG.make {A : Around} (r : RmG (k + 1) A) (C : Addr) (us : List Value) (kw : List (Str × Value)) : RmG k (A.under (.builtin "type.__call__" ⟨.ref C :: us, kw⟩)) :=
  ⟨r.r.make C us kw, by have := r.g; first | exact this | (simp [Around.under]; exact this)⟩
theorem run_makeG {pins : List (Addr × Obj)} {σ : L2.St} {H : Hp} {s : Shared} {Q : VK} {E : XK} {us : List Value} {vs : List V} (M : Mk X.K C f) (F : FnG X.prog X.w X.K X.mg X.base (L2.CX X.prog X.w) j f fd ps (spM X.K X.mg mi (n + 1))) (hr : RmG (j + 1) X.A) (hb : Binds X.K fd ps ds)
    (hd : Vals dvs ds) (hx : PassesAt (L2.CX X.prog X.w) X σ E) (I : Inv X pins σ H s) (r : Vals vs us)
    (h : ∀ xa dx, H xa = none → H dx = none → dx ≠ xa → spM X.K X.mg mi (n + 1) (.ref xa :: (vs ++ dvs)) (upd (upd H dx (.own xa)) xa (.ins C dx [])) (fun v H2 => v = .non ∧ Q (.ref xa) H2) E) :
    wpAny (model X.prog X.w) X.A (call (.ref C) us) (EP X pins σ Q) X.xe s := by
  have new := h (s.heap.objs.size + 1) s.heap.objs.size (I.hok.fresh (Nat.le_succ _)) (I.hok.fresh (Nat.le_refl _)) (Nat.ne_of_lt (Nat.lt_succ_self _))
  have J := Inv.made (C := C) I
  have rv : Vals (V.ref (s.heap.objs.size + 1) :: (vs ++ dvs)) (Value.ref (s.heap.objs.size + 1) :: (us ++ ds)) := .cons rfl (r.append hd)
  have many : (Value.ref (s.heap.objs.size + 1) :: us ++ ds).length = ps.length := (F.len _ _ _ _ new ▸ rv.length).symm
  refine wpAny_call (make_map (f := f) I.kIn M.makes M.init (beq_iff_eq.mp M.fn) (codeAny_mono (F.run _ X.stack _ _ ⟨Value.ref (s.heap.objs.size + 1) :: us, []⟩ _ _ _ E (hr.make C us []) (J.env0.make C us []) (hb _ (Value.ref (s.heap.objs.size + 1) :: us) J.kIn many) rv new) fun res t ht => ?_))
  match res, ht with
  | .error er, ht => exact hx pins _ _ er t J ht
  | .ok (.ret u), ht =>
    obtain ⟨v, H', I3, rvu, ev, q3⟩ := J.after ht
    cases ev
    exact ⟨rvu, V.ref (s.heap.objs.size + 1), H', I3, rfl, q3⟩
theorem CallD.mkS (hc : X.mg (Str.ofString c) = some (.ref C)) (M : Mk X.K C f) (F : FnG X.prog X.w X.K X.mg X.base (L2.CX X.prog X.w) j f fd ps (spM X.K X.mg mi (n + 1))) (hb : Binds X.K fd ps ds) (hd : Vals dvs ds) (hdd : ∀ F ρ, RepL X.K X.mg F ρ dvs dds) : CallD X (j + 1) C (FL.mkS c mi) n dds :=
  ⟨dvs, hdd, fun hr pins σ H s us vs Q E hx I r h => run_makeG M F hr hb hd hx I r fun xa dx h1 h2 h3 => new_spS hc h1 h2 h3 h⟩
end
end FL
namespace FL
open PySem PySem.Spec PyProof.Rows L2
theorem rep_nth {K : PySem.W.Frag} {mg : Str → Option Value} {F : Hp} {ρ : List Addr} : ∀ {vs : List V} {ds : List D}, RepL K mg F ρ vs ds → ∀ i : Nat, (vs[i]? = none ∧ ds[i]? = none) ∨ ∃ v d, vs[i]? = some v ∧ ds[i]? = some d ∧ Rep K mg F ρ v d
  | _, _, .nil, i => .inl ⟨rfl, rfl⟩
  | _, _, .cons h t, 0 => .inr ⟨_, _, rfl, rfl, h⟩
  | _, _, .cons h t, i + 1 => by simpa using rep_nth t i
theorem pickS_rep {K : PySem.W.Frag} {mg : Str → Option Value} {F : Hp} {ρ : List Addr} {vs dv zs : List V} {us dw ws : List D} (h1 : RepL K mg F ρ vs us) (h2 : RepL K mg F ρ dv dw) (h3 : RepL K mg F ρ zs ws) : ∀ sel : List Sel, RepL K mg F ρ (pickS sel vs dv zs) (pickS sel us dw ws)
  | [] => .nil
  | a :: sel => by
    have ih := pickS_rep h1 h2 h3 sel
    have q : (a.get vs dv zs = none ∧ a.get us dw ws = none) ∨ ∃ v u, a.get vs dv zs = some v ∧ a.get us dw ws = some u ∧ Rep K mg F ρ v u := by
      cases a with
      | pos i => exact rep_nth h1 i
      | key i => exact rep_nth h3 i
      | dfl i => exact rep_nth h2 i
    unfold pickS at ih ⊢
    rcases q with ⟨e1, e2⟩ | ⟨v, u, e1, e2, r⟩
    · rw [List.filterMap_cons_none e1, List.filterMap_cons_none e2]; exact ih
    · rw [List.filterMap_cons_some e1, List.filterMap_cons_some e2]; exact .cons r ih
def BindW1 (K : PySem.W.Frag) (fd : FuncData) (ps : List Str) (n : Nat) (ks : List Str) (sel : List Sel) (dw : List Value) : Prop :=
  ∀ (s : Shared) (x : Value) (us ws : List Value), K.In s.heap → us.length = n → ws.length = ks.length → BindsTo s fd ⟨x :: us, ks.zip ws⟩ (ps.zip (x :: pickS sel us dw ws))
section
variable {X : Cx} {W : WX} {k j n N : Nat} {e : Expr} {es : List Expr} {kws : List Keyword} {pos p : Pos} {f C a : Addr} {fd : FuncData} {ps ks : List Str} {ds : List Value} {dvs : List V} {dds : List D} {m mi : MF} {x : Str} {c : String} {sel : List Sel}
theorem run_makeW {pins : List (Addr × Obj)} {σ : L2.St} {H : Hp} {s : Shared} {Q : VK} {E : XK} {us ws : List Value} {vs zs : List V} (M : Mk X.K C f) (F : FnG X.prog X.w X.K X.mg X.base (L2.CX X.prog X.w) j f fd ps (spM X.K X.mg mi (N + 1))) (hr : RmG (j + 1) X.A)
    (hb : BindW1 X.K fd ps n ks sel ds) (hd : Vals dvs ds) (hx : PassesAt (L2.CX X.prog X.w) X σ E) (I : Inv X pins σ H s) (r : Vals vs us) (rz : Vals zs ws) (l1 : vs.length = n) (l2 : zs.length = ks.length)
    (h : ∀ xa dx, H xa = none → H dx = none → dx ≠ xa → spM X.K X.mg mi (N + 1) (.ref xa :: pickS sel vs dvs zs) (upd (upd H dx (.own xa)) xa (.ins C dx [])) (fun v H2 => v = .non ∧ Q (.ref xa) H2) E) :
    wpAny (model X.prog X.w) X.A (call (.ref C) us (ks.zip ws)) (EP X pins σ Q) X.xe s := by
  have new := h (s.heap.objs.size + 1) s.heap.objs.size (I.hok.fresh (Nat.le_succ _)) (I.hok.fresh (Nat.le_refl _)) (Nat.ne_of_lt (Nat.lt_succ_self _))
  have J := Inv.made (C := C) I
  have rv : Vals (V.ref (s.heap.objs.size + 1) :: pickS sel vs dvs zs) (Value.ref (s.heap.objs.size + 1) :: pickS sel us ds ws) := .cons rfl (pickS_vals r hd rz sel)
  have b := hb _ (Value.ref (s.heap.objs.size + 1)) us ws J.kIn (by rw [← r.length, l1]) (by rw [← rz.length, l2])
  refine wpAny_call (make_map (f := f) I.kIn M.makes M.init (beq_iff_eq.mp M.fn) (codeAny_mono (F.run _ X.stack _ _ ⟨Value.ref (s.heap.objs.size + 1) :: us, ks.zip ws⟩ _ _ _ E (hr.make C us (ks.zip ws)) (J.env0.make C us (ks.zip ws)) b rv new) fun res t ht => ?_))
  match res, ht with
  | .error er, ht => exact hx pins _ _ er t J ht
  | .ok (.ret u), ht =>
    obtain ⟨v, H', I3, rvu, ev, q3⟩ := J.after ht
    cases ev
    exact ⟨rvu, V.ref (s.heap.objs.size + 1), H', I3, rfl, q3⟩
theorem CallW.mkS (hc : X.mg (Str.ofString c) = some (.ref C)) (M : Mk X.K C f) (F : FnG X.prog X.w X.K X.mg X.base (L2.CX X.prog X.w) j f fd ps (spM X.K X.mg mi (N + 1))) (hb : BindW1 X.K fd ps n ks sel ds) (hd : Vals dvs ds) (hdd : ∀ F ρ, RepL X.K X.mg F ρ dvs dds)
    (len : ∀ {α : Type} (vs ds zs : List α), vs.length = n → ds.length = dds.length → zs.length = ks.length → (pickS sel vs ds zs).length = N) : CallW X (j + 1) C n ks sel (FL.mkS c mi) N dds :=
  ⟨M.kp, len, dvs, hdd, fun hr pins σ H s us ws vs zs Q E hx I r rz l1 l2 h => run_makeW M F hr hb hd hx I r rz l1 l2 fun xa dx h1 h2 h3 => new_spS hc h1 h2 h3 h⟩
def tCallW (sp : Sp) (n l : Nat) (sel : List Sel) (dvs : List V) (E : L2.St → XK) (t tk : TA) : TE := fun σ H Q => t σ H fun vs H1 => tk σ H1 fun zs H2 => vs.length = n ∧ zs.length = l ∧ sp (pickS sel vs dvs zs) H2 Q (E σ)
theorem pe_callW {E : L2.St → XK} {t tk : TA} {sp : Sp} (hk : PySem.W.keepIn X.K (.ref a) = true) (hr : ∀ (pins : List (Addr × Obj)) (σ : L2.St) (H : Hp) (s : Shared) (us ws : List Value) (vs zs : List V) (Q : VK) (E : XK), PassesAt (L2.CX X.prog X.w) X σ E → Inv X pins σ H s → Vals vs us → Vals zs ws → vs.length = n → zs.length = ks.length →
      sp (pickS sel vs dvs zs) H Q E → wpAny (model X.prog X.w) X.A (call (.ref a) us (ks.zip ws)) (EP X pins σ Q) X.xe s)
    (hg : Gl X x) (hm : X.mg x = some (.ref a)) (hx : ∀ σ, PassesAt (L2.CX X.prog X.w) X σ (E σ)) (ha : PA X (e :: es) t) (hkw : PK X kws tk) (hdb : (x == ("__debug__" : Str)) = false)
    (hall : (backToKw pos (keywordEach kws X.env)).all (·.1.isSome) = true) (hks : (backToKw pos (keywordEach kws X.env)).filterMap (·.1) = ks)
    (he : starEach (e :: es) X.env = (false, eval e X.env) :: starEach es X.env) (hpl : ((backTo pos (starEach (e :: es) X.env)).any (·.1) || (backToKw pos (keywordEach kws X.env)).any (·.1.isNone)) = false) :
    PE X (.Call (.Name x p) (e :: es) kws pos) (tCallW sp n ks.length sel dvs E t tk) := by
  refine ⟨fun pins s σ H Q I h => wpAny_Call_Name_kw (ld_glob I hg hm (PySem.W.callWith_KW (h₀ := X.base) I.ok.mod.kin hk hall (thn (ha.run pos pins s σ H _ I h) fun us s1 ⟨vs, H1, I1, r, q⟩ => thn (hkw.run pos pins s1 σ H1 _ I1 q) fun ws s2 ⟨zs, H2, I2, rz, l1, l2, q2⟩ => ⟨I2.kIn, ?_⟩) hpl he) hdb)⟩
  rw [hks]
  exact hr pins σ H2 s2 us ws vs zs Q _ (hx σ) I2 r rz l1 l2 q2
theorem pe_callW0 {E : L2.St → XK} {tk : TA} {sp : Sp} (hk : PySem.W.keepIn X.K (.ref a) = true) (hr : ∀ (pins : List (Addr × Obj)) (σ : L2.St) (H : Hp) (s : Shared) (us ws : List Value) (vs zs : List V) (Q : VK) (E : XK), PassesAt (L2.CX X.prog X.w) X σ E → Inv X pins σ H s → Vals vs us → Vals zs ws → vs.length = 0 → zs.length = ks.length →
      sp (pickS sel vs dvs zs) H Q E → wpAny (model X.prog X.w) X.A (call (.ref a) us (ks.zip ws)) (EP X pins σ Q) X.xe s)
    (hg : Gl X x) (hm : X.mg x = some (.ref a)) (hx : ∀ σ, PassesAt (L2.CX X.prog X.w) X σ (E σ)) (hkw : PK X kws tk) (hdb : (x == ("__debug__" : Str)) = false)
    (hall : (backToKw pos (keywordEach kws X.env)).all (·.1.isSome) = true) (hks : (backToKw pos (keywordEach kws X.env)).filterMap (·.1) = ks)
    (hpl : ((backTo pos (starEach [] X.env)).any (·.1) || (backToKw pos (keywordEach kws X.env)).any (·.1.isNone)) = false) :
    PE X (.Call (.Name x p) [] kws pos) (tCallW sp 0 ks.length sel dvs E tNil tk) := by
  refine ⟨fun pins s σ H Q I h => wpAny_Call_Name_kw (ld_glob I hg hm (PySem.W.callWith_KW0 (h₀ := X.base) I.ok.mod.kin hk hall (thn (hkw.run pos pins s σ H _ I h) fun ws s2 ⟨zs, H2, I2, rz, _, l2, q2⟩ => ⟨I2.kIn, ?_⟩) hpl) hdb)⟩
  rw [hks]
  exact hr pins σ H2 s2 [] ws [] zs Q _ (hx σ) I2 .nil rz rfl l2 q2
abbrev JK (X : Cx) (W : WX) (kws : List Keyword) (ms : List ME) : Prop := PK X kws (rdA X W ms)
theorem pk_imp {t t' : TA} (h : PK X kws t) (i : ∀ σ H Q, t' σ H Q → t σ H Q) : PK X kws t' := ⟨fun pos pins s σ H Q I q => h.run pos pins s σ H Q I (i σ H Q q)⟩
theorem jk_nil : JK X W [] [] := pk_imp pk_nil fun σ H Q ⟨Z, F, ρ, μ, δ, S, q⟩ => q H F ρ .refl .refl S [] .nil
theorem jk_cons {nm : Option Str} {kpos : Pos} {m : ME} {ms : List ME} (h : JE X W e m) (t : JK X W kws ms) : JK X W (⟨nm, e, kpos⟩ :: kws) (m :: ms) := by
  refine pk_imp (pk_cons h.locked t) fun σ H Q ⟨Z, F, ρ, μ, δ, S, q⟩ => ?_
  have q' : FinE X W Z F ρ σ (fun ds _ _ F' ρ' H' => ∀ vs, RepL X.K X.mg F' ρ' vs ds → Q vs H') ((m δ μ).bind fun s δ1 μ1 => (evA ms δ1 μ1).bind fun ds δ2 μ2 => .ok (s.d :: ds) δ2 μ2) := q
  refine ⟨Z, F, ρ, μ, δ, S, q'.bind.imp fun s δ1 μ1 H1 F1 ρ1 l lr S1 ⟨_, _, _, z⟩ v hv => ?_⟩
  refine ⟨Z, F1, ρ1, μ1, δ1, S1, z.bind.imp fun ds δ2 μ2 H2 F2 ρ2 l2 lr2 S2 ⟨_, _, _, z2⟩ vs hvs => ?_⟩
  exact z2 H2 F2 ρ2 .refl .refl S2 (v :: vs) (.cons (hv.up l2.to lr2.to) hvs)
def mCallK (m : MF) (sel : List Sel) (ms mks : List ME) (dds : List D) : ME := fun δ μ => (evA ms δ μ).bind fun ds δ1 μ1 => (evA mks δ1 μ1).bind fun zs δ2 μ2 => match m (pickS sel ds dds zs) μ2 with
  | .ok s μ3 => .ok s δ2 μ3
  | .exc x μ3 => .exc x δ2 μ3
  | .bad => .bad
theorem callW_read {ms mks : List ME} (hdd : ∀ F ρ, RepL X.K X.mg F ρ dvs dds) (len : ∀ {α : Type} (vs ds zs : List α), vs.length = n → ds.length = dds.length → zs.length = ks.length → (pickS sel vs ds zs).length = N) (h1 : ms.length = n) (h2 : mks.length = ks.length) :
    ∀ σ H Q, rdE X W (mCallK m sel ms mks dds) σ H Q → tCallW (spM X.K X.mg m N) n ks.length sel dvs (WE W) (rdA X W ms) (rdA X W mks) σ H Q := by
  intro σ H Q ⟨Z, F, ρ, μ, δ, S, q⟩
  refine ⟨Z, F, ρ, μ, δ, S, ?_⟩
  unfold mCallK at q
  cases ea : evA ms δ μ with
  | bad => rw [ea] at q; exact q
  | exc x δ1 μ1 => rw [ea] at q; exact q
  | ok ds δ1 μ1 =>
    rw [ea, Out.bind_ok] at q
    intro H1 F1 ρ1 l1 lr1 S1 vs hv
    refine ⟨Z, F1, ρ1, μ1, δ1, S1, ?_⟩
    cases eb : evA mks δ1 μ1 with
    | bad => rw [eb] at q; exact q
    | exc x δ2 μ2 => rw [eb] at q; exact q.mono l1 lr1
    | ok zs δ2 μ2 =>
      rw [eb, Out.bind_ok] at q
      intro H2 F2 ρ2 l2 lr2 S2 ws hw
      have q2 := (q.mono l1 lr1).mono l2 lr2
      have hv2 := hv.up l2.to lr2.to
      have l3 : vs.length = n := by rw [hv2.len, ← evA_len ea, h1]
      have l4 : ws.length = ks.length := by rw [hw.len, ← evA_len eb, h2]
      have hp := pickS_rep hv2 (hdd F2 ρ2) hw sel
      refine ⟨l3, l4, len vs dvs ws l3 (hdd F2 ρ2).len l4, zone Z H2 δ2 σ, F2, ρ2, μ2, pickS sel ds dds zs, S2.enter, hp, ?_⟩
      generalize m (pickS sel ds dds zs) μ2 = o at q2
      cases o with
      | ok s μ3 => exact fun v H' F' ρ' l lr S' rv => q2 H' F' ρ' (S2.leLeave l) (S2.leRLeave lr) (S2.leave S' l lr) v (S2.came rv)
      | exc x μ3 => exact fun c d H' F' ρ' l lr S' er => q2 c d H' F' ρ' (S2.leLeave l) (S2.leRLeave lr) (S2.leave S' l lr) er
      | bad => exact q2
theorem je_callW {sc : Scope} {nm : List Str} {ms mks : List ME} (Cc : Cs X W k nm sc) (F : CallW X j a n ks sel m N dds) (hm : X.mg x = some (.ref a)) (hjk : j ≤ k) (hg : glC sc x = true) (ha : JA X W (e :: es) ms) (hkw : JK X W kws mks) (h1 : ms.length = n) (h2 : mks.length = ks.length)
    (hall : (backToKw pos (keywordEach kws X.env)).all (·.1.isSome) = true := by rfl) (hks : (backToKw pos (keywordEach kws X.env)).filterMap (·.1) = ks := by rfl)
    (he : starEach (e :: es) X.env = (false, eval e X.env) :: starEach es X.env := by rfl) (hpl : ((backTo pos (starEach (e :: es) X.env)).any (·.1) || (backToKw pos (keywordEach kws X.env)).any (·.1.isNone)) = false := by rfl) :
    JE X W (.Call (.Name x p) (e :: es) kws pos) (mCallK m sel ms mks dds) := by
  obtain ⟨dvs, hdd, run⟩ := F.ex
  obtain ⟨g1, g2, g3⟩ := Cc.gl hg
  exact (pe_callW F.kp (run (Cc.rm.mono hjk)) g1 hm (passAt Cc.tk) ha hkw g2 hall hks he hpl).imp (callW_read hdd F.len h1 h2)
theorem je_callW0 {sc : Scope} {nm : List Str} {mks : List ME} (Cc : Cs X W k nm sc) (F : CallW X j a 0 ks sel m N dds) (hm : X.mg x = some (.ref a)) (hjk : j ≤ k) (hg : glC sc x = true) (hkw : JK X W kws mks) (h2 : mks.length = ks.length)
    (hall : (backToKw pos (keywordEach kws X.env)).all (·.1.isSome) = true := by rfl) (hks : (backToKw pos (keywordEach kws X.env)).filterMap (·.1) = ks := by rfl)
    (hpl : ((backTo pos (starEach [] X.env)).any (·.1) || (backToKw pos (keywordEach kws X.env)).any (·.1.isNone)) = false := by rfl) :
    JE X W (.Call (.Name x p) [] kws pos) (mCallK m sel [] mks dds) := by
  obtain ⟨dvs, hdd, run⟩ := F.ex
  obtain ⟨g1, g2, g3⟩ := Cc.gl hg
  refine (pe_callW0 F.kp (run (Cc.rm.mono hjk)) g1 hm (passAt Cc.tk) hkw g2 hall hks hpl).imp fun σ H Q h => ?_
  obtain ⟨Z, F', ρ, μ, δ, S, q⟩ := callW_read (W := W) (ms := []) hdd F.len rfl h2 σ H Q h
  exact q H F' ρ .refl .refl S [] .nil
end
end FL
namespace FL
open PySem PySem.Spec PyProof.Rows L2
theorem RmG.in1 {A : Around} {k : Nat} (r : RmG (k + 1) A) : RmG k A.in1 := ⟨r.r.in1, r.g⟩
def noX : XK := fun _ _ _ => False
section
variable {X : Cx} {W : WX} {k j n N : Nat} {e o : Expr} {es : List Expr} {kws : List Keyword} {pos p apos : Pos} {C g a dx q : Addr} {fd : FuncData} {ps : List Str} {fs : List (Str × V)} {f : Str} {sp : Sp} {nm : Str}
theorem getprop_G {pins : List (Addr × Obj)} {σ : L2.St} {H : Hp} {s : Shared} {Q : VK} {b : Bool} {E' : Value → Shared → Prop} (I : Inv X pins σ H s) (ea : H a = some (.ins C dx fs)) (c : Cls X.K C) (hp : PropOf X.K C f q g)
    (F : FnG X.prog X.w X.K X.mg X.base (L2.CX X.prog X.w) k g fd [nm] sp) (hr : RmG (k + 1) X.A) (hb : Binds X.K fd [nm] []) (h : sp [.ref a] H Q noX) : wpAny (model X.prog X.w) X.A (getAttr (.ref a) f b) (EP X pins σ Q) E' s := by
  obtain ⟨mA, O, _, _, _, _⟩ := ins_get I.hok ea
  obtain ⟨od, J, _⟩ := O.look
  obtain ⟨rest, rc⟩ := hp.rec_
  have I1 := I.tok (s.toks + 1)
  have hc : (PySem.W.clsIn X.K C).isSome = true := by
    obtain ⟨cd, e, _⟩ := PySem.W.any_some c.hd
    rw [e] <;> rfl
  refine PySem.W.get_bind I.kIn J (PySem.W.plainGet_of (c.get f)).1 (PySem.W.findObj_data hc hp.at_ hp.get hp.tak) (PySem.W.plainGet_of (c.get f)).2 (wpAny_call (PySem.W.prop_get (s := { s with toks := s.toks + 1 }) (K := X.K) I.kIn rc ?_))
  refine codeAny_mono (F.run X.A.in1 X.stack { s with toks := s.toks + 1 } H ⟨[.ref a], []⟩ [.ref a] [.ref a] Q noX hr.in1 I1.env0.in1 (hb _ [.ref a] I1.kIn rfl) (.cons rfl .nil) h) fun res t ht => ?_
  match res, ht with
  | .error er, ⟨_, _, _, _, _, _, _, _, _, _, _, _, z⟩ => exact z.elim
  | .ok (.ret u), ht =>
    obtain ⟨v, H', I3, rv, q3⟩ := I1.after ht
    show wpAny _ _ (handedOut u) _ _ _
    rw [PySem.W.handedOut_of (handed_of rv)]
    exact wpAny_pure ⟨v, H', I3, rv, q3⟩
def mProp (pt : String → String → Option MF) (f : String) (o : Opn) : ME := fun δ μ => (o.ev δ μ).bind fun r δ1 μ1 => match r.self δ1 with
  | some d => (match insOf μ1 d with
    | some (c, _, _) => (match pt c f with
      | some m => (match m [d] μ1 with
        | .ok s μ2 => .ok s δ1 μ2
        | _ => .bad)
      | none => .bad)
    | none => .bad)
  | none => .bad
def tPropG (X : Cx) (ta : TE) (f : Str) (k : Nat) : TE := fun σ H Q => ta σ H fun x H1 => ∃ a C dx fs p g fd nm sp, x = .ref a ∧ H1 a = some (.ins C dx fs) ∧ Cls X.K C ∧ PropOf X.K C f p g ∧ FnG X.prog X.w X.K X.mg X.base (L2.CX X.prog X.w) k g fd [nm] sp ∧ Binds X.K fd [nm] [] ∧ sp [.ref a] H1 Q noX
theorem pe_propG {ta : TE} (he : PE X e ta) (hr : RmG (k + 1) X.A) (hb : attributeBase e f X.env (eval e X.env) = eval e X.env) : PE X (.Attribute e f pos) (tPropG X ta f k) :=
  ⟨fun pins s σ H Q I h => attr_of hb (thn (he.run pins s σ H _ I h) fun u s1 ⟨x, H1, I1, rx, a, C, dx, fs, p, g, fd, nm, sp, ex, ea, c, hp, F, b, q⟩ => by
    subst ex
    obtain rfl : u = Value.ref a := rx
    exact getprop_G I1 ea c hp F hr b q)⟩
theorem prop_read {pt : String → String → Option MF} {f : String} {oo : Opn} (P : PropsOk X j pt) : ∀ σ H Q, rdE X W (mProp pt f oo) σ H Q → tPropG X (rdO X W oo) (Str.ofString f) j σ H Q := by
  intro σ H Q ⟨Z, F, ρ, μ, δ, S, q⟩
  refine ⟨Z, F, ρ, μ, δ, S, (FinE.bind q).imp fun r δ1 μ1 H1 F1 ρ1 l lr S1 ⟨_, _, _, z⟩ x hx => ?_⟩
  cases e1 : r.self δ1 with
  | none => simp only [e1] at z; exact z.elim
  | some d =>
    simp only [e1] at z
    cases e2 : insOf μ1 d with
    | none => simp only [e2] at z; exact z.elim
    | some t =>
      obtain ⟨c, ks, ds⟩ := t
      simp only [e2] at z
      cases e3 : pt c f with
      | none => simp only [e3] at z; exact z.elim
      | some m =>
        simp only [e3] at z
        have hr := OR.self_rep S1 hx e1
        obtain ⟨a, C, dx, vs, rfl, hc, hH, n, rl⟩ := ins_at S1 hr e2
        obtain ⟨cl, p, g, fd, nm, hp, G, b⟩ := P c f m e3 C hc
        refine ⟨a, C, dx, _, p, g, fd, nm, spM X.K X.mg m 1, rfl, hH, cl, hp, G, b, rfl, zone Z H1 δ1 σ, F1, ρ1, μ1, [d], S1.enter, .cons hr .nil, ?_⟩
        generalize m [d] μ1 = o at z
        cases o with
        | ok s μ2 => exact fun v H' F' ρ' l lr S' rv => z H' F' ρ' (S1.leLeave l) (S1.leRLeave lr) (S1.leave S' l lr) v (S1.came rv)
        | exc x μ2 => exact z.elim
        | bad => exact z.elim
theorem Cs.prop {sc : Scope} {nl : List Str} {pt : String → String → Option MF} {f : String} {oo : Opn} (Cc : Cs X W k nl sc) (P : PropsOk X j pt) (hjk : j + 1 ≤ k) (ho : JO X W o oo) (hb : attributeBase o (Str.ofString f) X.env (eval o X.env) = eval o X.env := by rfl) : JE X W (.Attribute o (Str.ofString f) pos) (mProp pt f oo) :=
  (pe_propG ho (Cc.rm.mono hjk) hb).imp (prop_read P)
end
end FL
namespace FL
open PySem PySem.Spec PyProof.Rows L2
section
variable {X : Cx} {W : WX} {k : Nat} {N : List Str} {sc : Scope} {e e' : Expr} {es : List Expr} {pos p : Pos} {o : Opn} {isa isb : String → String → Option Bool} {d : String} {D : Addr}
theorem glo_ref {F : Hp} {ρ : List Addr} {y : V} (hD : X.mg (Str.ofString d) = some (.ref D)) (h : Rep X.K X.mg F ρ y (.glo d)) : y = .ref D := by
  cases h with
  | glo g1 g2 =>
    rw [hD] at g1
    cases g1
    cases y with
    | ref p => cases g2; rfl
    | int _ => obtain ⟨_, z⟩ := g2; cases z
    | str _ => obtain ⟨_, z⟩ := g2; cases z
    | byt _ => obtain ⟨_, z⟩ := g2; cases z
    | flt _ => obtain ⟨_, z⟩ := g2; cases z
    | _ => cases g2
end
end FL
namespace FL
open PySem PySem.Spec PyProof.Rows L2
structure ClsScope (N ps : List Str) (sc : Scope) : Prop where
  kind : sc.kind = .function
  co : sc.isCoroutine = false
  gen : sc.isGenerator = false
  nd : N.Nodup
  pre : N.take ps.length = ps
  par : ∀ x ∈ ps, sc.names.lookup x = some .local
  nocell : ∀ y ∈ sc.names, y.2 ≠ .cell
  free : ∀ y ∈ sc.names, y.2 = .free → y.1 = "__class__"
  ls : sc.names.lookup ("super" : Str) = some .globalImplicit
  lc : sc.names.lookup ("__class__" : Str) = some .free
def clsX (P : Program) (w : World) (K : PySem.W.Frag) (mg : Str → Option Value) (base : Heap) (N : List Str) (qual : Str) (scope : Scope) (f : Addr) (cd : Value) (cc : Addr) (A : Around) (outer : List Env) (s : Shared) (H : Hp) (E : XK) : Cx where
  prog := P
  w := w
  K := K
  mg := mg
  base := base
  A := A.deeper (clsE qual scope s.heap.objs.size f cd cc)
  N := N
  s_0 := s
  H_0 := H
  env := clsE qual scope s.heap.objs.size f cd cc
  outer := outer
  stack := clsE qual scope s.heap.objs.size f cd cc :: outer
  ex := []
  calm := true
  fn := fun y => decide (y ≠ "__class__")
  pn := []
  xe := fun e s' => wpAny (model P w) (A.deeper (clsE qual scope s.heap.objs.size f cd cc)) (leaving (clsE qual scope s.heap.objs.size f cd cc) e) (fun _ s'' => L2.CX P w outer H s E e s'') (fun e' s'' => L2.CX P w outer H s E e' s'') s'
theorem clo_one {cc : Addr} {y : Str} {c : Addr} (e : ([(("__class__" : Str), cc)] : List (Str × Addr)).lookup y = some c) : y = "__class__" ∧ c = cc := by
  rw [List.lookup_cons] at e
  by_cases z : y = "__class__"
  · subst z
    simp at e
    exact ⟨rfl, e.symm⟩
  · rw [show (y == ("__class__" : Str)) = false by simpa using z] at e
    cases e
theorem cls_start {P : Program} {w : World} {K : PySem.W.Frag} {mg : Str → Option Value} {base : Heap} {N ps : List Str} {qual : Str} {scope : Scope} {f cc D : Addr} {cd : Value} {A : Around} {outer : List Env} {s : Shared} {H : Hp} {E : XK} {us : List Value} {vs : List V} {h₁ : Heap} {tk : Nat} {cl : Value} {cld : Option Addr} {csl : Array (Option Value)}
    (S : ClsScope N ps scope) (hd : A.handled = none) (e0 : Env0 P w K mg base A outer s H) (hcell : K.lookup cc = some ⟨cl, cld, .cell (some (.ref D)), csl⟩) (hl : vs.length = ps.length) (r : Vals vs us)
    (hns : h₁.Ns s.heap.objs.size fun y => (ps.zip us).reverse.lookup y) (kp : ∀ b o, s.heap.get? b = some o → h₁.get? b = some o) :
    Inv (clsX P w K mg base N qual scope f cd cc A outer s H E) [] (L2.start N vs) H { s with heap := h₁, toks := tk } := by
  have noA : ∀ b : Addr, b ∉ (clsX P w K mg base N qual scope f cd cc A outer s H E).ex := fun b z => absurd (show b ∈ ([] : List Addr) from z) (by simp)
  have hbase := e0.mod.kin _ _ hcell
  have hpl : ps.length ≤ N.length := by
    have q := congrArg List.length S.pre
    rw [List.length_take] at q
    omega
  refine ⟨⟨e0.mod, S.kind, rfl, rfl, Nat.le_refl _, fun y z c e1 e2 => ?_, fun y hy => ?_, fun y c z e => ?_, fun _ => hd, Around.frames_deeper e0.frames, .inr ⟨rfl, rfl⟩, fun b z => absurd z (noA b), e0.bs, e0.bsz, fun b _ _ => noA b, fun b z => absurd z (noA b), e0.funs, e0.frf⟩,
    rfl, e0.bare, Un.kept kp, ⟨_, hns, fun i y v e1 e2 e3 => ?_⟩, fun y c e => ?_, e0.hok.fresh (Nat.le_refl _), fun y c e => ?_, fun q hq => absurd (show q ∈ ([] : List (Addr × Obj)) from hq) (by simp), e0.hok.kept kp, ?_⟩
  · rw [(clo_one e1).1, (clo_one e2).1]
  · have hy : scope.names.lookup y = some .cell ∨ scope.names.lookup y = some .free := hy
    rcases hy with hy | hy
    · exact absurd rfl (S.nocell _ (PySem.mem_of_lookup hy))
    · have e : y = "__class__" := S.free _ (PySem.mem_of_lookup hy) rfl
      exact ⟨cc, by rw [e]; show ([(("__class__" : Str), cc)] : List (Str × Addr)).lookup ("__class__" : Str) = some cc; simp⟩
  · exact absurd (clo_one e).1 (of_decide_eq_true z)
  · have e1 : N[i]? = some y := e1
    unfold L2.start at e2
    by_cases h1 : i < vs.length
    · have hq : ps[i]? = some y := by
        rw [← S.pre, List.getElem?_take_of_lt (by omega)]
        exact e1
      rw [List.getElem?_append_left (by rw [List.length_map]; exact h1), List.getElem?_map] at e2
      have ha : vs[i]? = some v := by
        cases e : vs[i]? with
        | none => rw [e] at e2; cases e2
        | some a => rw [e] at e2; cases e2; rfl
      obtain ⟨u, hu, rv⟩ := r.get ha
      have ndP : ps.Nodup := by
        rw [← S.pre]
        exact S.nd.sublist (List.take_sublist _ _)
      exact ⟨u, rv, .inl ⟨S.par y (List.mem_of_getElem? hq), NdefX.zip_look ndP hq hu⟩⟩
    · rw [List.getElem?_append_right (by rw [List.length_map]; omega), List.getElem?_replicate] at e2
      split at e2 <;> cases e2
  · have e : ([(("__class__" : Str), cc)] : List (Str × Addr)).lookup y = some c := e
    rw [(clo_one e).2]
    exact ⟨_, _, kp _ _ (e0.bs _ _ hbase).1, rfl⟩
  · have e : ([(("__class__" : Str), cc)] : List (Str × Addr)).lookup y = some c := e
    rw [(clo_one e).2]
    exact (e0.bs _ _ hbase).2
  · unfold L2.start
    show _ = N.length
    rw [List.length_append, List.length_map, List.length_replicate]
    omega
structure PWb (X : Cx) (body rest : List Stmt) (t : TS) : Prop where
  run : ∀ (pins : List (Addr × Obj)) (s : Shared) (σ : L2.St) (H : Hp) (D : Ends), Inv X pins σ H s → t D σ H → _root_.PySem.wpAt (model X.prog X.w) X.A (.func body X.env) (execs rest X.env) (SP X pins D) X.xe s
structure PWs (X : Cx) (body : List Stmt) (st : Stmt) (t : TS) : Prop where
  run : ∀ (pins : List (Addr × Obj)) (s : Shared) (σ : L2.St) (H : Hp) (D : Ends), Inv X pins σ H s → t D σ H → _root_.PySem.wpAt (model X.prog X.w) X.A (.func body X.env) (exec st X.env) (SP X pins D) X.xe s
section
variable {X : Cx} {body rest : List Stmt} {st : Stmt} {t u : TS}
theorem pwb_of (h : PSs X rest t) : PWb X body rest t := ⟨fun pins s σ H D I q => wpAt_of_wpAny (h.run pins s σ H D I q)⟩
theorem pws_of (h : PS X st t) : PWs X body st t := ⟨fun pins s σ H D I q => wpAt_of_wpAny (h.run pins s σ H D I q)⟩
theorem pwb_cons (h1 : PWs X body st t) (h2 : PWb X body rest u) : PWb X body (st :: rest) (tSeq t u) := by
  refine ⟨fun pins s σ H D I h => ks_wpAt_execs_cons (ks_wpAt_mono (h1.run pins s σ H { D with nx := u D } I h) (fun f s1 q => ?_) fun _ _ z => z)⟩
  cases f with
  | next =>
    obtain ⟨σ', H', I', q⟩ := q
    exact h2.run pins s1 σ' H' D I' q
  | ret v => exact q
  | brk => exact q
  | cont => exact q
theorem PWb.imp (h : PWb X body rest t) (i : ∀ D σ H, u D σ H → t D σ H) : PWb X body rest u := ⟨fun pins s σ H D I q => h.run pins s σ H D I (i D σ H q)⟩
theorem PWs.imp (h : PWs X body st t) (i : ∀ D σ H, u D σ H → t D σ H) : PWs X body st u := ⟨fun pins s σ H D I q => h.run pins s σ H D I (i D σ H q)⟩
end
abbrev JWb (X : Cx) (W : WX) (body rest : List Stmt) (m : MS) : Prop := PWb X body rest (rdS X W m)
abbrev JWs (X : Cx) (W : WX) (body : List Stmt) (st : Stmt) (m : MS) : Prop := PWs X body st (rdS X W m)
section
variable {X : Cx} {W : WX} {body rest : List Stmt} {st : Stmt} {m n : MS}
theorem jwb_of (h : JSs X W rest m) : JWb X W body rest m := pwb_of h
theorem jws_of (h : JS X W st m) : JWs X W body st m := pws_of h
theorem jwb_cons (h : JWs X W body st m) (t : JWb X W body rest n) : JWb X W body (st :: rest) (mSeq m n) :=
  (pwb_cons h t).imp fun D σ H ⟨Z, F, ρ, μ, δ, S, q⟩ => ⟨Z, F, ρ, μ, δ, S, FinS.seq q⟩
end
theorem fnG_c {P : Program} {w : World} {K : PySem.W.Frag} {mg : Str → Option Value} {base : Heap} {k n : Nat} {f cda cc D : Addr} {x qual : Str} {st : Stmt} {fd : FuncData} {N ps : List Str} {m : MS} {dV : Value} (F : FdC K x qual st f fd dV cda cc D) (S : ClsScope N ps (defScope st)) (hn : ps.length = n)
    (hbody : ∀ (X : Cx) (W : WX), X.prog = P → X.w = w → X.K = K → X.mg = mg → X.base = base → Cd X W k N (defScope st) → CsK X f cda cc D st → JWb X W (defBody st) (defBody st) m) : FnG P w K mg base (L2.CX P w) (k + 1) f fd ps (spM K mg (mFn N.length m) n) := by
  subst hn
  obtain ⟨oc, od, kV, doc, pm, an, ct, osl, rfl, lk⟩ := F.ex
  obtain ⟨cl, cld, csl, hcell⟩ := F.cell
  refine ⟨fun vs H Q E h => h.1, fun A outer s H args us vs Q E hr e0 hb r hsp => ?_⟩
  obtain ⟨hl, Z, F0, ρ, μ, ds, S0, rd, q⟩ := hsp
  have inK : K.In s.heap := e0.mod.kin.keeps fun b o e => (e0.bs b o e).1
  have lim : s.heap.NoLimit := e0.mod.nolimit.keeps fun b o e => (e0.bs b o e).1
  refine PySem.ks_codeAny_call_defAt hr.r.depth (inK _ _ lk) rfl lim (PySem.W.codeRec_of inK F.cd) rfl hb S.nocell (fun y hy => S.par y.1 (List.of_mem_zip hy).1) (fun h₁ hns kp => ?_) S.co S.gen S.kind
  have I : Inv (clsX P w K mg base N qual (defScope st) f (.ref cda) cc A outer s H E) [] (L2.start N vs) H { s with heap := h₁, toks := s.toks + (ps.zip us).length } := cls_start S hr.r.hd e0 hcell hl r hns kp
  have C : Cd (clsX P w K mg base N qual (defScope st) f (.ref cda) cc A outer s H E) (fun c d _ H => E c d H) k N (defScope st) := by
    refine ⟨⟨rfl, hr.deeper _, takes_of rfl rfl rfl rfl, rfl, rfl, S.nd⟩, passes_of rfl, fun y hy => decide_eq_true fun z => ?_⟩
    subst z
    have hy : (defScope st).names.lookup ("__class__" : Str) = some .local ∨ (defScope st).names.lookup ("__class__" : Str) = some .cell := hy
    rw [S.lc] at hy
    rcases hy with hy | hy <;> cases hy
  have J := hbody _ _ rfl rfl rfl rfl rfl C ⟨_, x, qual, dV, F, rfl⟩
  rw [mFn_eq] at q
  refine ks_wpAt_mono (J.run [] _ (L2.start N vs) H { nx := fun _ H' => Q .non H', rt := Q } I ?_) (fun fl s' hs => ?_) fun e s' hs => hs
  · refine ⟨Z, F0, ρ, μ, _, S0.begin rd, ?_⟩
    generalize m (startD N.length ds) μ = o at q
    cases o with
    | nx δ μ' => exact fun σ' H' F' ρ' l lr S' => q .non H' F' ρ' l lr S'.drop .non
    | rt s μ' => exact fun v H' F' ρ' l lr S' rv => q v H' F' ρ' l lr S' rv
    | bk δ μ' => exact q.elim
    | ct δ μ' => exact q.elim
    | exc x δ μ' => exact fun c d σ' H' F' ρ' l lr S' er => q c d H' F' ρ' l lr S'.drop er
    | bad => exact q
  · cases fl with
    | ret u =>
      obtain ⟨v, σ', H', J, rv, q⟩ := hs
      exact ⟨v, H', J.os, J.bare, J.base, J.hok, rv, q⟩
    | next =>
      obtain ⟨σ', H', J, q⟩ := hs
      exact ⟨.non, H', J.os, J.bare, J.base, J.hok, rfl, q⟩
    | brk =>
      obtain ⟨_, _, _, z⟩ := hs
      exact z.elim
    | cont =>
      obtain ⟨_, _, _, z⟩ := hs
      exact z.elim
end FL
namespace FL
open PySem PySem.Spec PyProof.Rows L2
def mSuper (c : String) (mi : MF) (ms : List ME) : MS := fun (δ : FL.Loc) (μ : Mem) => match δ[0]? with
  | some (some (FL.Slot.fr d)) => (match insOf μ d with
    | some (c', _, _) => if c' = c then (evA ms δ μ).thn fun ds δ1 μ1 => (match mi (d :: ds) μ1 with
      | .ok _ μ2 => .nx δ1 μ2
      | .exc x μ2 => .exc x δ1 μ2
      | .bad => .bad) else .bad
    | none => .bad)
  | _ => .bad
section
variable {X : Cx} {W : WX} {k j N : Nat} {nl : List Str} {sc : Scope} {e : Expr} {es : List Expr} {q0 q1 q2 q4 q5 : Pos} {f cda cc D : Addr} {p0 : Str} {c m : String} {mi : MF} {ms : List ME} {body : List Stmt} {pl : Sem Bool}
theorem jws_super (C : Cd X W k nl sc) (T : SupT X f cda cc D p0) (G : SupG X j c m D mi N) (hjk : j ≤ k) (ha : JA X W (e :: es) ms) (hN : ms.length + 1 = N) (hm : (Str.ofString m == ("__class__" : Str)) = false)
    (ev : eval (.Call (.Attribute (.Call (.Name "super" q0) [] [] q1) (Str.ofString m) q2) (e :: es) [] q4) X.env = (do
      let ov ← attributeBase (.Call (.Name "super" q0) [] [] q1) (Str.ofString m) X.env (eval (.Call (.Name "super" q0) [] [] q1) X.env)
      standAt q2.atName
      let (f, first) ← holding [ov] (getMethod ov (Str.ofString m) pl)
      callWith q4 f first (backTo q4 (starEach (e :: es) X.env)) []))
    (sw : swapsWith (.Call (.Attribute (.Call (.Name "super" q0) [] [] q1) (Str.ofString m) q2) (e :: es) [] q4) none q5.line X.env = pure false)
    (he : starEach (e :: es) X.env = (false, eval e X.env) :: starEach es X.env) (hpl : (backTo q4 (starEach es X.env)).any (·.1) = false) :
    JWs X W body (.Expr (.Call (.Attribute (.Call (.Name "super" q0) [] [] q1) (Str.ofString m) q2) (e :: es) [] q4) q5) (mSuper c mi ms) := by
  obtain ⟨of, fd0, ar, lf, lfd, har, har2⟩ := T.lk
  obtain ⟨ccl, cdd, cvs, ccs, file, tf, hcode, hvs, hfile⟩ := T.code
  obtain ⟨cl, cld, csl, hcell⟩ := T.cell
  obtain ⟨cdD, hD⟩ := T.clsD
  refine ⟨fun pins s σ H E I ⟨Z, F, ρ, μ, δ, S, q0⟩ => ?_⟩
  unfold mSuper at q0
  obtain ⟨d, e0, q⟩ : ∃ d, δ[0]? = some (some (FL.Slot.fr d)) ∧ FinS X W Z F ρ E (match insOf μ d with
    | some (c', _, _) => if c' = c then (evA ms δ μ).thn fun ds δ1 μ1 => (match mi (d :: ds) μ1 with
      | .ok _ μ2 => .nx δ1 μ2
      | .exc x μ2 => .exc x δ1 μ2
      | .bad => .bad) else .bad
    | none => .bad) := by
    cases e0 : δ[0]? with
    | none => rw [e0] at q0; exact q0.elim
    | some o =>
      cases o with
      | none => rw [e0] at q0; exact q0.elim
      | some z =>
        cases z with
        | own _ => rw [e0] at q0; exact q0.elim
        | fr d => rw [e0] at q0; exact ⟨d, rfl, q0⟩
  cases ei : insOf μ d with
  | none => simp only [ei] at q; exact q.elim
  | some t =>
  obtain ⟨c', ks, ds0⟩ := t
  simp only [ei] at q
  by_cases hc' : c' = c
  case neg => rw [if_neg hc'] at q; exact q.elim
  rw [if_pos hc'] at q
  subst hc'
  obtain ⟨v0, es0, rep0⟩ := S.slot 0 _ e0
  have rep0 : Rep X.K X.mg F ρ v0 d := rep0
  obtain ⟨a, Ca, dx, vs, rfl, hmC, hHa, hks, rl⟩ := ins_at S rep0 ei
  obtain ⟨g, og, fdg, ps, ds, dvs, cdC, hcC, hal, lg, ogc, fing, hsub, Fg, hb⟩ := G Ca hmC
  obtain ⟨mA, O, _⟩ := ins_get I.hok hHa
  obtain ⟨od, J, _⟩ := O.look
  obtain ⟨mloc, hns, hlook⟩ := I.loc
  obtain ⟨u0, ru0, look0⟩ := hlook 0 p0 _ T.n0 es0 (.inl T.l0)
  cases ru0
  have gself : mloc p0 = some (.ref a) := by
    rcases look0 with ⟨_, z⟩ | ⟨z, _⟩
    · exact z
    · have z : X.env.scope.names.lookup p0 = some .cell ∨ X.env.scope.names.lookup p0 = some .free := z
      rw [T.l0] at z
      rcases z with z | z <;> cases z
  have kX := I.kIn
  have oD : ∃ o : Obj, X.K.lookup D = some o ∧ o.data = .cls cdD := by
    unfold PySem.W.clsIn at hD
    split at hD
    · rename_i ho
      cases hD
      exact ⟨_, ho, rfl⟩
    · cases hD
  have oC : ∃ o : Obj, X.K.lookup Ca = some o ∧ o.data = .cls cdC := by
    unfold PySem.W.clsIn at hcC
    split at hcC
    · rename_i ho
      cases hcC
      exact ⟨_, ho, rfl⟩
    · cases hcC
  obtain ⟨oD, hoD, hdD⟩ := oD
  obtain ⟨oC, hoC, hdC⟩ := oC
  have lcell : s.heap.IsCell cc (some (.ref D)) := ⟨_, kX _ _ hcell, rfl⟩
  obtain ⟨mb, hmb, hbb⟩ := I.mod.blt
  have kd := I.ok.kind
  refine ks_wpAt_Expr_any (ks_wpAt_MethodCall (pl := pl) ?_ ev) (by unfold interactive; simp [kd]) sw
  refine ks_wpAt_super_base T.ls T.lc hm T.func (kX _ _ lf) lfd har T.ecode (kX _ _ hcode) rfl hvs hfile T.top ?_
  refine PySem.W.ks_loadName_global kd T.ls (PySem.Calls.loadGlobal_builtin (mg := X.mg) (by rw [I.ok.glob]; exact I.mod.glob.keeps I.bk) T.sup (by rw [I.ok.blt]; exact hmb.keeps I.bk) ((hbb "super" (by decide)).trans PyProof.Rows.Boot.«super») ⟨rfl, ?_⟩)
  refine wpAny_loadName_free kd T.lc T.cells lcell ?_
  refine wpAny_loadName_local (m := mloc) kd (by rw [har2]; exact T.l0) hns (by rw [har2]; exact gself) ?_
  obtain ⟨hp, gg, dd, tt, os⟩ := s
  refine PySem.ks_wpAny_isType_cls (kX _ _ hoD) hdD ⟨rfl, ?_⟩
  refine PySem.ks_wpAny_call_super (kX _ _ hoD) hdD J.at_ J.cls (fun c z => by cases z) (PySem.W.looks_mroIn kX hsub) fun h2 hso k2 => ?_
  have KX2 : X.K.In h2 := kX.keeps k2
  have I2 : Inv X pins σ H ⟨h2, gg, dd, tt, os⟩ := I.kept (t' := tt) k2
  have hne : a ≠ Ca := fun z => by
    have y := kX _ _ hoC
    have y2 := J.at_
    rw [z] at y2
    have y3 := y2.symm.trans y
    have y4 := congrArg Obj.data (Option.some.inj y3)
    rw [hdC] at y4
    cases y4
  refine PySem.ks_wpAny_getMethod_super (x := a) (C := Ca) (D := D) (f := g) (of := og) hso (PySem.W.looks_opaque KX2 T.any) (l₀ := cdC.mro) (fun A Q E s k q => wpAny_bind ((PySem.W.looks_clsIn KX2 hcC) A _ E s k (wpAny_pure q))) rfl KX2 hal (KX2 _ _ lg) ogc hne hm ?_
  have I3 : Inv X ((h2.objs.size, PySem.W.methodObj (.ref g) (.ref a)) :: pins) σ H ⟨h2.push (PySem.W.methodObj (.ref g) (.ref a)), gg, dd, tt + 1, os⟩ :=
    ClX.pin_new (t' := tt + 1) I2 (fun _ _ z => Heap.get?_push_of_some _ z) (Nat.le_refl _) (Heap.get?_push_size h2 rfl) (fun v z => nomatch z)
  have hbase : X.base.get? h2.objs.size = none := ClX.base_none I2 (Nat.le_refl _)
  refine ClX.callwith_cm (X := X) (C := a) (g := g) I3 hbase fing (thn (ha.run q4 _ _ σ H (fun ws H2 => spM X.K X.mg mi N (.ref a :: ws) H2 (fun _ H3 => E.nx σ H3) (WE W σ)) I3 ?_) fun us s3 ⟨ws, H2, I4, rv, q2⟩ => ⟨⟨ClX.pin_at I4, I4.kIn⟩, ?_⟩) he hpl
  · refine ⟨Z, F, ρ, μ, δ, S, ?_⟩
    cases ea : evA ms δ μ with
    | bad => rw [ea] at q; exact q
    | exc x δ1 μ1 =>
      rw [ea] at q
      exact fun c d H' F' ρ' l lr S' er => q c d σ H' F' ρ' l lr S' er
    | ok us δ1 μ1 =>
      rw [ea] at q
      intro H1 F1 ρ1 l1 lr1 S1 ws hw
      have rep1 := rep0.up l1.to lr1.to
      have hl := hw.len
      have hl2 := evA_len ea
      refine ⟨by rw [List.length_cons, hl, ← hl2]; exact hN, zone Z H1 δ1 σ, F1, ρ1, μ1, d :: us, S1.enter, .cons rep1 hw, ?_⟩
      have q1 : FinS X W Z F ρ E (match mi (d :: us) μ1 with | .ok _ μ2 => .nx δ1 μ2 | .exc x μ2 => .exc x δ1 μ2 | .bad => .bad) := q
      have q2 := q1.mono l1 lr1
      generalize mi (d :: us) μ1 = o at q2
      cases o with
      | ok s μ3 => exact fun v H' F' ρ' l lr S' rv => q2 σ H' F' ρ' (S1.leLeave l) (S1.leRLeave lr) (S1.leave S' l lr)
      | exc x μ3 => exact fun c d H' F' ρ' l lr S' er => q2 c d σ H' F' ρ' (S1.leLeave l) (S1.leRLeave lr) (S1.leave S' l lr) er
      | bad => exact q2
  · have rv2 : Vals (V.ref a :: ws) (Value.ref a :: us) := .cons rfl rv
    have hr : RmG j X.A := C.rm.mono hjk
    have len2 : (Value.ref a :: us).length = ps.length := by rw [← rv2.length]; exact Fg.len _ _ _ _ q2
    have bb := hb s3 (Value.ref a :: us) I4.kIn (by rw [List.append_nil]; exact len2)
    rw [List.append_nil] at bb
    refine wpAny_call (PySem.W.method_call (ClX.pin_at I4) (codeAny_mono (Fg.run X.A X.stack s3 H2 ⟨.ref a :: us, []⟩ _ _ (fun _ H3 => E.nx σ H3) (WE W σ) hr I4.env0 bb rv2 q2) fun res t ht => ?_))
    match res, ht with
    | .error er, ht => exact passAt C.tk σ _ H2 s3 er t I4 ht
    | .ok (.ret u), ht =>
      obtain ⟨v, H', I5, rv5, q5⟩ := I4.after ht
      exact ⟨σ, H', ClX.unpin I5, q5⟩
end
end FL
namespace FL
open PySem PySem.Spec PyProof.Rows L2
theorem room_caller : RmG 200 callerA := ⟨⟨rfl, by decide, by decide⟩, rfl⟩
end FL
namespace FL
open PySem PySem.Spec PyProof.Rows L2 LamX
def Hid (h : Heap) (H : Hp) : Prop := ∀ p, H p ≠ none → (∃ o its n, h.get? p = some o ∧ o.data = .seq its n) ∨ h.get? p = some oTab
theorem hid_has {h : Heap} {H : Hp} (x : Hid h H) {p : Addr} {o : Obj} (e : h.get? p = some o) (n1 : ∀ its n, o.data ≠ .seq its n) (n2 : o.data ≠ .fields #[]) : (hidT h H).get? p = some o ∧ H p = none := by
  have n : H p = none := Classical.byContradiction fun z => by
    rcases x p z with ⟨o', its, n, e', d⟩ | e'
    · rw [e] at e'
      cases e'
      exact n1 _ _ d
    · rw [e] at e'
      cases e'
      exact n2 rfl
  exact ⟨hidT_get e n, n⟩
theorem hid_ns {h : Heap} {H : Hp} (x : Hid h H) {p : Addr} {f : Str → Option Value} : h.Ns p f → (hidT h H).Ns p f := fun ⟨o, es, ep, e, d, r⟩ =>
  ⟨o, es, ep, (hid_has x e (fun its n z => by rw [d] at z; cases z) (fun z => by rw [d] at z; cases z)).1, d, r⟩
theorem ns_not {h : Heap} {p : Addr} {f : Str → Option Value} {o : Obj} (x : h.Ns p f) (e : h.get? p = some o) (n : ∀ es ep, o.data ≠ .dict es ep) : False := by
  obtain ⟨o', es, ep, e', d, _⟩ := x
  rw [e] at e'
  cases e'
  exact n _ _ d
abbrev Blt (h : Heap) (mg : Str → Option Value) : Prop := ∃ (bm : Addr) (ob : Obj), mg "__builtins__" = some (.ref bm) ∧ bm ≠ builtinsNs ∧ h.get? bm = some ob ∧ ob.cls = .type "module" ∧ ob.dict = some builtinsNs ∧ ob.data = .plain
theorem hid_tab {h : Heap} {H : Hp} (x : Hid h H) {mg : Str → Option Value} {c P : Addr} (G : h.Ns mainGlobals mg) (B : Blt h mg) (e : h.get? P = some oTab) (C : PySem.W.CodeHd h c P) : TabB (hidT h H) mg c P := by
  constructor
  · obtain ⟨o, its, f1, f2, f3, f4, f5, f6, f7, g1, g2, g3, gs⟩ := C
    refine ⟨o, its, f1, f2, f3, f4, f5, f6, f7, (hid_has x g1 (fun _ _ z => ?_) fun z => ?_).1, g2, g3, gs⟩
    · rw [g3] at z
      cases z
    · rw [g3] at z
      cases z
      have w := gs.1
      simp at w
  · obtain ⟨bm, ob, a1, a2, a3, a4, a5, a6⟩ := B
    refine ⟨bm, ob, a1, a2, fun z => ?_, fun z => ?_, (hid_has x a3 (fun _ _ z => ?_) fun z => ?_).1, a4, a5, a6⟩
    · subst z
      exact ns_not G a3 fun _ _ z => by rw [a6] at z; cases z
    · subst z
      rw [e] at a3
      cases a3
      cases a6
    · rw [a6] at z
      cases z
    · rw [a6] at z
      cases z
  · intro z
    rw [← z] at e
    exact ns_not G e fun _ _ z => by cases z
def hpT (a : Addr) (u : Option HO) (T : List Addr) : Hp := fun p => if p ∈ T then some (.tbl #[]) else if p = a then u else none
def memT (cs : List (Addr × Addr × Str)) : Mem := cs.map fun p => .tab p.2.1 p.2.2
theorem memT_get {cs : List (Addr × Addr × Str)} {j : Nat} {o : Own} (e : (memT cs)[j]? = some o) : ∃ p, cs[j]? = some p ∧ o = .tab p.2.1 p.2.2 := by
  unfold memT at e
  rw [List.getElem?_map] at e
  obtain ⟨p, e1, e2⟩ := Option.map_eq_some_iff.mp e
  exact ⟨p, e1, e2.symm⟩
theorem lawGT {P : Program} {w : World} {K : PySem.W.Frag} {mg mb : Str → Option Value} {k : Nat} {f a : Addr} {fd : FuncData} {x : Str} {m : MF} {t : Shared} {us : List Value} {ns : List Int} {cs : List (Addr × Addr × Str)}
    (hK : K.In t.heap) (hg : t.heap.Ns mainGlobals mg) (hbn : t.heap.Ns builtinsNs mb) (hbb : ∀ x : Str, x ≠ "__name__" → mb x = bootBuiltins x) (hlim : t.heap.NoLimit) (hgen : t.gens = #[]) (hB : Blt t.heap mg)
    (hT : ∀ p ∈ cs, t.heap.get? p.2.1 = some oTab) (nT : ∀ p ∈ cs, K.lookup p.2.1 = none) (hC : ∀ p ∈ cs, PySem.W.CodeHd t.heap p.1 p.2.1) (dT : (cs.map fun p => p.2.1).Nodup)
    (ha : t.heap.get? a = some { cls := .type "list", data := .seq us.toArray }) (hi : IntsAre us ns) (hl : ns.length ≤ sizeLine) (hr : RmG k callerA)
    (F : ∀ base : Heap, K.In base → base.Ns mainGlobals mg → (∀ p ∈ cs, TabB base mg p.1 p.2.1) → FnG P w K mg base (L2.CX P w) k f fd [x] (spM K mg m 1)) (hbind : ∀ (s : Shared) (u : Value), BindsTo s fd ⟨[u], []⟩ [(x, u)])
    (hm : ∃ μ', m [.ro (ns.map .int)] (memT cs) = .ok (.fr (.bl true)) μ') :
    codeAny (model P w) callerA (.call (.ref f) ⟨[.ref a], []⟩) (fun r s' => r = .ok (.ret (.bool true)) ∧ OldK t.heap s'.heap ∧ s'.os = t.os ∧ AllBare s'.gens) t := by
  have vv := vals_ints hi
  have lv := hi.length
  obtain ⟨μ', hm⟩ := hm
  have hTm : ∀ p ∈ cs.map (fun p => p.2.1), t.heap.get? p = some oTab ∧ K.lookup p = none := fun p hp => by
    obtain ⟨y, hy, rfl⟩ := List.mem_map.mp hp
    exact ⟨hT y hy, nT y hy⟩
  have naT : a ∉ cs.map fun p => p.2.1 := fun z => by
    have w := (hTm a z).1
    rw [ha] at w
    have w' := congrArg Obj.data (Option.some.inj w)
    cases w'
  have main : ∀ u : Option HO, (u = none ∨ ∃ o, u = some (.frz o (.lst (ns.map V.int)))) → (u ≠ none → K.lookup a = none) → SqL K (hpT a u []) a (ns.map V.int) → (∀ o, u = some o → ∀ H, ObjOk P w H t.heap a o) →
      codeAny (model P w) callerA (.call (.ref f) ⟨[.ref a], []⟩) (fun r s' => r = .ok (.ret (.bool true)) ∧ OldK t.heap s'.heap ∧ s'.os = t.os ∧ AllBare s'.gens) t := by
    intro u hu free sq oka
    have h0 : ∀ p, hpT a u (cs.map fun p => p.2.1) p = none ∨ (p ∈ (cs.map fun p => p.2.1) ∧ hpT a u (cs.map fun p => p.2.1) p = some (.tbl #[])) ∨ (p = a ∧ p ∉ (cs.map fun p => p.2.1) ∧ hpT a u (cs.map fun p => p.2.1) p = u) := fun p => by
      unfold hpT
      by_cases z1 : p ∈ cs.map fun p => p.2.1
      · exact .inr (.inl ⟨z1, if_pos z1⟩)
      · by_cases z2 : p = a
        · exact .inr (.inr ⟨z2, z1, by rw [if_neg z1, if_pos z2]⟩)
        · exact .inl (by rw [if_neg z1, if_neg z2])
    generalize eH : hpT a u (cs.map fun p => p.2.1) = H at h0
    have hid : Hid t.heap H := fun p z => by
      rcases h0 p with n | ⟨n, _⟩ | ⟨rfl, _⟩
      · exact absurd n z
      · exact .inr (hTm p n).1
      · exact .inl ⟨_, _, _, ha, rfl⟩
    have kB : K.In (hidT t.heap H) := fun p o e => hidT_get (hK p o e) (by
      rcases h0 p with n | ⟨n, _⟩ | ⟨rfl, _, n⟩
      · exact n
      · rw [(hTm p n).2] at e
        cases e
      · rw [n]
        exact Classical.byContradiction fun z => by
          rw [free z] at e
          cases e)
    have HaT : ∀ p ∈ cs.map (fun p => p.2.1), H p = some (.tbl #[]) := fun p hp => by
      rw [← eH]
      exact if_pos hp
    have Ha : H a = u := by
      rw [← eH]
      unfold hpT
      rw [if_neg naT, if_pos rfl]
    have mB : Mod K mg (hidT t.heap H) := ⟨kB, hid_ns hid hg, ⟨mb, hid_ns hid hbn, hbb⟩, let ⟨mc, q1, q2⟩ := hlim; ⟨mc, hid_ns hid q1, q2⟩⟩
    have ok : HOk P w H t.heap := fun p o e => by
      rcases h0 p with n | ⟨n, e2⟩ | ⟨rfl, _, n⟩
      · rw [n] at e
        cases e
      · rw [e] at e2
        cases e2
        exact (hTm p n).1
      · rw [n] at e
        exact oka o e H
    have env : Env0 P w K mg (hidT t.heap H) callerA [] t H := ⟨rfl, mB, fun p o e => of_hidT e, Nat.le_of_eq (hidT_size _ _), trivial, fun p hp => absurd (show p ∈ ([] : List Addr) from hp) (by simp), ok, .of_eq hgen⟩
    have fa : hpT a u [] a = u := by
      unfold hpT
      rw [if_neg (by simp), if_pos rfl]
    have fn : ∀ p, p ≠ a → hpT a u [] p = none := fun p z => by
      unfold hpT
      rw [if_neg (by simp), if_neg z]
    have S0 : Sim K mg (fun _ => none) (hpT a u []) (cs.map fun p => p.2.1) (memT cs) [] [] H := by
      refine ⟨fun p o h => ?_, fun p o h => (nomatch h), rfl, fun i s e => (by simp at e), fun i j p s t e => (by simp at e), fun k c e => ?_, by unfold memT; simp, dT⟩
      · by_cases z : p = a
        · subst z
          rw [fa] at h
          exact .inl (Ha.trans h)
        · rw [fn p z] at h
          cases h
      · obtain ⟨p, e1, rfl⟩ := memT_get e
        have hp : p.2.1 ∈ cs.map fun p => p.2.1 := List.mem_map.mpr ⟨p, List.mem_of_getElem? e1, rfl⟩
        refine ⟨p.2.1, by rw [List.getElem?_map, e1]; rfl, fn _ fun z => naT (by rw [← z]; exact hp), rfl, rfl, #[], HaT _ hp, True.intro, fun pos cv hc => ?_⟩
        have z : codeAmong pos [] = some cv := hc
        simp [codeAmong] at z
    have hsp : spM K mg m 1 [.ref a] H (fun v _ => v = .bl true) (fun _ _ _ => False) := by
      refine ⟨rfl, _, hpT a u [], _, memT cs, [.ro (ns.map .int)], S0, .cons (.ro sq (RepL.ofInts ns)) .nil, ?_⟩
      rw [hm]
      intro v H' F' ρ' _ _ _ rv
      cases rv
      rfl
    refine codeAny_mono ((F _ kB (hid_ns hid hg) (fun p hp => hid_tab hid hg hB (hT p hp) (hC p hp))).run callerA [] t H ⟨[.ref a], []⟩ [.ref a] [.ref a] _ _ hr env (hbind t (.ref a)) (.cons rfl .nil) hsp) fun res s' h => ?_
    cases res with
    | error e =>
      obtain ⟨_, _, _, _, _, _, _, _, _, _, _, _, z⟩ := h
      exact z.elim
    | ok fl =>
      cases fl with
      | next => exact False.elim h
      | brk => exact False.elim h
      | cont => exact False.elim h
      | ret u' =>
        obtain ⟨v, H', os, bare, un, ok', rv, q⟩ := h
        have q' : v = .bl true := q
        subst q'
        cases rv
        have each : ∀ p o, t.heap.get? p = some o → (p ∉ (cs.map fun p => p.2.1) ∧ s'.heap.get? p = some o) ∨ (p ∈ (cs.map fun p => p.2.1) ∧ o = oTab ∧ ∃ more : Array Value, s'.heap.get? p = some { cls := .none, data := .fields more }) := fun p o e => by
          by_cases hp : p ∈ cs.map fun p => p.2.1
          · obtain ⟨more, z⟩ := un.tbls p #[] (HaT p hp)
            rw [(hTm p hp).1] at e
            cases e
            exact .inr ⟨hp, rfl, _, ok' p _ z⟩
          · refine .inl ⟨hp, ?_⟩
            cases q : H p with
            | none => exact un.keep p o e q (by intro z; exact absurd (show p ∈ ([] : List Addr) from z) (by simp)) (by simp)
            | some y =>
              rcases h0 p with n | ⟨n, _⟩ | ⟨rfl, _, n⟩
              · rw [n] at q
                cases q
              · exact absurd n hp
              · rcases hu with z | ⟨ob, z⟩
                · rw [n, z] at q
                  cases q
                · obtain ⟨e1, _⟩ := ok p _ (n.trans z)
                  obtain ⟨e2, _⟩ := ok' p _ (un.frzs p ob _ (n.trans z))
                  rw [e] at e1; cases e1
                  exact e2
        refine ⟨rfl, ⟨fun p o e => ?_, fun p o e => ?_⟩, os, bare⟩
        · rcases each p o e with ⟨_, z⟩ | ⟨hp, rfl, more, z⟩
          · exact .inl z
          · obtain ⟨y, hy, rfl⟩ := List.mem_map.mp hp
            exact .inr (.inl ⟨((hC y hy).tab (hT y hy)).isCodeTable, rfl, #[], more, rfl, by rw [Array.empty_append]; exact z⟩)
        · rcases each p o e with ⟨_, z⟩ | ⟨_, _, more, z⟩
          · exact ⟨o, z⟩
          · exact ⟨_, z⟩
  cases hk : K.lookup a with
  | some o =>
    have e := hK a o hk
    rw [ha] at e
    cases e
    exact main none (.inl rfl) (fun z => absurd rfl z) (.inr ⟨_, us.toArray, _, hk, rfl, rfl, rfl, by rw [List.size_toArray, lv]; exact hl, by simpa using vv⟩) (fun o z => nomatch z)
  | none =>
    refine main (some (.frz { cls := .type "list", data := .seq us.toArray } (.lst (ns.map V.int)))) (.inr ⟨_, rfl⟩) (fun _ => hk) (.inl (.inr ⟨{ cls := .type "list", data := .seq us.toArray }, ?_⟩)) (fun o z H => ?_)
    · unfold hpT
      rw [if_neg (by simp), if_pos rfl]
    · cases z
      exact ⟨ha, by rw [List.length_map]; exact hl, us, _, vv, ha⟩
end FL
namespace FL
open PySem PySem.Spec PyProof.Rows L2 LamX
def csOf (K : PySem.W.Frag) (ts : Mks) : List (Addr × Addr × Str) := ts.map fun t => (codeAd K t.1, tabAd K t.1, t.2)
theorem hkG_eq {n : Nat} {fs : List (PySem.W.Frag → Bool)} {ds : List Dsc} {ts : Mks} {g : Addr → Option Obj} {s : Shared} (h : ∀ a, g a = s.heap.get? a) : hkG n fs ds ts g = (hookF n fs ds ts).obs s := by
  have e : g = s.heap.get? := funext h
  rw [e]
  rfl
section
variable {fs : List (PySem.W.Frag → Bool)} {ds : List Dsc} {ts : Mks} {K : PySem.W.Frag}
theorem HkSays.tabs (c : HkSays fs ds ts K) : (∀ t ∈ ts, PySem.W.codeHdIn K (codeAd K t.1) (tabAd K t.1) = true ∧ K.lookup (tabAd K t.1) = none) ∧ (ts.map fun t => tabAd K t.1).Nodup := by
  obtain ⟨a, b⟩ := Bool.and_eq_true_iff.mp (show ((ts.all fun t => PySem.W.codeHdIn K (codeAd K t.1) (tabAd K t.1) && (K.lookup (tabAd K t.1)).isNone) && decide (ts.map fun t => tabAd K t.1).Nodup) = true from (Bool.and_eq_true_iff.mp c.t).2)
  refine ⟨fun t ht => ?_, of_decide_eq_true b⟩
  obtain ⟨x, y⟩ := Bool.and_eq_true_iff.mp (List.all_eq_true.mp a t ht)
  exact ⟨x, Option.isNone_iff_eq_none.mp y⟩
theorem HkSays.fact (c : HkSays fs ds ts K) (i : Nat) {f : PySem.W.Frag → Bool} (h : fs[i]? = some f) : f K = true := List.all_eq_true.mp c.both.1 f (List.mem_of_getElem? h)
end
def tbOf (K : PySem.W.Frag) (ts : Mks) : Nat → Addr := fun j => (ts.map fun t => tabAd K t.1).getD j 0
theorem walkH {l : PySem.W.OpenLaw} {k n : Nat} {q : Program} {loose : List Str} {XP : (Str → Option Value) → Heap → Prop} {d : DefRec} {x : Str} {m : (Nat → Addr) → MF} {fs : List (PySem.W.Frag → Bool)} {ds : List Dsc} {ts : Mks}
    (hn : l.most = some 63) (hdf : d.params.defaults = []) (hr : RmG k callerA)
    (F : ∀ (w : World) (mg : Str → Option Value) (fa : Addr) (h : Heap) (K : PySem.W.Frag), K.In h → HkSays fs ds ts K → h.Ns mainGlobals mg → mg d.name = some (.ref fa) →
      ∃ fd : FuncData, (∀ (s : Shared) (u : Value), BindsTo s fd ⟨[u], []⟩ [(x, u)]) ∧
        ∀ base : Heap, K.In base → base.Ns mainGlobals mg → (∀ p ∈ csOf K ts, TabB base mg p.1 p.2.1) → FnG l.prog w K mg base (L2.CX l.prog w) k fa fd [x] (spM K mg (m (tbOf K ts)) 1))
    (hm : ∀ (K : PySem.W.Frag) (ns : List Int), ns.length ≤ 63 → ∃ μ', m (tbOf K ts) [.ro (ns.map .int)] (memT (csOf K ts)) = .ok (.fr (.bl true)) μ') :
    PySem.W.WalkO q loose XP (hookF n fs ds ts).says l.row.toRowW d [] (fun f vs => PySem.call f vs) := by
  refine Att.attach_call hn hdf fun w s0 s1 mg mb fa o pm cd doc a vs ns G Y ho hd hcd hmg hobj hints hlen hg => ?_
  obtain ⟨K, hK, c, hT⟩ := Y
  obtain ⟨fd, hb, hF⟩ := F w mg fa _ K hK c G.T.g hmg
  obtain ⟨t1, t2⟩ := c.tabs
  have mem : ∀ p ∈ csOf K ts, ∃ t ∈ ts, p = (codeAd K t.1, tabAd K t.1, t.2) := fun p hp => by
    obtain ⟨t, ht, rfl⟩ := List.mem_map.mp hp
    exact ⟨t, ht, rfl⟩
  refine lawGT hK G.T.g G.T.b G.T.builtins G.T.nolimit hg G.T.bmain (fun p hp => ?_) (fun p hp => ?_) (fun p hp => ?_) ?_ hobj hints (Nat.le_trans hlen (by rw [line_eq]; decide)) hr hF hb (hm K ns hlen)
  · obtain ⟨t, ht, rfl⟩ := mem p hp
    exact hT t ht
  · obtain ⟨t, ht, rfl⟩ := mem p hp
    exact (t1 t ht).2
  · obtain ⟨t, ht, rfl⟩ := mem p hp
    exact PySem.W.codeHd_of_K hK (t1 t ht).1
  · have e : ((csOf K ts).map fun p => p.2.1) = ts.map fun t => tabAd K t.1 := by
      unfold csOf
      rw [List.map_map]
      rfl
    rw [e]
    exact t2
end FL
namespace FL
open PySem PySem.Spec PyProof.Rows L2 LamX
def kvAd (K : PySem.W.Frag) (p : FnP) : Value := match K.lookup (fAdF K p) with
  | some ⟨_, _, .func fd, _⟩ => fd.kwdefaults
  | _ => .none
def prpT : PrpTb → String → String → Option String
  | [], _, _ => none
  | (c', f', b) :: t, c, f => if c = c' ∧ f = f' then some b else prpT t c f
def isaT : IsaTb → String → String → Option Bool
  | [], _, _ => none
  | (c', d', b) :: t, c, d => if c = c' ∧ d = d' then some b else isaT t c d
def subT : List (String × Bool) → String → Option Bool
  | [], _ => none
  | (c', b) :: t, c => if c = c' then some b else subT t c
end FL
namespace FL
open PySem PySem.Spec PyProof.Rows L2 LamX
inductive Fm | look | arit
def Fm.B : Fm → String
  | .look => "LookupError"
  | .arit => "ArithmeticError"
def Fm.bm : Fm → List Value
  | .look => [.type "LookupError", .type "Exception", .type "BaseException", .type "object"]
  | .arit => [.type "ArithmeticError", .type "Exception", .type "BaseException", .type "object"]
end FL
namespace L31
open PySem PySem.Spec PyProof.Rows L2 FL LamX
def sub__law_error_of : String → Option Bool := subT subl__law_error_of
def isX : String → String → Option Bool := isaT isxl
end L31
namespace L31
open PySem PySem.Spec PySem.W PySem.Calls PyProof.Rows FL
theorem ob_eq (s : PySem.W.SharedT) : ob s = hk.obs s.abs := hkG_eq (HandSHeadRun.getT_eq s)
end L31
namespace FL
open PySem PySem.Spec PyProof.Rows L2
structure FuW (P : Program) (w : World) (K : PySem.W.Frag) (mg : Str → Option Value) (base : Heap) (j : Nat) (x : Str) (n : Nat) (ks : List Str) (sel : List Sel) (m : MF) (N : Nat) (dds : List D) : Prop where
  len : ∀ {α : Type} (vs ds zs : List α), vs.length = n → ds.length = dds.length → zs.length = ks.length → (pickS sel vs ds zs).length = N
  ex : ∃ (f : Addr) (fd : FuncData) (ps : List Str) (ds : List Value) (dvs : List V), mg x = some (.ref f) ∧ PySem.W.keepIn K (.ref f) = true ∧ FnG P w K mg base (L2.CX P w) j f fd ps (spM K mg m N) ∧ BindW K fd ps n ks sel ds ∧ Vals dvs ds ∧ ∀ F ρ, RepL K mg F ρ dvs dds
structure ClW (P : Program) (w : World) (K : PySem.W.Frag) (mg : Str → Option Value) (base : Heap) (j : Nat) (c : String) (n : Nat) (ks : List Str) (sel : List Sel) (mi : MF) (N : Nat) (dds : List D) : Prop where
  len : ∀ {α : Type} (vs ds zs : List α), vs.length = n → ds.length = dds.length → zs.length = ks.length → (pickS sel vs ds zs).length = N
  ex : ∃ (C f : Addr) (fd : FuncData) (ps : List Str) (ds : List Value) (dvs : List V), mg (Str.ofString c) = some (.ref C) ∧ Mk K C f ∧ FnG P w K mg base (L2.CX P w) j f fd ps (spM K mg mi (N + 1)) ∧ BindW1 K fd ps n ks sel ds ∧ Vals dvs ds ∧ ∀ F ρ, RepL K mg F ρ dvs dds
section
variable {X : Cx} {j n N : Nat} {x : Str} {c : String} {ks : List Str} {sel : List Sel} {m mi : MF} {dds : List D}
theorem FuW.call (V : FuW X.prog X.w X.K X.mg X.base j x n ks sel m N dds) : ∃ a, X.mg x = some (.ref a) ∧ CallW X j a n ks sel m N dds := by
  obtain ⟨f, fd, ps, ds, dvs, e1, e2, e3, e4, e5, e6⟩ := V.ex
  exact ⟨f, e1, .fn e3 e2 e4 e5 e6 V.len⟩
theorem ClW.callS (V : ClW X.prog X.w X.K X.mg X.base j c n ks sel mi N dds) : ∃ a, X.mg (Str.ofString c) = some (.ref a) ∧ CallW X (j + 1) a n ks sel (mkS c mi) N dds := by
  obtain ⟨C, f, fd, ps, ds, dvs, e1, e2, e3, e4, e5, e6⟩ := V.ex
  exact ⟨C, e1, .mkS e1 e2 e3 e4 e5 e6 V.len⟩
end
end FL
namespace FL
open PySem PySem.Spec PyProof.Rows L2
section
variable {X : Cx} {W : WX} {k : Nat} {N : List Str} {sc : Scope} {a b e o : Expr} {es : List Expr} {pos p apos : Pos} {x : Str}
theorem Cs.hg (C : Cs X W k N sc) : X.A.guards = some [] := C.rm.g
end
end FL
namespace FL
open PySem PySem.Spec PyProof.Rows L2
section
variable {prog : Program} {w : World} {A : Around} {E : Value → Shared → Prop} {s : Shared}
def RowAt (h : Heap) (v : Value) (i : Int) : Prop := ∃ (p : Addr) (ob : Obj) (xs : List Value) (n : Nat) (t : Tok), v = .ref p ∧ h.get? p = some ob ∧ ob.cls = .type "tuple" ∧ ob.data = .seq (Value.int i t :: xs).toArray n
theorem RowAt.stay {h h' : Heap} {v : Value} {i : Int} (r : RowAt h v i) (k : ∀ p ob, h.get? p = some ob → ob.cls = .type "tuple" → h'.get? p = some ob) : RowAt h' v i :=
  let ⟨p, ob, xs, n, t, e, ho, hc, hd⟩ := r
  ⟨p, ob, xs, n, t, e, k p ob ho hc, hc, hd⟩
end
end FL
namespace FL
open PySem PySem.Spec PyProof.Rows L2
section
variable {X : Cx} {W : WX}
theorem new_pair {Z F H : Hp} {ρ : List Addr} {μ : Mem} {δ : Loc} {σ : L2.St} {p : Addr} {a b : V} {da db : D} (S : Sim X.K X.mg Z F ρ μ δ σ H) (hp : H p = none) (ra : Rep X.K X.mg F ρ a da) (rb : Rep X.K X.mg F ρ b db) :
    ∃ F2, Le Z F F2 ∧ Sim X.K X.mg Z F2 ρ μ δ σ (upd H p (.tup [a, b])) ∧ Rep X.K X.mg F2 ρ (.ref p) (.tup [da, db]) := by
  obtain ⟨F2, l, S2, r⟩ := vr_newT S hp (.cons ra (.cons rb .nil))
  exact ⟨F2, l, S2, r.r⟩
end
end FL
namespace FL
open PySem PySem.Spec PyProof.Rows L2
def dkey : D → Option DK
  | .int n => some (.i n)
  | .str x => some (.s x)
  | _ => none
def putA (kds : List (DK × D)) (k : DK) (d : D) : List (DK × D) := if (kds.any fun p => decide (p.1 = k)) = true then kds.map (fun p => if p.1 = k then (p.1, d) else p) else kds ++ [(k, d)]
def dropA (kds : List (DK × D)) (k : DK) : List (DK × D) := kds.filter fun p => decide (p.1 ≠ k)
abbrev dctO (kds : List (DK × D)) : Own := .dct (kds.map (·.1)) (kds.map (·.2))
section
variable {K : PySem.W.Frag} {mg : Str → Option Value} {F F' : Hp} {ρ ρ' : List Addr} {H : Hp} {p : Addr}
theorem KV.of : ∀ {ks : List DK} {vs : List V} {ds : List D}, ks.length = vs.length → RepL K mg F ρ vs ds → KV K mg F ρ ((ks.map DK.key).zip vs) (ks.zip ds)
  | [], _, _, h, r => by cases r <;> first | exact .nil | (cases h; done)
  | k :: ks, _, _, h, r => by
    cases r with
    | nil => cases h
    | cons h1 t => exact .cons h1 (KV.of (by simpa using h) t)
theorem KV.back : ∀ {kvs : List (Key × V)} {kds : List (DK × D)}, KV K mg F ρ kvs kds → kvs = ((kds.map (·.1)).map DK.key).zip (kvs.map (·.2)) ∧ RepL K mg F ρ (kvs.map (·.2)) (kds.map (·.2)) ∧ kvs.length = kds.length
  | _, _, .nil => ⟨rfl, .nil, rfl⟩
  | _, _, .cons h t => by
    obtain ⟨a, b, c⟩ := KV.back t
    refine ⟨?_, .cons h b, by rw [List.length_cons, List.length_cons, c]⟩
    simp only [List.map_cons, List.zip_cons_cons]
    rw [← a]
theorem KV.up (l : ∀ p o, F p = some o → F' p = some o) (lr : ∀ (k : Nat) p, ρ[k]? = some p → ρ'[k]? = some p) : ∀ {kvs : List (Key × V)} {kds : List (DK × D)}, KV K mg F ρ kvs kds → KV K mg F' ρ' kvs kds
  | _, _, .nil => .nil
  | _, _, .cons h t => .cons (h.up l lr) (KV.up l lr t)
theorem KV.app : ∀ {a b : List (Key × V)} {c d : List (DK × D)}, KV K mg F ρ a c → KV K mg F ρ b d → KV K mg F ρ (a ++ b) (c ++ d)
  | _, _, _, _, .nil, h => h
  | _, _, _, _, .cons h t, r => .cons h (KV.app t r)
theorem KV.any {k : DK} : ∀ {kvs : List (Key × V)} {kds : List (DK × D)}, KV K mg F ρ kvs kds → (kvs.any fun kv => decide (kv.1 = k.key)) = (kds.any fun p => decide (p.1 = k))
  | _, _, .nil => rfl
  | _, _, .cons h t => by rw [List.any_cons, List.any_cons, KV.any t, key_dec]
theorem KV.repl {k : DK} {v : V} {d : D} (r : Rep K mg F ρ v d) : ∀ {kvs : List (Key × V)} {kds : List (DK × D)}, KV K mg F ρ kvs kds → KV K mg F ρ (kvs.map fun kv => if kv.1 = k.key then (kv.1, v) else kv) (kds.map fun p => if p.1 = k then (p.1, d) else p)
  | _, _, .nil => .nil
  | _, _, @KV.cons _ _ _ _ k1 v1 d1 kvs kds h t => by
    rw [List.map_cons, List.map_cons]
    by_cases z : k1 = k
    · rw [if_pos (show DK.key k1 = DK.key k by rw [z]), if_pos (show k1 = k from z)]
      exact .cons r (KV.repl r t)
    · rw [if_neg (show ¬ DK.key k1 = DK.key k from fun q => z (DK.key_inj q)), if_neg (show ¬ k1 = k from z)]
      exact .cons h (KV.repl r t)
theorem KV.put {k : DK} {v : V} {d : D} (r : Rep K mg F ρ v d) {kvs : List (Key × V)} {kds : List (DK × D)} (h : KV K mg F ρ kvs kds) : KV K mg F ρ (putK kvs k.key v) (putA kds k d) := by
  unfold putK putA
  rw [h.any]
  by_cases z : (kds.any fun p => decide (p.1 = k)) = true
  · rw [if_pos z, if_pos z]
    exact h.repl r
  · rw [if_neg z, if_neg z]
    exact h.app (.cons r .nil)
theorem KV.drop {k : DK} : ∀ {kvs : List (Key × V)} {kds : List (DK × D)}, KV K mg F ρ kvs kds → KV K mg F ρ (dropK kvs k.key) (dropA kds k)
  | _, _, .nil => .nil
  | _, _, @KV.cons _ _ _ _ k1 v1 d1 kvs kds h t => by
    have ih := KV.drop (k := k) t
    unfold dropK dropA at ih ⊢
    by_cases z : k1 = k
    · rw [List.filter_cons_of_neg (by simp [z]), List.filter_cons_of_neg (by simp [z])]
      exact ih
    · rw [List.filter_cons_of_pos (by simpa using fun q => z (DK.key_inj q)), List.filter_cons_of_pos (by simpa using z)]
      exact .cons h ih
theorem own_kv {ks : List DK} {ds : List D} (h : OwnR K mg F ρ H p (.dct ks ds)) : ∃ kvs, H p = some (.dK kvs) ∧ KV K mg F ρ kvs (ks.zip ds) := by
  obtain ⟨vs, e, n, r⟩ := h
  exact ⟨_, e, KV.of n r⟩
theorem kv_own {kvs : List (Key × V)} {kds : List (DK × D)} (h : KV K mg F ρ kvs kds) (e : H p = some (.dK kvs)) : OwnR K mg F ρ H p (dctO kds) := by
  obtain ⟨a, b, c⟩ := h.back
  refine ⟨kvs.map (·.2), by rw [e]; exact congrArg (fun z => some (HO.dK z)) a, by simp [c], b⟩
end
section
variable {X : Cx} {W : WX} {o i e value : Expr} {pos pos' apos cpos : Pos}
theorem key_of {F H : Hp} {ρ : List Addr} {y : V} {d : D} {k : DK} (h : Bor X.K X.mg F ρ H y d) (e : dkey d = some k) : y = kV k.key := by
  cases d <;> first | (cases e; done) | skip
  · cases e
    exact h.int
  · cases e
    exact h.str
theorem key_rep {F : Hp} {ρ : List Addr} {y : V} {d : D} {k : DK} (h : Rep X.K X.mg F ρ y d) (e : dkey d = some k) : y = kV k.key := key_of (H := F) (.fr h) e
def gGetD : D → D → Option Slot
  | .dct ks ds, y => match dkey y with
    | some k => (getA (ks.zip ds) k).map .fr
    | none => none
  | _, _ => none
abbrev rGetD : R2 := fun x y H Q => ∃ a v, x = .ref a ∧ DGet H a y (some v) ∧ Q v H
theorem j_getD : R2J X rGetD gGetD := by
  intro Z F ρ μ δ σ H x y dx dy s Q S bx bY e q
  unfold gGetD at e
  cases dx <;> first | (cases e; done) | skip
  · rename_i ks ds
    cases ek : dkey dy with
    | none => simp only [ek] at e; cases e
    | some k =>
      simp only [ek] at e
      obtain ⟨d, e1, e2⟩ := Option.map_eq_some_iff.mp e
      subst e2
      obtain ⟨p, vs, rfl, hr, hl, r⟩ := bx.dct S
      obtain ⟨v, g, rv⟩ := (KV.of hl r).get e1
      exact ⟨p, v, rfl, .inl ⟨_, k.key, hr, key_of bY ek, g.symm⟩, q _ H F .refl S ⟨rv, fun o p z => by cases z⟩⟩
theorem je_getD {oa ob : Opn} (hu : X.A.units + 1 < cLine) (ha : JO X W o oa) (hb : JO X W i ob) (hs : NoSl i) : JE X W (.Subscript o i pos) (m2 gGetD oa ob) :=
  (pe_dget hu ha hb hs).imp (m2_read (r := rGetD) j_getD)
def gSetD : Own → D → D → Option Own
  | .dct ks ds, y, d => match dkey y with
    | some k => if (ks.zip ds).length < 16777216 then some (dctO (putA (ks.zip ds) k d)) else none
    | none => none
  | _, _, _ => none
theorem js_setD {oo oi : Opn} {m : ME} (hu : X.A.units + 1 < cLine) (he : JE X W value m) (ho : JO X W o oo) (hi : JO X W i oi) (hs : swapsWith value (some (.Subscript o i pos')) pos.line X.env = pure false := by rfl) : JS X W (.Assign [.Subscript o i pos'] value pos) (mSetI gSetD oo oi m) := by
  refine (ps_dput hu ho hi he.locked hs).imp fun E σ H ⟨Z, F, ρ, μ, δ, S, q⟩ => ⟨Z, F, ρ, μ, δ, S, (FinS.thn q).imp fun s δ1 μ1 H1 F1 ρ1 l1 lr1 S1 ⟨_, p1⟩ v rv => ?_⟩
  refine ⟨Z, F1, ρ1, μ1, δ1, S1, (FinS.thn p1).imp fun r δ2 μ2 H2 F2 ρ2 l2 lr2 S2 ⟨_, p2⟩ x hx => ?_⟩
  refine ⟨Z, F2, ρ2, μ2, δ2, S2, (FinS.thn p2).imp fun ri δ3 μ3 H3 F3 ρ3 l3 lr3 S3 ⟨_, p3⟩ y hy => ?_⟩
  cases e0 : recv δ3 μ3 r with
  | none => simp only [e0] at p3; exact p3.elim
  | some cw =>
    obtain ⟨c, w⟩ := cw
    cases e1 : ri.at δ3 μ3 with
    | none => simp only [e0, e1] at p3; exact p3.elim
    | some di =>
      simp only [e0, e1] at p3
      cases eg : gSetD c di s.d with
      | none => simp only [eg] at p3; exact p3.elim
      | some c' =>
        simp only [eg] at p3
        obtain ⟨pa, rfl, ow, hw⟩ := recv_ok S3 (hx.up l3 lr3) e0
        unfold gSetD at eg
        cases c <;> first | (cases eg; done) | skip
        · rename_i ks ds
          cases ek : dkey di with
          | none => simp only [ek] at eg; cases eg
          | some k =>
            simp only [ek] at eg
            by_cases hz : (ks.zip ds).length < 16777216
            · rw [if_pos hz] at eg
              cases eg
              obtain ⟨kvs, hH, kv⟩ := own_kv ow
              obtain ⟨_, _, hl⟩ := kv.back
              have rv3 := (Rep.up l2.to lr2.to rv).up l3.to lr3.to
              refine ⟨pa, _, rfl, .inl ⟨kvs, k.key, hH, key_of (hy.bor S3 e1) ek, by rw [hl, line_eq]; exact hz, rfl⟩, p3.nx (hw _ _ (kv_own (kv.put rv3) upd_same))⟩
            · rw [if_neg hz] at eg; cases eg
end
end FL
namespace FL
open PySem PySem.Spec PyProof.Rows L2
section
variable {X : Cx} {W : WX} {e : Expr} {pos : Pos}
theorem perm_back {α β : Type} {f : α → β} : ∀ {ys : List β} {l : List α}, ys.Perm (l.map f) → ∃ l' : List α, List.Perm l' l ∧ List.map f l' = ys := by
  have key : ∀ {ys zs : List β}, ys.Perm zs → ∀ {l : List α}, zs = l.map f → ∃ l' : List α, List.Perm l' l ∧ List.map f l' = ys := by
    intro ys zs h
    induction h with
    | nil =>
      intro l e
      cases l with
      | nil => exact ⟨[], .refl _, rfl⟩
      | cons _ _ => cases e
    | cons x _ ih =>
      intro l e
      cases l with
      | nil => cases e
      | cons a l =>
        rw [List.map_cons] at e
        injection e with e1 e2
        obtain ⟨l', p, q⟩ := ih e2
        exact ⟨a :: l', p.cons a, by rw [List.map_cons, q, e1]⟩
    | swap x y r =>
      intro l e
      cases l with
      | nil => cases e
      | cons a l =>
        cases l with
        | nil => cases e
        | cons b l =>
          rw [List.map_cons, List.map_cons] at e
          injection e with e1 e2
          injection e2 with e2 e3
          exact ⟨b :: a :: l, List.Perm.swap a b l, by rw [List.map_cons, List.map_cons, e1, e2, e3]⟩
    | trans _ _ ih1 ih2 =>
      intro l e
      obtain ⟨l1, p1, q1⟩ := ih2 e
      obtain ⟨l2, p2, q2⟩ := ih1 q1.symm
      exact ⟨l2, p2.trans p1, q2⟩
  intro ys l h
  exact key h rfl
def tLockD (td : TE) : TE := fun σ H Q => td σ H fun x H1 => ∃ d kvs, x = .ref d ∧ H1 d = some (.dK kvs) ∧ ∀ o H2, H2 d = some (.frz o (.dK kvs)) → (∀ b, b ≠ d → H2 b = H1 b) → Q x H2
theorem pe_lockD {td : TE} (he : PE X e td) : PE X e (tLockD td) := by
  refine ⟨fun pins s σ H Q I h => ?_⟩
  refine wpAny_mono (he.run pins s σ H _ I h) (fun u s1 ⟨x, H1, I1, r, d, kvs, ex, hd, q⟩ => ?_) fun _ _ z => z
  obtain ⟨od, J⟩ := I1.lock hd True.intro
  exact ⟨x, _, J, r, q od _ upd_same fun b hb => upd_ne hb⟩
def itemsD (kds : List (DK × D)) : List D := kds.map fun p => .tup [p.1.d, p.2]
theorem rep_key {K : PySem.W.Frag} {mg : Str → Option Value} {F : Hp} {ρ : List Addr} (k : DK) : Rep K mg F ρ (kV k.key) k.d := by
  cases k with
  | i n => exact .int
  | s x => exact .str
theorem itr_items {F : Hp} {ρ : List Addr} {d : Addr} {o : Obj} {kvs : List (Key × V)} {kds : List (DK × D)} (hF : F d = some (.frz o (.dK kvs))) (r : KV X.K X.mg F ρ kvs kds) : ItR X F ρ (Iti d o kvs) (itemsD kds) := by
  intro Z' F' ρ' μ δ σ H i to tr S
  have q : H d = some (.frz o (.dK kvs)) := by
    rcases S.le _ _ (to _ _ hF) with z | ⟨_, _, z, _⟩
    · exact z
    · cases z
  obtain ⟨_, _, hl⟩ := r.back
  refine ⟨fun h => ⟨q, by rw [hl]; simpa [itemsD] using h⟩, fun x hx => ?_⟩
  unfold itemsD at hx
  rw [List.getElem?_map] at hx
  obtain ⟨p, e1, rfl⟩ := Option.map_eq_some_iff.mp hx
  obtain ⟨v, e2, rv⟩ := r.at e1
  refine ⟨⟨q, (List.getElem?_eq_some_iff.mp e2).1⟩, fun y H' ⟨T, k, w, e3, ey, hT, eH⟩ => ?_⟩
  subst ey
  subst eH
  rw [e2] at e3
  cases e3
  exact new_pair S hT (rep_key p.1) (rv.up to tr)
def dcD (f : TgF) (tests : MT) (kx vx : ME) (vs : List Nat) : List D → List (DK × D) → ME
  | [], acc => fun δ μ => .ok (.own (dctO acc)) δ μ
  | d :: ds, acc => fun δ μ => match f d δ with
    | none => .bad
    | some δ' => (tests δ' μ).cut.bind fun b δ2 μ2 => if b = true then (kx δ2 μ2).cut.bind fun s δ3 μ3 => (vx δ3 μ3).cut.bind fun t δ4 μ4 => match dkey s.d with
        | some k => if acc.length < 16777216 then dcD f tests kx vx vs ds (putA acc k t.d) (wipeD δ4 vs) μ4 else .bad
        | none => .bad
      else dcD f tests kx vx vs ds acc (wipeD δ2 vs) μ2
def mDc (mi : MM (List D)) (f : TgF) (tests : MT) (kx vx : ME) (vs : List Nat) : ME := fun δ μ => (mi δ μ).bind fun ds δ1 μ1 => dcD f tests kx vx vs ds [] (wipeD δ1 vs) μ1
theorem wipe_own {vs : List Nat} {δ : Loc} {i : Nat} {c : Own} : (wipeD δ vs)[i]? = some (some (.own c)) → δ[i]? = some (some (.own c)) := by
  induction vs with
  | nil => exact id
  | cons v vs ih =>
    intro h
    have hn := wipeD_in h
    unfold wipeD at h
    rw [List.getElem?_set_ne (fun z => hn (by simp [z]))] at h
    exact ih h
theorem dc_read {mi : MM (List D)} {f : TgF} {tests : MT} {kx vx : ME} {vs is : List Nat} {B : Cx} (hK : B.K = X.K) (hm : B.mg = X.mg) (hsub : ∀ j ∈ is, j ∈ vs) : ∀ σ H Q, rdE X W (mDc mi f tests kx vx vs) σ H Q → tDc (rdI X W mi) (rdG X f is) (rdT B W0 tests) (rdE B W0 kx) (rdE B W0 vx) vs σ H Q := by
  intro σ H Q ⟨Z, F, ρ, μ, δ, S, q⟩
  refine ⟨Z, F, ρ, μ, δ, S, (FinE.bind q).imp fun ds δ1 μ1 H1 F1 ρ1 l lr S1 ⟨_, _, _, p⟩ J hJ A hA => ?_⟩
  obtain ⟨n1, n2, n3, n4⟩ := S1.notIn hA
  let P : Slot → Loc → Mem → Hp → List Addr → Hp → Prop := fun s δ' _ F' ρ' H' => ∀ v, VR X.K X.mg Z F' ρ' δ' σ H' v s → Q v H'
  let Wd : Nat → Nat → Hp → Prop := fun i k H => k = ds.length - i ∧ i ≤ ds.length ∧ ∃ F' ρ' μ δ kvs acc, (∀ p o, F1 p = some o → F' p = some o) ∧ (∀ (k : Nat) p, ρ1[k]? = some p → ρ'[k]? = some p) ∧ Sim X.K X.mg Z F' ρ' μ (wipeD δ vs) (L2.wipe σ vs) H ∧
    Free Z F' ρ' A ∧ (∀ (i : Nat) s, (wipeD δ vs)[i]? = some (some (.own s)) → (L2.wipe σ vs)[i]? ≠ some (some (.ref A))) ∧ H A = some (.dK kvs) ∧ KV X.K X.mg F' ρ' kvs acc ∧ FinE X W Z F' ρ' σ P (dcD f tests kx vx vs (ds.drop i) acc (wipeD δ vs) μ)
  have wout : ∀ {δ : Loc} {s : Slot} (i : Nat), (wipeD δ vs)[i]? = some (some s) → (L2.wipe σ vs)[i]? = σ[i]? := fun i h => wipe_out (wipeD_in h)
  have Sw := (S1.laid (o := .dK []) hA).wipe vs
  refine ⟨Wd, ⟨ds.length, by simp, Nat.zero_le _, F1, ρ1, μ1, δ1, [], [], fun _ _ h => h, fun _ _ h => h, Sw, ⟨n1, n2, n3⟩, fun i s e1 e2 => ?_, upd_same, .nil, by rw [List.drop_zero]; exact p⟩, ?_⟩
  · have e4 := wout i e1
    rw [e2] at e4
    exact n4 i s (wipe_own e1) e4.symm
  rintro i k H2 ⟨rfl, hle, F2, ρ2, μ2, δ2, kvs, acc, to, tr, S2, fA, nA, hL, kv, p2⟩
  obtain ⟨j1, j2⟩ := hJ Z F2 ρ2 μ2 _ _ H2 i to tr S2
  by_cases hlt : i < ds.length
  · refine .inr ?_
    have hd : ds.drop i = ds[i] :: ds.drop (i + 1) := List.drop_eq_getElem_cons hlt
    have SG := S2.guard hL fA nA
    obtain ⟨go, yl⟩ := hJ (upd Z A (.dK kvs)) F2 ρ2 μ2 _ _ H2 i to tr SG |>.2 ds[i] (List.getElem?_eq_getElem hlt)
    refine ⟨go, fun H' => Wd (i + 1) (ds.length - (i + 1)) H', fun H' w => ⟨ds.length - (i + 1), by omega, w⟩, fun x H' y => ?_⟩
    obtain ⟨F3, l3, S3, r3⟩ := yl x H' y
    rw [hd] at p2
    unfold dcD at p2
    cases ef : f ds[i] (wipeD δ2 vs) with
    | none => simp only [ef] at p2; exact p2.elim
    | some δ3 =>
      simp only [ef] at p2
      refine ⟨_, F3, ρ2, μ2, _, _, S3, r3, δ3, ef, fun σ4 hσ hl4 S4 => ?_⟩
      have ws : L2.wipe σ4 vs = L2.wipe σ vs := by
        have h1 := wipe_same (σ := L2.wipe σ vs) (σ' := σ4) hl4 (vs := vs) fun j hj => hσ j fun z => hj (hsub j z)
        rw [h1]
        exact wipe_same (wipe_length _ _) fun j hj => wipe_out hj
      refine ⟨by rw [ws, wipe_same (σ := σ) (σ' := σ) rfl fun _ _ => rfl], ?_⟩
      refine ⟨_, F3, ρ2, μ2, δ3, by rw [hK, hm]; exact S4, (FinE.cut (p := A) (o := .dK kvs) hK hm (p2.mono l3.unguard .refl)).imp fun b δ5 μ5 H5 F5 ρ5 l5 lr5 _ ⟨S5, l5', lr5', p5⟩ => ?_⟩
      have fin : ∀ {F6 : Hp} {ρ6 : List Addr} {μ6 : Mem} {δ6 : Loc} {H6 H7 : Hp} {kvs' : List (Key × V)} {acc' : List (DK × D)}, Sim X.K X.mg (upd Z A (.dK kvs)) F6 ρ6 μ6 δ6 σ4 H6 → Le (upd Z A (.dK kvs)) F3 F6 → LeR (upd Z A (.dK kvs)) ρ2 ρ6 →
          (∀ a, a ≠ A → H7 a = H6 a) → H7 A = some (.dK kvs') → KV X.K X.mg F6 ρ6 kvs' acc' → FinE X W Z F6 ρ6 σ P (dcD f tests kx vx vs (ds.drop (i + 1)) acc' (wipeD δ6 vs) μ6) → Wd (i + 1) (ds.length - (i + 1)) H7 := by
        intro F6 ρ6 μ6 δ6 H6 H7 kvs' acc' S6 l6 lr6 hne hA7 kv' p6
        have fA6 : Free Z F6 ρ6 A := (fA.on l3 .refl).on l6 lr6
        have S8 := ((S6.unguard fA.z).heap hne fA6.f fA6.z fA6.r S6.guardNo).wipe vs
        rw [ws] at S8
        refine ⟨rfl, hlt, F6, ρ6, μ6, δ6, kvs', acc', fun p o h => l6.to p o (l3.to p o (to p o h)), fun k p h => lr6.to k p (tr k p h), S8, fA6, fun i' s e1 e2 => ?_, hA7, kv', p6⟩
        have e4 : (L2.wipe σ4 vs)[i']? = σ4[i']? := wipe_out (wipeD_in e1)
        rw [ws, e2] at e4
        exact S6.guardNo i' s (wipe_own e1) e4.symm
      cases b with
      | false =>
        simp only [if_neg Bool.false_ne_true] at p5 ⊢
        exact fin S5 l5' lr5' (fun _ _ => rfl) S5.guarded (kv.up (fun p o h => l5'.to p o (l3.to p o h)) lr5'.to) p5
      | true =>
        simp only [if_true] at p5 ⊢
        refine ⟨_, F5, ρ5, μ5, δ5, by rw [hK, hm]; exact S5, (FinE.cut (p := A) (o := .dK kvs) hK hm p5).imp fun s δ6 μ6 H6 F6 ρ6 l6 lr6 _ ⟨S6, l6', lr6', p6⟩ v vr => ?_⟩
        rw [hK, hm] at vr
        refine ⟨_, F6, ρ6, μ6, δ6, by rw [hK, hm]; exact S6, (FinE.cut (p := A) (o := .dK kvs) hK hm p6).imp fun t δ7 μ7 H7 F7 ρ7 l7 lr7 _ ⟨S7, l7', lr7', p7⟩ u ur => ?_⟩
        rw [hK, hm] at ur
        cases ek : dkey s.d with
        | none => simp only [ek] at p7; exact p7.elim
        | some k =>
          simp only [ek] at p7
          have ev : v = kV k.key := by
            have r := vr.r
            cases s with
            | fr d => exact key_rep r ek
            | own c => cases c <;> cases ek
          obtain ⟨F8, l8, S8, r8⟩ := S7.lock ur
          by_cases hz : acc.length < 16777216
          · rw [if_pos hz] at p7
            have kv8 := kv.up (fun p o h => l8.to p o (l7'.to p o (l6'.to p o (l5'.to p o (l3.to p o h))))) (ρ' := ρ7) fun k p h => lr7'.to k p (lr6'.to k p (lr5'.to k p h))
            obtain ⟨_, _, hlen⟩ := kv.back
            refine ⟨kvs, k.key, ev, S8.guarded, by rw [hlen, line_eq]; exact hz, ?_⟩
            exact fin S8 (((l5'.trans l6').trans l7').trans l8) ((lr5'.trans lr6').trans lr7') (fun a ne => upd_ne ne) upd_same (kv8.put r8) (p7.mono l8.unguard .refl)
          · rw [if_neg hz] at p7; exact p7.elim
  · have e : i = ds.length := by omega
    subst e
    rw [List.drop_length] at p2
    refine .inl ⟨j1 (Nat.le_refl _), ?_⟩
    have S3 : Sim X.K X.mg Z F2 ρ2 μ2 (wipeD δ2 vs) σ H2 := S2.agree (wipe_length _ _).symm fun i s e => (wout i e).symm
    exact p2 H2 F2 ρ2 .refl .refl S3 (.ref A) ⟨⟨A, rfl, fA, kv_own kv hL⟩, fun o p z1 z2 i o' e1 e2 => by
      cases z2
      exact nA i o' e1 (by rw [wout i e1]; exact e2)⟩
theorem je_dc {kx vx tg iter : Expr} {ifs : List Expr} {scope : Scope} {own : List (Str × Nat)} {mi : MM (List D)} {f : TgF} {is : List Nat} {tests : MT} {mk mv : ME} (hc : X.calm = true) (hN : X.N.Nodup) (hi : JI X W tg iter mi) (ok : BlkOk X.N X.env.scope scope own)
    (hg : ∀ (s : Shared) (H : Hp) (C : Addr) (cl : List (Str × Addr)) (fp : List Addr), JG (X.blk s H scope (compEnvC scope cl C X.env) fp) tg f is) (ht : ∀ (s : Shared) (H : Hp) (C : Addr) (cl : List (Str × Addr)) (fp : List Addr), JTs (X.blk s H scope (compEnvC scope cl C X.env) fp) W0 ifs tests)
    (hk : ∀ (s : Shared) (H : Hp) (C : Addr) (cl : List (Str × Addr)) (fp : List Addr), JE (X.blk s H scope (compEnvC scope cl C X.env) fp) W0 kx mk) (hv : ∀ (s : Shared) (H : Hp) (C : Addr) (cl : List (Str × Addr)) (fp : List Addr), JE (X.blk s H scope (compEnvC scope cl C X.env) fp) W0 vx mv)
    (hsub : ∀ j ∈ is, j ∈ own.map (·.2)) (hs : ∀ x, foldedSetIterable iter X.env x = pure x := by intro _; rfl) : JE X W (.DictComp kx vx [⟨tg, iter, ifs, 0⟩] scope pos) (mDc mi f tests mk mv (own.map (·.2))) :=
  (pe_dc (g := rdG X f is) (tt := rdT X W0 tests) (tk := rdE X W0 mk) (tv := rdE X W0 mv) hc hN hi ok hg ht hk hv hs).imp (dc_read (B := X) rfl rfl hsub)
theorem Cs.dc {k : Nat} {N : List Str} {sc : Scope} {kx vx tg iter : Expr} {ifs : List Expr} {scope : Scope} {mi : MM (List D)} {f : TgF} {is : List Nat} {tests : MT} {mk mv : ME} {Tx : Program → World → PySem.W.Frag → (Str → Option Value) → Heap → Prop} (C : Cs X W k N sc) (T : Tx X.prog X.w X.K X.mg X.base) (own : List (Str × Nat)) (hi : JI X W tg iter mi) (ok : blkC N sc scope own = true)
    (hb : ∀ (Y : Cx), Tx Y.prog Y.w Y.K Y.mg Y.base → Cs Y W0 k N (relS scope sc) → JG Y tg f is ∧ JTs Y W0 ifs tests ∧ JE Y W0 kx mk ∧ JE Y W0 vx mv) (hsub : (is.all fun j => (own.map (·.2)).contains j) = true) (hs : ∀ x, foldedSetIterable iter X.env x = pure x := by intro _; rfl) :
    JE X W (.DictComp kx vx [⟨tg, iter, ifs, 0⟩] scope pos) (mDc mi f tests mk mv (own.map (·.2))) := by
  have at_ := fun s H c cl fp => hb (X.blk s H scope (compEnvC scope cl c X.env) fp) T (C.blk scope s H c cl fp)
  exact je_dc C.calm (by rw [C.hN]; exact C.nd) hi (by rw [C.hN, C.hsc]; exact blkOk_by ok) (fun s H c cl fp => (at_ s H c cl fp).1) (fun s H c cl fp => (at_ s H c cl fp).2.1) (fun s H c cl fp => (at_ s H c cl fp).2.2.1) (fun s H c cl fp => (at_ s H c cl fp).2.2.2) (fun j hj => by simpa using List.all_eq_true.mp hsub j hj) hs
section
variable {k : Nat} {N : List Str} {sc : Scope} {o i value : Expr} {oo oi : Opn} {m : ME} {p p' apos cpos tpos : Pos} {es : List Expr}
theorem Cs.getD (C : Cs X W k N sc) (ha : JO X W o oo) (hb : JO X W i oi) (hs : NoSl i) : JE X W (.Subscript o i pos) (m2 gGetD oo oi) := je_getD (by have := C.hu; omega) ha hb hs
theorem Cd.setD (C : Cd X W k N sc) (he : JE X W value m) (ho : JO X W o oo) (hi : JO X W i oi) (hs : swapsWith value (some (.Subscript o i p')) pos.line X.env = pure false := by rfl) : JS X W (.Assign [.Subscript o i p'] value pos) (mSetI gSetD oo oi m) :=
  js_setD (by have := C.toCs.hu; omega) he ho hi hs
end
end
end FL
namespace FL
open PySem L2
noncomputable def bSource : MS := (mSeq (mSet 2 (mIf (mTb (m2 (gEq true) (.v 0) (.e (mLst [])))) (m2 gIxL (.v 0) (.e (m2 gMod (.v 1) (.e (mC gLen [(.v 0)]))))) (mD (.int 1))))
    (mRet (mShare (mLst [(mV 2), (m2 gMulA (.e (mD (.int 3))) (.v 1)), (mIf (mTb (m2 gGe (.v 2) (.e (m2 gPow (.e (mD (.int 10))) (.e (mD (.int 18))))))) (m2 gDiv (.v 2) (.e (m2 gPow (.e (mD (.int 10))) (.e (mD (.int 18)))))) (mD (.int 0)))]))))
noncomputable def bNext : MS := (mSeq (mIfS (mTb (m2 gGt (.e (m2 gIxL (.v 0) (.e (mD (.int 2))))) (.e (mD (.int 0))))) (mSeq (mSet 2 (m2 gMod (.e (m2 gIxL (.v 0) (.e (mD (.int 2))))) (.v 1)))
    (mSeq (mSetI gSetL (.v 0) (.e (mD (.int 2))) (m2 gDiv (.e (m2 gIxL (.v 0) (.e (mD (.int 2))))) (.v 1)))
    (mRet (mV 2))))
    mPass)
    (mSeq (mSetI gSetL (.v 0) (.e (mD (.int 1))) (m2 gAdd (.e (m2 gIxL (.v 0) (.e (mD (.int 1))))) (.e (mD (.int 1)))))
    (mSeq (mSet 3 (mLst [(mD (.int 2147483647)), (mD (.int 2147483629)), (mD (.int 2147483587)), (mD (.int 2147483579)), (mD (.int 2147483563)), (mD (.int 2147483549)), (mD (.int 2147483543)), (mD (.int 2147483497))]))
    (mSeq (mSet 4 (m2 gIxL (.e (m2 gAdd (.v 3) (.e (mLst [(mD (.int 2147483489)), (mD (.int 2147483477)), (mD (.int 2147483423))])))) (.e (m2 gMod (.e (m2 gIxL (.v 0) (.e (mD (.int 1))))) (.e (mD (.int 11)))))))
    (mRet (m2 gMod (.e (m2 gDiv (.e (m2 gMod (.e (m2 gPow (.e (m2 gAdd (.e (m2 gAdd (.e (m2 gMod (.e (m2 gIxL (.v 0) (.e (mD (.int 0))))) (.v 4))) (.e (m2 gMulA (.e (mD (.int 7919))) (.e (m2 gIxL (.v 0) (.e (mD (.int 1))))))))) (.e (mD (.int 1))))) (.e (mD (.int 5))))) (.v 4))) (.e (mD (.int 13))))) (.v 1)))))))
noncomputable def mNext : MF := mFn 5 bNext
noncomputable def mSource : MF := mFn 3 bSource
noncomputable def bPick : MS := (mRet (m2 gIxL (.v 1) (.e (mCall mNext [(mV 0), (mC gLen [(.v 1)])] []))))
noncomputable def mPick : MF := mFn 2 bPick
def Src (μ : Mem) (j : Nat) (B : Int) : Prop := ∃ c i g : Int, μ[j]? = some (.lst [.int c, .int i, .int g]) ∧ 0 ≤ i ∧ i ≤ B ∧ 0 ≤ g
theorem Src.mono {μ : Mem} {j : Nat} {B B' : Int} (h : Src μ j B) (hb : B ≤ B') : Src μ j B' := by
  obtain ⟨c, i, g, h1, h2, h3, h4⟩ := h
  exact ⟨c, i, g, h1, h2, by omega, h4⟩
theorem Fr.refl {j : Nat} {μ : Mem} : Fr j μ μ := ⟨rfl, fun _ _ => rfl⟩
theorem ix0 {a b c : D} : L2.atI [a, b, c] 0 = some a := rfl
theorem ix1 {a b c : D} : L2.atI [a, b, c] 1 = some b := rfl
theorem ix2 {a b c : D} : L2.atI [a, b, c] 2 = some c := rfl
theorem ixn1 : ixN 3 1 = some 1 := rfl
theorem ixn2 : ixN 3 2 = some 2 := rfl
def primes : List Int := [2147483647, 2147483629, 2147483587, 2147483579, 2147483563, 2147483549, 2147483543, 2147483497, 2147483489, 2147483477, 2147483423]
theorem primes_at (r : Int) (h0 : 0 ≤ r) (h1 : r < 11) : ∃ p : Int, L2.atI (primes.map D.int) r = some (.int p) ∧ 2147483423 ≤ p ∧ p ≤ 2147483647 := by
  have e : r = 0 ∨ r = 1 ∨ r = 2 ∨ r = 3 ∨ r = 4 ∨ r = 5 ∨ r = 6 ∨ r = 7 ∨ r = 8 ∨ r = 9 ∨ r = 10 := by omega
  rcases e with rfl | rfl | rfl | rfl | rfl | rfl | rfl | rfl | rfl | rfl | rfl <;> exact ⟨_, rfl, by decide, by decide⟩
theorem next_spec {μ : Mem} {j : Nat} {n B : Int} (h : Src μ j B) (hB : B ≤ 2 ^ 40) (h0 : 0 < n) (hn : n ≤ 2 ^ 63) :
    ∃ r μ', mNext [.obj j, .int n] μ = .ok (.fr (.int r)) μ' ∧ 0 ≤ r ∧ r < n ∧ Src μ' j (B + 1) ∧ Fr j μ μ' := by
  obtain ⟨c, i, g, hm, i0, iB, g0⟩ := h
  have hj : j < μ.length := (List.getElem?_eq_some_iff.mp hm).1
  have hlog : n.natAbs.log2 < 9000 := by
    have : n.natAbs < 2 ^ 64 := by omega
    have := (Nat.log2_lt (by omega)).mpr this
    omega
  by_cases hg : 0 < g
  · refine ⟨g % n, μ.set j (.lst [.int c, .int i, .int (g / n)]), ?_, Int.emod_nonneg _ (by omega), Int.emod_lt_of_pos _ h0, ⟨c, i, g / n, by simp [hj], i0, by omega, Int.ediv_nonneg g0 (by omega)⟩, .set⟩
    simp [mNext, bNext, mFn_eq, mSeq, mIfS, mTb, m2, Opn.ev, mSet, mRet, mV, mD, mSetI, OR.at, look, startD, Out.bind, Out.thn, OutS.seq, OutS.fin, Slot.d, Own.d, lift, hm, gGt, gGtI, gTx, gInt, gMod, gDiv, gIxL, ix2, hg, h0, hlog, recv, gSetL, ixn2]
  · have e0 : g = 0 := by omega
    subst e0
    have hr0 : 0 ≤ (i + 1) % 11 := Int.emod_nonneg _ (by decide)
    have hr1 : (i + 1) % 11 < 11 := Int.emod_lt_of_pos _ (by decide)
    obtain ⟨p, ep, p0, p1⟩ := primes_at _ hr0 hr1
    have hc0 : 0 ≤ c % p := Int.emod_nonneg _ (by omega)
    have hc1 : c % p < p := Int.emod_lt_of_pos _ (by omega)
    have hbase : (c % p + 7919 * (i + 1) + 1).natAbs < 2 ^ 64 := by omega
    have hmul : Nat.log2 7919 + (i + 1).natAbs.log2 < 1000000 := by
      have h1 : Nat.log2 7919 = 12 := by decide +kernel
      have h2 : (i + 1).natAbs.log2 < 64 := (Nat.log2_lt (by omega)).mpr (by omega)
      omega
    have hp9 : 0 < p := by omega
    refine ⟨(c % p + 7919 * (i + 1) + 1) ^ 5 % p / 13 % n, μ.set j (.lst [.int c, .int (i + 1), .int 0]), ?_, Int.emod_nonneg _ (by omega), Int.emod_lt_of_pos _ h0, ⟨c, i + 1, 0, by simp [hj], by omega, by omega, by omega⟩, .set⟩
    have ep' : L2.atI [D.int 2147483647, .int 2147483629, .int 2147483587, .int 2147483579, .int 2147483563, .int 2147483549, .int 2147483543, .int 2147483497, .int 2147483489, .int 2147483477, .int 2147483423] ((i + 1) % 11) = some (.int p) := ep
    have hs : ∀ c : Own, (μ.set j c)[j]? = some c := fun c => List.getElem?_set_self hj
    have l13 : Nat.log2 13 < 9000 := by decide +kernel
    simp [mNext, bNext, mFn_eq, mSeq, mIfS, mTb, m2, Opn.ev, mSet, mRet, mV, mD, mSetI, mLst, evA, mPass, OR.at, look, startD, Out.bind, Out.thn, OutS.seq, OutS.fin, Slot.d, Own.d, lift, hm, hs, gGt, gGtI, gTx, gInt, gMod, gDiv, gPow, gMulA, gMul, gAdd, gAddS, gAddL, gAddT, gIxL, ix0, ix1, ix2, h0, hlog, recv, gSetL, ixn1, ep', hp9, hbase, hmul, l13]
theorem atI_nat {α : Type} {xs : List α} {r : Int} (h0 : 0 ≤ r) (h1 : r < xs.length) : ∃ x, L2.atI xs r = some x ∧ x ∈ xs := by
  have hr : r.toNat < xs.length := by omega
  refine ⟨xs[r.toNat], ?_, List.getElem_mem hr⟩
  unfold L2.atI ixN
  simp [h0, h1, hr]
theorem pick_lst {μ : Mem} {j : Nat} {B : Int} {xs : List D} (h : Src μ j B) (hB : B ≤ 2 ^ 40) (h0 : xs ≠ []) (hn : xs.length ≤ 2 ^ 24) :
    ∃ x μ', x ∈ xs ∧ mPick [.obj j, .lst xs] μ = .ok (.fr x) μ' ∧ Src μ' j (B + 1) ∧ Fr j μ μ' := by
  have hl : 0 < xs.length := List.length_pos_iff.mpr h0
  obtain ⟨r, μ', e, r0, r1, hs, hf⟩ := next_spec (n := xs.length) h hB (by omega) (by omega)
  obtain ⟨x, ex, hx⟩ := atI_nat r0 r1
  refine ⟨x, μ', hx, ?_, hs, hf⟩
  simp [mPick, bPick, mFn_eq, mRet, m2, Opn.ev, mCall, evA, mV, mC, evs, OR.ats, OR.at, look, startD, Out.bind, Out.thn, OutS.fin, Slot.d, gLen, gLen1, lift, e, gIxL, ex]
theorem pys_ints (ns : List Int) : D.pys (ns.map D.int) = some (ns.map PyData.int) := by
  induction ns with
  | nil => rfl
  | cons n ns ih => simp [D.pys, D.py, ih]
theorem canLay_ints (ns : List Int) : PyData.canLayAll0 (ns.map PyData.int) = true := by
  induction ns with
  | nil => simp [PyData.canLayAll0]
  | cons n ns ih => simp [PyData.canLayAll0, PyData.canLay0, ih]
theorem depth_ints (ns : List Int) : PyData.depthAll (ns.map PyData.int) = 0 := by
  induction ns with
  | nil => simp [PyData.depthAll]
  | cons n ns ih => simp [PyData.depthAll, PyData.depth, ih]
theorem shaped_ints (ns : List Int) : SeqAt.shaped (.list (ns.map PyData.int)) = true := by
  simp [SeqAt.shaped, PyData.canLay0, PyData.depth, canLay_ints, depth_ints]
theorem eq_ints_nil (neg : Bool) (ns : List Int) : gEq neg (.ro (ns.map .int)) (.lst []) = some (tb (decide (ns = []) != neg)) := by
  have h := shaped_ints ns
  have h0 := shaped_ints []
  have e : PyData.eqvAll (ns.map PyData.int) [] = decide (ns = []) := by cases ns <;> simp [PyData.eqvAll]
  simp only [List.map_nil] at h0
  simp [gEq, eqS, eqP, D.py, pys_ints, D.pys, h, h0, PyData.eqv, e]
theorem source_spec {ns : List Int} {k : Int} {μ : Mem} (hl : ns.length ≤ 63) (h0 : 0 ≤ k) (hk : k ≤ 2 ^ 40) :
    ∃ c g, 0 ≤ g ∧ mSource [.ro (ns.map .int), .int k] μ = .ok (.fr (.obj μ.length)) (μ ++ [.lst [.int c, .int (3 * k), .int g]]) := by
  have hmul : Nat.log2 3 + k.natAbs.log2 < 1000000 := by
    have h1 : Nat.log2 3 = 1 := by decide +kernel
    by_cases hz : k.natAbs = 0
    · rw [hz, h1]; decide +kernel
    · have h2 : k.natAbs.log2 < 64 := (Nat.log2_lt hz).mpr (by omega)
      omega
  have l10 : Nat.log2 1000000000000000000 < 9000 := by decide +kernel
  have core : ∀ c : Int, (ns = [] ∧ c = 1 ∨ ns ≠ [] ∧ L2.atI (ns.map D.int) (k % (ns.length : Int)) = some (.int c)) →
      ∃ g, 0 ≤ g ∧ mSource [.ro (ns.map .int), .int k] μ = .ok (.fr (.obj μ.length)) (μ ++ [.lst [.int c, .int (3 * k), .int g]]) := by
    intro c hc
    by_cases hb : 1000000000000000000 ≤ c
    · refine ⟨c / 1000000000000000000, Int.ediv_nonneg (by omega) (by decide), ?_⟩
      rcases hc with ⟨rfl, rfl⟩ | ⟨hne, hat⟩
      · omega
      · have hp := List.length_pos_iff.mpr hne
        simp [mSource, bSource, mFn_eq, mSeq, mIf, mTb, m2, Opn.ev, mSet, mRet, mV, mD, mLst, mShare, mC, evs, evA, OR.at, OR.ats, look, startD, Out.bind, Out.thn, OutS.seq, OutS.fin, Slot.d, Own.d, lift, eq_ints_nil, hne, gLen, gLen1, gMod, gInt, hp, gIxL, ixFx, hat, gMulA, gMul, hmul, gGe, gGeI, gPow, gDiv, l10, hb]
    · refine ⟨0, by decide, ?_⟩
      rcases hc with ⟨rfl, rfl⟩ | ⟨hne, hat⟩
      · have e0 : gEq true (.ro []) (.lst []) = some (tb false) := eq_ints_nil true []
        simp [mSource, bSource, mFn_eq, mSeq, mIf, mTb, m2, Opn.ev, mSet, mRet, mV, mD, mLst, mShare, mC, evs, evA, OR.at, OR.ats, look, startD, Out.bind, Out.thn, OutS.seq, OutS.fin, Slot.d, Own.d, lift, e0, gLen, gLen1, gMod, gInt, gIxL, ixFx, gMulA, gMul, hmul, gGe, gGeI, gPow, gDiv, l10, hb]
      · have hp := List.length_pos_iff.mpr hne
        simp [mSource, bSource, mFn_eq, mSeq, mIf, mTb, m2, Opn.ev, mSet, mRet, mV, mD, mLst, mShare, mC, evs, evA, OR.at, OR.ats, look, startD, Out.bind, Out.thn, OutS.seq, OutS.fin, Slot.d, Own.d, lift, eq_ints_nil, hne, gLen, gLen1, gMod, gInt, hp, gIxL, ixFx, hat, gMulA, gMul, hmul, gGe, gGeI, gPow, gDiv, l10, hb]
  by_cases hne : ns = []
  · obtain ⟨g, g0, e⟩ := core 1 (.inl ⟨hne, rfl⟩)
    exact ⟨1, g, g0, e⟩
  · have hp : 0 < (ns.length : Int) := by have := List.length_pos_iff.mpr hne; omega
    obtain ⟨x, ex, hx⟩ := atI_nat (xs := ns.map D.int) (r := k % (ns.length : Int)) (Int.emod_nonneg _ (by omega)) (by rw [List.length_map]; exact Int.emod_lt_of_pos _ hp)
    obtain ⟨c, _, rfl⟩ := List.mem_map.mp hx
    obtain ⟨g, g0, e⟩ := core c (.inr ⟨hne, ex⟩)
    exact ⟨c, g, g0, e⟩
end FL
namespace FL
open PySem L2
abbrev lo1 := PyProof.Rows.lo1
def WS : Tx := lit "abcdefghijklmnopqrstuvwxyz0123456789"
def stepW (st : List Tx × Tx) (c : Nat) : List Tx × Tx :=
  if c ∈ WS then (if (st.2 ++ [c]).length = 20 then (st.1 ++ [st.2 ++ [c]], []) else (st.1, st.2 ++ [c]))
  else if st.2 = [] then (st.1, []) else (st.1 ++ [st.2], [])
def finW (st : List Tx × Tx) : List Tx := if st.2 = [] then st.1 else st.1 ++ [st.2]
def wordsL (y : Tx) : List Tx := finW (y.foldl stepW ([], []))
def wordsT (x : Tx) : List Tx := wordsL (x.map lo1)
end FL
namespace FL
open PySem L2
theorem lcD_cons {f : TgF} {t : MT} {m : ME} {vs : List Nat} {d : D} {ds acc : List D} {δ : FL.Loc} {μ : Mem} : lcD f t m vs (d :: ds) acc δ μ = (match f d δ with
    | none => .bad
    | some δ' => (t δ' μ).cut.bind fun b δ2 μ2 => if b = true then (m δ2 μ2).cut.bind fun s δ3 μ3 => if acc.length < 16777216 then lcD f t m vs ds (acc ++ [s.d]) (wipeD δ3 vs) μ3 else .bad
      else lcD f t m vs ds acc (wipeD δ2 vs) μ2) := rfl
theorem seq_nx {m n : MS} {δ δ1 : FL.Loc} {μ μ1 : Mem} (h : m δ μ = .nx δ1 μ1) : mSeq m n δ μ = n δ1 μ1 := by unfold mSeq; rw [h]; rfl
theorem kitB_ss : kitB "str" "str" = some true := by kernel_rfl
theorem stepW_pre (f f' : List Tx) (r : Tx) (c : Nat) : stepW (f ++ f', r) c = (f ++ (stepW (f', r) c).1, (stepW (f', r) c).2) := by
  unfold stepW
  dsimp only
  split
  · split <;> simp
  · split <;> simp
theorem foldW_pre (y : Tx) : ∀ (f f' : List Tx) (r : Tx), y.foldl stepW (f ++ f', r) = (f ++ (y.foldl stepW (f', r)).1, (y.foldl stepW (f', r)).2) := by
  induction y with
  | nil => intro f f' r; rfl
  | cons c y ih =>
    intro f f' r
    rw [List.foldl_cons, List.foldl_cons, stepW_pre]
    exact ih f _ _
theorem finW_pre (f : List Tx) (st : List Tx × Tx) : finW (f ++ st.1, st.2) = f ++ finW st := by
  unfold finW
  dsimp only
  split <;> simp
theorem foldW_gap {g : Tx} (hg : ∀ c ∈ g, c ∉ WS) (h0 : g ≠ []) : ∀ st : List Tx × Tx, g.foldl stepW st = (finW st, []) := by
  have key : ∀ (g : Tx), (∀ c ∈ g, c ∉ WS) → ∀ f : List Tx, g.foldl stepW (f, []) = (f, []) := by
    intro g
    induction g with
    | nil => intro _ f; rfl
    | cons c g ih =>
      intro h f
      have hc : c ∉ WS := h c (List.mem_cons_self ..)
      rw [List.foldl_cons]
      have e : stepW (f, []) c = (f, []) := by unfold stepW; simp [hc]
      rw [e]
      exact ih (fun d hd => h d (List.mem_cons_of_mem _ hd)) f
  cases g with
  | nil => exact absurd rfl h0
  | cons c g =>
    intro st
    have hc : c ∉ WS := hg c (List.mem_cons_self ..)
    rw [List.foldl_cons]
    have e : stepW st c = (finW st, []) := by
      unfold stepW finW
      rw [if_neg hc]
      split <;> rfl
    rw [e]
    exact key g (fun d hd => hg d (List.mem_cons_of_mem _ hd)) _
theorem wordsL_gap {x g y : Tx} (hg : ∀ c ∈ g, c ∉ WS) (h0 : g ≠ []) : wordsL (x ++ g ++ y) = wordsL x ++ wordsL y := by
  unfold wordsL
  rw [List.foldl_append, List.foldl_append, foldW_gap hg h0]
  generalize finW (x.foldl stepW ([], [])) = f
  have := foldW_pre y f [] []
  rw [List.append_nil] at this
  rw [this, finW_pre]
theorem wordsL_nil : wordsL [] = [] := rfl
theorem wordsL_gap1 {x g : Tx} (hg : ∀ c ∈ g, c ∉ WS) (h0 : g ≠ []) : wordsL (x ++ g) = wordsL x := by
  have := wordsL_gap (x := x) (y := []) hg h0
  simpa [wordsL_nil] using this
theorem foldW_run {x : Tx} (hx : ∀ c ∈ x, c ∈ WS) : ∀ (f : List Tx) (r : Tx), r.length < 20 → (∀ p ∈ f, p.length = 20) →
    ∃ f' r', x.foldl stepW (f, r) = (f', r') ∧ f'.flatten ++ r' = f.flatten ++ r ++ x ∧ (∀ p ∈ f', p.length = 20) ∧ r'.length < 20 := by
  induction x with
  | nil => intro f r hr hf; exact ⟨f, r, rfl, by simp, hf, hr⟩
  | cons c x ih =>
    intro f r hr hf
    have hc : c ∈ WS := hx c (List.mem_cons_self ..)
    have ih := ih fun d hd => hx d (List.mem_cons_of_mem _ hd)
    rw [List.foldl_cons]
    unfold stepW
    rw [if_pos hc]
    by_cases hl : (r ++ [c]).length = 20
    · rw [if_pos hl]
      obtain ⟨f', r', e, h1, h2, h3⟩ := ih (f ++ [r ++ [c]]) [] (by simp) (fun p hp => by
        rcases List.mem_append.mp hp with hp | hp
        · exact hf p hp
        · rw [List.mem_singleton.mp hp]; exact hl)
      exact ⟨f', r', e, by rw [h1]; simp, h2, h3⟩
    · rw [if_neg hl]
      have hl' : (r ++ [c]).length < 20 := by simp at hl ⊢; omega
      obtain ⟨f', r', e, h1, h2, h3⟩ := ih f (r ++ [c]) hl' hf
      exact ⟨f', r', e, by rw [h1]; simp, h2, h3⟩
theorem flat_len {f : List Tx} (h : ∀ p ∈ f, p.length = 20) : f.flatten.length = 20 * f.length := by
  induction f with
  | nil => rfl
  | cons p f ih =>
    rw [List.flatten_cons, List.length_append, List.length_cons, h p (List.mem_cons_self ..), ih fun q hq => h q (List.mem_cons_of_mem _ hq)]
    omega
theorem wordsL_run {x : Tx} (hx : ∀ c ∈ x, c ∈ WS) (h0 : x ≠ []) : ∃ f l, wordsL x = f ++ [l] ∧ (f ++ [l]).flatten = x ∧ (∀ p ∈ f, p.length = 20) ∧ 1 ≤ l.length ∧ l.length ≤ 20 ∧ (f.length + 1) = (x.length + 19) / 20 := by
  obtain ⟨f, r, e, h1, h2, h3⟩ := foldW_run hx [] [] (by simp) (by simp)
  have hlen := congrArg List.length h1
  simp only [List.flatten_nil, List.nil_append, List.length_append, flat_len h2] at hlen
  have hx0 := List.length_pos_iff.mpr h0
  unfold wordsL
  rw [e]
  unfold finW
  by_cases hr : r = []
  · subst hr
    rw [if_pos rfl]
    simp only [List.length_nil, Nat.add_zero] at hlen
    have hf : f ≠ [] := by rintro rfl; simp at hlen; omega
    have ef := (List.dropLast_concat_getLast hf).symm
    refine ⟨f.dropLast, f.getLast hf, ef, by rw [← ef]; simpa using h1, fun p hp => h2 p ((List.dropLast_sublist f).subset hp), by rw [h2 _ (List.getLast_mem hf)]; decide, by rw [h2 _ (List.getLast_mem hf)]; decide, ?_⟩
    have := List.length_pos_iff.mpr hf
    rw [List.length_dropLast]
    omega
  · rw [if_neg hr]
    have hr0 := List.length_pos_iff.mpr hr
    exact ⟨f, r, rfl, by rw [List.flatten_append]; simpa using h1, h2, hr0, by omega, by omega⟩
theorem strOk_ascii {x : Tx} (h : ∀ c ∈ x, c < 128) : PyData.canLay0 (.str (toS x)) = true := by
  simp only [PyData.canLay0, PyData.strOk, toS]
  simp only [List.all_toArray, List.all_eq_true, decide_eq_true_eq]
  intro c hc
  have := h c hc
  omega
end FL
namespace FL
open PySem L2
theorem Sh.mono {d n e m : Nat} {x : D} (h : Sh d n x) (h1 : d ≤ e) (h2 : n ≤ m) : Sh e m x :=
  let ⟨q, a, b, c, l, g, k⟩ := h
  ⟨q, a, b, c, l, Nat.le_trans g h1, Nat.le_trans k h2⟩
theorem Sh.same {d n : Nat} {x : D} (neg : Bool) (h : Sh d n x) (h1 : d ≤ 64) (h2 : eqS x x = none) : gEq neg x x = some (tb (true != neg)) := by
  obtain ⟨q, a, b, c, l, g, k⟩ := h
  have s : SeqAt.shaped q = true := by
    unfold SeqAt.shaped
    rw [l, decide_eq_true (show q.depth ≤ 64 by omega)]
    rfl
  simp [gEq, h2, eqP, a, s, SeqAt.eqv_refl q l]
end FL
namespace FL
open PySem PySem.Spec PyProof.Rows L2
section
variable {X : Cx} {W : WX} {k : Nat} {N : List Str} {sc : Scope} {x : Str} {pos : Pos}
def TupS (K : PySem.W.Frag) (mg : Str → Option Value) (x : Str) (xs : List Tx) : Prop :=
  ∃ (a : Addr) (o : Obj) (its : List Value) (n : Nat), mg x = some (.ref a) ∧ K.lookup a = some o ∧ o.cls = .type "tuple" ∧ o.data = .seq its.toArray n ∧ StrsAre its (xs.map toS) ∧ xs.length ≤ sizeLine
theorem vals_tx : ∀ {its : List Value} {xs : List Tx}, StrsAre its (xs.map toS) → Vals ((xs.map toS).map V.str) its
  | [], [], _ => .nil
  | _ :: _, x :: xs, h => by
    cases h with
    | cons y t r => exact .cons ⟨t, rfl⟩ (vals_tx r)
  | [], _ :: _, h => by cases h
  | _ :: _, [], h => by cases h
theorem Cs.gTupS {xs : List Tx} (C : Cs X W k N sc) (h : glC sc x = true) (hm : TupS X.K X.mg x xs) : JE X W (.Name x pos) (mD (.tup (xs.map .str))) := by
  obtain ⟨g1, g2, g3⟩ := C.gl h
  obtain ⟨a, o, its, n, e1, e2, e3, e4, e5, e6⟩ := hm
  refine je_mod g1 e1 (v := .ref a) rfl (fun F ρ => .tup (vs := (xs.map toS).map V.str) (.inr ⟨o, its.toArray, n, e2, e3, e4, ?_, by simpa using vals_tx e5⟩) (RepL.ofStrs _)) g2
  have l := (vals_tx e5).length
  rw [List.length_map, List.length_map] at l
  rw [List.size_toArray, ← l]
  exact e6
end
end FL
namespace FL
open PySem PySem.Spec PyProof.Rows L2
section
variable {K : PySem.W.Frag} {c f s : Str}
theorem tFld_ok (h : tFld c f K = true) : Cls K (He.ga K c) ∧ NoAttr K (He.ga K c) f :=
  let ⟨a, b⟩ := Bool.and_eq_true_iff.mp h
  ⟨He.cls_ok a, He.noat_ok b⟩
theorem tCon_ok (h : tCon c f s K = true) : Cls K (He.ga K c) ∧ ∃ u, Con K (He.ga K c) f (.str s) u := by
  obtain ⟨a, b⟩ := Bool.and_eq_true_iff.mp h
  refine ⟨He.cls_ok a, ?_⟩
  split at b
  · rename_i y t e
    obtain ⟨b1, b2⟩ := Bool.and_eq_true_iff.mp b
    obtain ⟨b2, b3⟩ := Bool.and_eq_true_iff.mp b2
    have b1 := of_decide_eq_true b1
    subst b1
    exact ⟨_, e, ⟨t, rfl⟩, of_decide_eq_true b2, by simpa using b3⟩
  · cases b
theorem tPrp_ok (h : tPrp c f K = true) : Cls K (He.ga K c) ∧ PropOf K (He.ga K c) f (He.ma K (He.ga K c) f) (fAdF K (c, some f)) := by
  obtain ⟨a, b⟩ := Bool.and_eq_true_iff.mp h
  obtain ⟨b1, b⟩ := Bool.and_eq_true_iff.mp b
  obtain ⟨b2, b⟩ := Bool.and_eq_true_iff.mp b
  obtain ⟨b3, b⟩ := Bool.and_eq_true_iff.mp b
  refine ⟨He.cls_ok a, of_decide_eq_true b1, of_decide_eq_true b2, of_decide_eq_true b3, ?_⟩
  split at b
  · rename_i g r e
    refine ⟨r, ?_⟩
    rw [e]
    have : fAdF K (c, some f) = g := by
      unfold fAdF
      rw [show He.fAd K (c, some f) = He.ma K (He.ga K c) f from rfl, e]
    rw [this]
  · cases b
theorem tInit_ok (h : tInit c f K = true) : fAdF K (c, some f) = He.ma K (He.ga K c) f := of_decide_eq_true h
theorem strsB_ok : ∀ {vs : List Value} {xs : List Str}, strsB vs xs = true → StrsAre vs xs
  | [], [], _ => .nil
  | .str y t :: vs, x :: xs, h => by
    obtain ⟨a, b⟩ := Bool.and_eq_true_iff.mp (show (decide (y = x) && strsB vs xs) = true from h)
    have a := of_decide_eq_true a
    subst a
    exact .cons y t (strsB_ok b)
  | [], _ :: _, h => by cases h
  | v :: _, [], h => by cases v <;> cases h
theorem tTup_ok {h : Heap} {mg : Str → Option Value} {x : Str} {xs : List Tx} (X : K.In h) (G : h.Ns mainGlobals mg) (t : tTup x (xs.map toS) K = true) : TupS K mg x xs := by
  unfold tTup at t
  split at t
  · rename_i a e
    split at t
    · rename_i T od its n sl lk
      obtain ⟨t1, t2⟩ := Bool.and_eq_true_iff.mp t
      obtain ⟨t2, t3⟩ := Bool.and_eq_true_iff.mp t2
      have t1 := of_decide_eq_true t1
      subst t1
      refine ⟨a, _, its.toList, n, PySem.W.mg_of X G e, lk, rfl, rfl, strsB_ok t2, ?_⟩
      have t3 := of_decide_eq_true t3
      rw [List.length_map] at t3
      rw [line_eq]
      omega
    · cases t
  · cases t
theorem tSup_ok {D B : Str} (t : tSup c D B f K = true) : ∃ cdC og, PySem.W.clsIn K (He.ga K c) = some cdC ∧ PySem.W.alongIn K f ((cdC.mro.dropWhile (· != .ref (He.ga K D))).drop 1) = some (some (.ref (fAdF K (B, some f)))) ∧ K.lookup (fAdF K (B, some f)) = some og ∧ og.cls = .type "function" ∧
    PySem.W.fnIn K (fAdF K (B, some f)) = true ∧ PySem.W.mroIn K (He.ga K c) (.ref (He.ga K D)) = some true := by
  obtain ⟨t1, t2⟩ := Bool.and_eq_true_iff.mp t
  obtain ⟨t2, t3⟩ := Bool.and_eq_true_iff.mp t2
  obtain ⟨t3, t4⟩ := Bool.and_eq_true_iff.mp t3
  split at t1
  · rename_i cd e1
    split at t2
    · rename_i T od dt sl e2
      have t2 := of_decide_eq_true t2
      subst t2
      exact ⟨cd, _, e1, of_decide_eq_true t1, e2, rfl, t3, of_decide_eq_true t4⟩
    · cases t2
  · cases t1
end
end FL
namespace FL
open PySem L2
section
variable {α β : Type} {a : α} {δ : FL.Loc} {μ : Mem} {x : Exc} {s : FL.Slot}
@[simp] theorem ev_l1 {k : MS} : (OutS.nx δ μ).loop k = k δ μ := rfl
@[simp] theorem ev_l2 {k : MS} : (OutS.ct δ μ).loop k = k δ μ := rfl
@[simp] theorem ev_l3 {k : MS} : (OutS.bk δ μ).loop k = .nx δ μ := rfl
@[simp] theorem ev_l4 {k : MS} : (OutS.rt s μ).loop k = .rt s μ := rfl
@[simp] theorem ev_l5 {k : MS} : (OutS.exc x δ μ).loop k = .exc x δ μ := rfl
@[simp] theorem ev_f1 : (OutS.nx δ μ).fin = .ok (.fr .non) μ := rfl
@[simp] theorem ev_f2 : (OutS.rt s μ).fin = .ok s μ := rfl
@[simp] theorem ev_f3 : (OutS.exc x δ μ).fin = .exc x μ := rfl
end
noncomputable def r1K (j : Int) (δ : FL.Loc) (μ : Mem) : Out (List D) := Classical.choose (sealed (if -(2 ^ 62) ≤ j ∧ j < 2 ^ 62 then Out.ok (rangeD 0 j.toNat) δ μ else .bad))
theorem r1K_eq {j : Int} {δ : FL.Loc} {μ : Mem} : r1K j δ μ = if -(2 ^ 62) ≤ j ∧ j < 2 ^ 62 then .ok (rangeD 0 j.toNat) δ μ else .bad := Classical.choose_spec (sealed _)
@[simp] theorem r1K_ok {j : Int} {δ : FL.Loc} {μ : Mem} (h1 : -1000000000 ≤ j) (h2 : j ≤ 1000000000) : r1K j δ μ = .ok (rangeD 0 j.toNat) δ μ := by rw [r1K_eq]; exact if_pos ⟨by omega, by omega⟩
section
variable {δ : FL.Loc} {μ : Mem} {m n : ME} {t u : MT} {p q : MS} {o oa ob oc : Opn} {os : List Opn} {ms : List ME} {d : D} {ds dds : List D} {i j k : Nat} {f : TgF} {g : D → D → Option FL.Slot}
@[simp] theorem ev_ats0 : OR.ats δ μ [] = some [] := rfl
@[simp] theorem ev_ats1 {r : OR} {rs : List OR} : OR.ats δ μ (r :: rs) = (match r.at δ μ, OR.ats δ μ rs with | some x, some xs => some (x :: xs) | _, _ => none) := rfl
@[simp] theorem ev_evs0 : evs [] δ μ = .ok [] δ μ := rfl
@[simp] theorem ev_evs1 : evs (o :: os) δ μ = (o.ev δ μ).bind fun r δ1 μ1 => (evs os δ1 μ1).bind fun rs δ2 μ2 => .ok (r :: rs) δ2 μ2 := rfl
@[simp] theorem ev_evA0 : evA [] δ μ = .ok [] δ μ := rfl
@[simp] theorem ev_evA1 : evA (m :: ms) δ μ = (m δ μ).bind fun s δ1 μ1 => (evA ms δ1 μ1).bind fun ds δ2 μ2 => .ok (s.d :: ds) δ2 μ2 := rfl
@[simp] theorem ev_lift1 {s : FL.Slot} : lift (some s) δ μ = .ok s δ μ := rfl
@[simp] theorem ev_2 : m2 g oa ob δ μ = (oa.ev δ μ).bind fun ra δ1 μ1 => (ob.ev δ1 μ1).bind fun rb δ2 μ2 => match ra.at δ2 μ2, rb.at δ2 μ2 with | some da, some db => lift (g da db) δ2 μ2 | _, _ => .bad := rfl
@[simp] theorem ev_Tb : mTb m δ μ = (m δ μ).bind fun s δ1 μ1 => match s with | .fr (.bl b) => .ok b δ1 μ1 | _ => .bad := rfl
@[simp] theorem ev_Not : mNot t δ μ = (t δ μ).bind fun b δ1 μ1 => .ok (!b) δ1 μ1 := rfl
@[simp] theorem ev_Or : mOr t u δ μ = (t δ μ).bind fun b δ1 μ1 => if b = true then .ok true δ1 μ1 else u δ1 μ1 := rfl
@[simp] theorem ev_If : mIf t m n δ μ = (t δ μ).bind fun b δ1 μ1 => if b = true then m δ1 μ1 else n δ1 μ1 := rfl
@[simp] theorem ev_AndV : mAndV m n δ μ = (m δ μ).bind fun s δ1 μ1 => match s with | .fr (.bl true) => n δ1 μ1 | .fr (.bl false) => .ok (.fr (.bl false)) δ1 μ1 | _ => .bad := rfl
@[simp] theorem ev_Tup : mTup ms δ μ = (evA ms δ μ).bind fun ds δ1 μ1 => if ds.length ≤ 16777216 then .ok (.fr (.tup ds)) δ1 μ1 else .bad := rfl
@[simp] theorem ev_Lst : mLst ms δ μ = (evA ms δ μ).bind fun ds δ1 μ1 => if ds.length ≤ 16777216 then .ok (.own (.lst ds)) δ1 μ1 else .bad := rfl
@[simp] theorem ev_Share : mShare m δ μ = (m δ μ).bind fun s δ1 μ1 => match s with | .own o => .ok (.fr (.obj μ1.length)) δ1 (μ1 ++ [o]) | _ => .bad := rfl
@[simp] theorem ev_C {g : List D → Option FL.Slot} : mC g os δ μ = (evs os δ μ).bind fun rs δ1 μ1 => match OR.ats δ1 μ1 rs with | some ds => lift (g ds) δ1 μ1 | none => .bad := rfl
@[simp] theorem ev_Pass : mPass δ μ = .nx δ μ := rfl
@[simp] theorem ev_Seq : mSeq p q δ μ = (p δ μ).seq q := rfl
@[simp] theorem ev_Ex : mEx m δ μ = (m δ μ).thn fun _ δ1 μ1 => .nx δ1 μ1 := rfl
@[simp] theorem ev_Ret : mRet m δ μ = (m δ μ).thn fun s _ μ1 => .rt s μ1 := rfl
@[simp] theorem ev_IfS : mIfS t p q δ μ = (t δ μ).thn fun b δ1 μ1 => if b = true then p δ1 μ1 else q δ1 μ1 := rfl
@[simp] theorem ev_NoP : mNoP δ μ = .ok none δ μ := rfl
@[simp] theorem ev_P : mP m δ μ = (m δ μ).bind fun s δ1 μ1 => match s with | .fr (.int i) => .ok (some i) δ1 μ1 | _ => .bad := rfl
@[simp] theorem ev_Sl {g : D → Option Int → Option Int → Option FL.Slot} {lo hi : MM (Option Int)} : mSl g o lo hi δ μ = (o.ev δ μ).bind fun r δ1 μ1 => (lo δ1 μ1).bind fun l δ2 μ2 => (hi δ2 μ2).bind fun h δ3 μ3 => match r.at δ3 μ3 with | some d => lift (g d l h) δ3 μ3 | none => .bad := rfl
@[simp] theorem ev_SetI {g : Own → D → D → Option Own} : mSetI g oa ob m δ μ = (m δ μ).thn fun s δ1 μ1 => (oa.ev δ1 μ1).thn fun r δ2 μ2 => (ob.ev δ2 μ2).thn fun ri δ3 μ3 => match recv δ3 μ3 r, ri.at δ3 μ3 with | some (c, w), some di => (match g c di s.d with | some c' => .nx (w c').1 (w c').2 | none => .bad) | _, _ => .bad := rfl
@[simp] theorem ev_Fn {b : MS} : mFn i b ds μ = (b (startD i ds) μ).fin := mFn_eq
@[simp] theorem ev_Call {h : MF} : mCall h ms dds δ μ = (evA ms δ μ).bind fun ds δ1 μ1 => match h (ds ++ dds) μ1 with | .ok s μ2 => .ok s δ1 μ2 | .exc x μ2 => .exc x δ1 μ2 | .bad => .bad := rfl
@[simp] theorem ev_Raise {c a : String} : mRaise c a m δ μ = (m δ μ).thn fun s δ1 μ1 => .exc ⟨c, a, s.d⟩ δ1 μ1 := rfl
@[simp] theorem ev_Par : mPar i j m n δ μ = (m δ μ).thn fun s δ1 μ1 => (n δ1 μ1).thn fun s' δ2 μ2 => .nx ((δ2.set i (some s)).set j (some s')) μ2 := rfl
@[simp] theorem ev_Asg : mAsg f m δ μ = (m δ μ).thn fun s δ1 μ1 => match f s.d δ1 with | some δ2 => .nx δ2 μ1 | none => .bad := rfl
@[simp] theorem ev_It : mIt m δ μ = (m δ μ).bind fun s δ1 μ1 => match itA s.d with | some ds => .ok ds δ1 μ1 | none => .bad := rfl
@[simp] theorem ev_R1 : mRange1 o δ μ = (evs [o] δ μ).bind fun rs δ1 μ1 => match OR.ats δ1 μ1 rs with | some [.int j] => r1K j δ1 μ1 | _ => .bad := by
  simp only [r1K_eq]; rfl
@[simp] theorem ev_For {mi : MM (List D)} : mFor mi f p δ μ = (mi δ μ).thn fun ds δ1 μ1 => forD (turnD f p) ds δ1 μ1 := rfl
@[simp] theorem ev_turn : turnD f p d δ μ = (match f d δ with | some δ' => p δ' μ | none => .bad) := rfl
@[simp] theorem ev_yes : mYes δ μ = .ok true δ μ := rfl
@[simp] theorem ev_rc1 {d : D} : recv δ μ (.d d) = (match d with | .obj k => (match μ[k]? with | some c => some (c, fun c' => (δ, μ.set k c')) | none => none) | _ => none) := by cases d <;> rfl
@[simp] theorem ev_rc2 : recv δ μ (.i j) = (match δ[j]? with
    | some (some (.own c)) => some (c, fun c' => (δ.set j (some (.own c')), μ))
    | some (some (.fr (.obj k))) => (match μ[k]? with
      | some c => some (c, fun c' => (δ, μ.set k c'))
      | none => none)
    | _ => none) := by
  cases h : δ[j]? with
  | none => simp [recv, h]
  | some o =>
    cases o with
    | none => simp [recv, h]
    | some s =>
      cases s with
      | own c => simp [recv, h]
      | fr d =>
        cases d <;> first
          | (simp [recv, h]; done)
          | (rename_i k; cases hh : μ[k]? <;> simp [recv, h, hh])
@[simp] theorem ev_ia1 {xs : List D} : itA (.lst xs) = some xs := rfl
@[simp] theorem ev_ia2 {xs : List D} : itA (.tup xs) = some xs := rfl
@[simp] theorem ev_ia3 {x : Tx} : itA (.str x) = some (chars x) := rfl
@[simp] theorem ev_iarc {xs : List D} : itA (.rc xs) = some xs := rfl
@[simp] theorem ev_ia4 {xs : List D} : itA (.ro xs) = some xs := rfl
@[simp] theorem ev_for0 {g : D → MS} : forD g [] δ μ = .nx δ μ := rfl
end
section
variable {i j : Int} {x y : Tx} {b c : Bool} {xs ys : List D}
@[simp] theorem ev_addI : gAdd (.int i) (.int j) = some (.fr (.int (i + j))) := rfl
@[simp] theorem ev_addS : gAdd (.str x) (.str y) = if x.length + y.length ≤ 16777216 then some (.fr (.str (x ++ y))) else none := by
  by_cases h : x.length + y.length ≤ 16777216 <;> simp [gAdd, gInt, gAddS, gAddL, gAddT, h]
@[simp] theorem ev_addL : gAdd (.lst xs) (.lst ys) = if xs.length + ys.length ≤ 16777216 then some (.own (.lst (xs ++ ys))) else none := by
  by_cases h : xs.length + ys.length ≤ 16777216 <;> simp [gAdd, gInt, gAddS, gAddL, gAddT, h]
@[simp] theorem ev_subI : gSub (.int i) (.int j) = some (.fr (.int (i - j))) := rfl
@[simp] theorem ev_ltI : gLt (.int i) (.int j) = some (.fr (.bl (decide (i < j)))) := rfl
@[simp] theorem ev_leI : gLe (.int i) (.int j) = some (.fr (.bl (decide (i ≤ j)))) := rfl
@[simp] theorem ev_gtI : gGt (.int i) (.int j) = some (.fr (.bl (decide (j < i)))) := rfl
@[simp] theorem ev_geI : gGe (.int i) (.int j) = some (.fr (.bl (decide (j ≤ i)))) := rfl
@[simp] theorem ev_eqI {n : Bool} : gEq n (.int i) (.int j) = some (.fr (.bl (decide (i = j) != n))) := rfl
@[simp] theorem ev_eqS {n : Bool} : gEq n (.str x) (.str y) = some (.fr (.bl (decide (x = y) != n))) := rfl
@[simp] theorem ev_eqB {n : Bool} : gEq n (.bl b) (.bl c) = some (.fr (.bl (decide (b = c) != n))) := rfl
@[simp] theorem ev_eqNN {n : Bool} : gEq n .non .non = some (.fr (.bl (true != n))) := rfl
@[simp] theorem ev_eqNI {n : Bool} : gEq n .non (.int i) = some (.fr (.bl (false != n))) := rfl
@[simp] theorem ev_eqIN {n : Bool} : gEq n (.int i) .non = some (.fr (.bl (false != n))) := rfl
@[simp] theorem ev_eqNS {n : Bool} : gEq n .non (.str x) = some (.fr (.bl (false != n))) := rfl
@[simp] theorem ev_eqSN {n : Bool} : gEq n (.str x) .non = some (.fr (.bl (false != n))) := rfl
@[simp] theorem ev_lenS : gLen [.str x] = if x.length ≤ 16777216 then some (.fr (.int x.length)) else none := rfl
@[simp] theorem ev_lenL : gLen [.lst xs] = some (.fr (.int xs.length)) := rfl
@[simp] theorem ev_lenT : gLen [.tup xs] = some (.fr (.int xs.length)) := rfl
@[simp] theorem ev_lenrc {xs : List D} : gLen [.rc xs] = some (.fr (.int xs.length)) := rfl
@[simp] theorem ev_ixrc {xs : List D} {i : Int} : gIxL (.rc xs) (.int i) = (L2.atI xs i).map .fr := rfl
@[simp] theorem ev_lenR : gLen [.ro xs] = some (.fr (.int xs.length)) := rfl
@[simp] theorem ev_ixL : gIxL (.lst xs) (.int i) = (L2.atI xs i).map .fr := rfl
@[simp] theorem ev_ixT : gIxL (.tup xs) (.int i) = (L2.atI xs i).map .fr := rfl
@[simp] theorem ev_ixR : gIxL (.ro xs) (.int i) = (L2.atI xs i).map .fr := rfl
@[simp] theorem ev_ixS : gIxL (.str x) (.int i) = if x.length ≤ 16777216 then (L2.atI x i).map fun c => .fr (.str [c]) else none := rfl
@[simp] theorem ev_inS {n : Bool} {c : Nat} : gIn n (.str [c]) (.str x) = some (.fr (.bl (decide (c ∈ x) != n))) := rfl
@[simp] theorem ev_isN1 {n : Bool} : gIsN n .non .non = some (.fr (.bl (true != n))) := rfl
@[simp] theorem ev_isN2 {n : Bool} : gIsN n (.int i) .non = some (.fr (.bl (false != n))) := rfl
@[simp] theorem ev_isN3 {n : Bool} : gIsN n (.str x) .non = some (.fr (.bl (false != n))) := rfl
@[simp] theorem ev_isN4 {n : Bool} : gIsN n (.tup xs) .non = some (.fr (.bl (false != n))) := rfl
@[simp] theorem ev_isN5 {n : Bool} : gIsN n (.lst xs) .non = some (.fr (.bl (false != n))) := rfl
@[simp] theorem ev_isN6 {n : Bool} {c a : String} {d : D} : gIsN n (.exn c a d) .non = some (.fr (.bl (false != n))) := rfl
@[simp] theorem ev_isN7 {n : Bool} : gIsN n (.bl b) .non = some (.fr (.bl (false != n))) := rfl
@[simp] theorem ev_slS {lo hi : Option Int} : gSl (.str x) lo hi = if x.length ≤ 16777216 then some (.fr (.str (cutD x lo hi))) else none := by
  by_cases h : x.length ≤ 16777216 <;> simp [gSl, h]
@[simp] theorem ev_slL {lo hi : Option Int} : gSl (.lst xs) lo hi = some (.own (.lst (cutD xs lo hi))) := rfl
@[simp] theorem ev_slR {lo hi : Option Int} : gSl (.ro xs) lo hi = some (.own (.lst (cutD xs lo hi))) := rfl
@[simp] theorem ev_slT {lo hi : Option Int} : gSl (.tup xs) lo hi = some (.fr (.tup (cutD xs lo hi))) := rfl
@[simp] theorem ev_max2 : gMax2 [.int i, .int j] = some (.fr (.int (if j > i then j else i))) := rfl
@[simp] theorem ev_min2 : gMin2 [.int i, .int j] = some (.fr (.int (if j < i then j else i))) := rfl
end
def Nx (r : OutS) (P : FL.Loc → Mem → Prop) : Prop := ∃ δ μ, r = .nx δ μ ∧ P δ μ
def Ok {α : Type} (r : Out α) (P : α → FL.Loc → Mem → Prop) : Prop := ∃ a δ μ, r = .ok a δ μ ∧ P a δ μ
@[simp] theorem Nx_nx {δ : FL.Loc} {μ : Mem} {P : FL.Loc → Mem → Prop} : Nx (.nx δ μ) P ↔ P δ μ :=
  ⟨fun ⟨_, _, e, p⟩ => by cases e; exact p, fun p => ⟨_, _, rfl, p⟩⟩
@[simp] theorem Ok_ok {α : Type} {a : α} {δ : FL.Loc} {μ : Mem} {P : α → FL.Loc → Mem → Prop} : Ok (.ok a δ μ) P ↔ P a δ μ :=
  ⟨fun ⟨_, _, _, e, p⟩ => by cases e; exact p, fun p => ⟨_, _, _, rfl, p⟩⟩
theorem Nx.imp {r : OutS} {P P' : FL.Loc → Mem → Prop} (h : Nx r P) (i : ∀ δ μ, P δ μ → P' δ μ) : Nx r P' := let ⟨δ, μ, e, p⟩ := h; ⟨δ, μ, e, i δ μ p⟩
section
variable {δ : FL.Loc} {μ : Mem} {m : ME}
@[simp] theorem ev_Lam {h : (Mem → OutF) → Mem → OutF} {j : Nat} {P : Addr} {q : Str} : mLam h j P q m δ μ = (match μ[j]? with
  | some (.tab P' q') => if P' = P ∧ q' = q then (match h (actOf m δ) μ with
    | .ok s μ' => .ok s δ μ'
    | .exc x μ' => .exc x δ μ'
    | .bad => .bad) else .bad
  | _ => .bad) := rfl
@[simp] theorem ev_act : actOf m δ μ = (match m (hide δ) μ with
  | .ok s _ μ' => .ok s μ'
  | .exc x _ μ' => .exc x μ'
  | .bad => .bad) := rfl
@[simp] theorem ev_Dct0 : mDct0 δ μ = .ok (.own (.dct [] [])) δ μ := rfl
end
theorem Fr.at0 {j : Nat} {μ μ' : Mem} {o : Own} (h : Fr j μ μ') (hj : j ≠ 0) (e : μ[0]? = some o) : μ'[0]? = some o := by rw [h.2 0 (Ne.symm hj)]; exact e
theorem forNx_at {g : D → MS} (I : Nat → FL.Loc → Mem → Prop) : ∀ (ds : List D) (n : Nat) (δ : FL.Loc) (μ : Mem), I n δ μ → (∀ (i : Nat) (d : D) (δ : FL.Loc) (μ : Mem), ds[i]? = some d → I (n + i) δ μ → Nx (g d δ μ) (I (n + i + 1))) → Nx (forD g ds δ μ) (I (n + ds.length))
  | [], n, δ, μ, h0, _ => ⟨δ, μ, rfl, h0⟩
  | d :: ds, n, δ, μ, h0, hs => by
    obtain ⟨δ1, μ1, e, h1⟩ := hs 0 d δ μ rfl h0
    have := forNx_at I ds (n + 1) δ1 μ1 h1 fun i d δ μ hd hi => by
      have := hs (i + 1) d δ μ hd (by rw [show n + (i + 1) = n + 1 + i by omega]; exact hi)
      rw [show n + (i + 1) + 1 = n + 1 + i + 1 by omega] at this
      exact this
    rw [show n + 1 + ds.length = n + (d :: ds).length by rw [List.length_cons]; omega] at this
    show Nx ((g d δ μ).loop (forD g ds)) _
    rw [e]
    exact this
theorem forNx {g : D → MS} (I : Nat → FL.Loc → Mem → Prop) {ds : List D} {δ : FL.Loc} {μ : Mem} (h0 : I 0 δ μ) (hs : ∀ (i : Nat) (d : D) (δ : FL.Loc) (μ : Mem), ds[i]? = some d → I i δ μ → Nx (g d δ μ) (I (i + 1))) : Nx (forD g ds δ μ) (I ds.length) := by
  have := forNx_at I ds 0 δ μ h0 fun i d δ μ hd hi => by
    rw [Nat.zero_add] at hi ⊢
    exact hs i d δ μ hd hi
  rwa [Nat.zero_add] at this
theorem range_len (n : Nat) : (rangeD 0 n).length = n := by simp [rangeD]
theorem range_at {n i : Nat} {d : D} (h : (rangeD 0 n)[i]? = some d) : d = .int (i : Nat) ∧ i < n := by
  unfold rangeD at h
  rw [List.getElem?_map] at h
  by_cases hi : i < n
  · rw [List.getElem?_range hi] at h
    cases h
    exact ⟨by simp, hi⟩
  · rw [List.getElem?_eq_none (by simp; omega)] at h
    cases h
theorem source_src {ns : List Int} {k : Int} {μ : Mem} (hl : ns.length ≤ 63) (h0 : 0 ≤ k) (hk : k ≤ 2 ^ 30) :
    ∃ μ1, mSource [.ro (ns.map .int), .int k] μ = .ok (.fr (.obj μ.length)) μ1 ∧ Src μ1 μ.length (3 * k) ∧ ∀ i : Nat, i < μ.length → μ1[i]? = μ[i]? := by
  obtain ⟨c, g, g0, e⟩ := source_spec (μ := μ) hl h0 (by omega)
  exact ⟨_, e, ⟨c, 3 * k, g, by simp, by omega, by omega, g0⟩, fun i hi => List.getElem?_append_left hi⟩
def lc1 (f : TgF) (t : MT) (m : ME) (vs : List Nat) (d : D) (δ : FL.Loc) (μ : Mem) : Out (Option D) := match f d δ with
  | none => .bad
  | some δ' => (t δ' μ).cut.bind fun b δ2 μ2 => if b = true then (m δ2 μ2).cut.bind fun s δ3 μ3 => .ok (some s.d) (wipeD δ3 vs) μ3 else .ok none (wipeD δ2 vs) μ2
theorem lcD_one {f : TgF} {t : MT} {m : ME} {vs : List Nat} {d : D} {ds acc : List D} {δ : FL.Loc} {μ : Mem} : lcD f t m vs (d :: ds) acc δ μ = (lc1 f t m vs d δ μ).bind fun o δ1 μ1 => match o with
    | some e => if acc.length < 16777216 then lcD f t m vs ds (acc ++ [e]) δ1 μ1 else .bad
    | none => lcD f t m vs ds acc δ1 μ1 := by
  rw [lcD_cons]
  unfold lc1
  cases f d δ with
  | none => rfl
  | some δ' =>
    cases h : (t δ' μ).cut with
    | bad => simp only [h]; rfl
    | exc x δ2 μ2 => simp only [h]; rfl
    | ok b δ2 μ2 =>
      simp only [h, ev_b1]
      cases b with
      | false => rfl
      | true =>
        simp only [if_true]
        cases h2 : (m δ2 μ2).cut with
        | bad => rfl
        | exc x δ3 μ3 => rfl
        | ok s δ3 μ3 => rfl
theorem lcD_pure {f : TgF} {t : MT} {m : ME} {vs : List Nat} {δ : FL.Loc} {μ : Mem} (F : D → Option D) : ∀ {ds acc : List D}, (∀ d ∈ ds, lc1 f t m vs d δ μ = .ok (F d) δ μ) → acc.length + ds.length < 16777216 →
    lcD f t m vs ds acc δ μ = .ok (.own (.lst (acc ++ ds.filterMap F))) δ μ
  | [], acc, _, _ => by simp
  | d :: ds, acc, h, hl => by
    rw [List.length_cons] at hl
    rw [lcD_one, h d (List.mem_cons_self ..), ev_b1]
    cases e : F d with
    | none =>
      simp only []
      rw [lcD_pure F (fun d hd => h d (List.mem_cons_of_mem _ hd)) (by omega)]
      simp [e]
    | some x =>
      simp only [show acc.length < 16777216 by omega, if_true]
      rw [lcD_pure F (fun d hd => h d (List.mem_cons_of_mem _ hd)) (by rw [List.length_append, List.length_singleton]; omega)]
      simp [e]
section
variable {δ : FL.Loc} {μ : Mem} {m : ME} {f : TgF} {h : TgsF} {d : D} {ds xs : List D} {n : Nat} {g g' : D → D → Option FL.Slot} {oa ob oc : Opn}
@[simp] theorem ev_tgT : tgT n h (.tup ds) δ = if ds.length = n then h ds δ else none := rfl
@[simp] theorem ev_tgC : tgC f h (d :: ds) δ = (match f d δ with | some δ' => h ds δ' | none => none) := rfl
@[simp] theorem ev_tgN : tgN [] δ = some δ := rfl
@[simp] theorem ev_tupL : gTuple [.lst xs] = some (.fr (.tup xs)) := rfl
@[simp] theorem ev_tupT : gTuple [.tup xs] = some (.fr (.tup xs)) := rfl
@[simp] theorem ev_Chain : mChain g g' oa ob oc δ μ = (oa.ev δ μ).bind fun ra δ1 μ1 => (ob.ev δ1 μ1).bind fun rb δ2 μ2 => match ra.at δ2 μ2, rb.at δ2 μ2 with
  | some da, some db => (match g da db with
    | some (.fr (.bl true)) => (oc.ev δ2 μ2).bind fun rc δ3 μ3 => (match rb.at δ3 μ3, rc.at δ3 μ3 with
      | some db', some dc => lift (g' db' dc) δ3 μ3
      | _, _ => .bad)
    | some (.fr (.bl false)) => .ok (.fr (.bl false)) δ2 μ2
    | _ => .bad)
  | _, _ => .bad := rfl
end
end FL
namespace FL
open PySem L2
def Asc (x : Tx) : Prop := ∀ c ∈ x, c < 128
theorem Asc.app {x y : Tx} (a : Asc x) (b : Asc y) : Asc (x ++ y) := fun c hc => (List.mem_append.mp hc).elim (a c) (b c)
end FL
namespace FL
open PySem L2
def sp (c : Nat) : Nat := if c ∈ WS then c else 32
def chunks (x : Tx) : List Tx := (List.range ((x.length + 19) / 20)).map fun i => (x.drop (20 * i)).take 20
theorem chunks_eq {l : Tx} (h1 : 1 ≤ l.length) (h2 : l.length ≤ 20) : ∀ f : List Tx, (∀ p ∈ f, p.length = 20) → chunks (f ++ [l]).flatten = f ++ [l]
  | [], _ => by
    have e : (l.length + 19) / 20 = 1 := by omega
    unfold chunks
    simp [e, List.range_succ, List.take_of_length_le h2]
  | p :: f, h => by
    have hp := h p (List.mem_cons_self ..)
    have ih := chunks_eq h1 h2 f fun q hq => h q (List.mem_cons_of_mem _ hq)
    unfold chunks at ih ⊢
    have hl : ((p :: f ++ [l]).flatten).length = 20 + ((f ++ [l]).flatten).length := by simp [hp]
    rw [hl, show (20 + ((f ++ [l]).flatten).length + 19) / 20 = (((f ++ [l]).flatten).length + 19) / 20 + 1 by omega, List.range_succ_eq_map, List.map_cons, List.map_map]
    have e0 : List.take 20 (List.drop (20 * 0) (p :: f ++ [l]).flatten) = p := by
      simp only [Nat.mul_zero, List.drop_zero, List.cons_append, List.flatten_cons]
      rw [List.take_append_of_le_length (by omega), List.take_of_length_le (by omega)]
    have e1 : List.map ((fun i => List.take 20 (List.drop (20 * i) (p :: f ++ [l]).flatten)) ∘ Nat.succ) (List.range (((f ++ [l]).flatten.length + 19) / 20)) = List.map (fun i => List.take 20 (List.drop (20 * i) (f ++ [l]).flatten)) (List.range (((f ++ [l]).flatten.length + 19) / 20)) := by
      apply List.map_congr_left
      intro i _
      show List.take 20 (List.drop (20 * (i + 1)) (p :: f ++ [l]).flatten) = _
      rw [List.cons_append, List.flatten_cons, show 20 * (i + 1) = p.length + 20 * i by omega, List.drop_append, List.drop_of_length_le (by omega), List.nil_append, Nat.add_sub_cancel_left]
    rw [e0, e1, ih]
    rfl
theorem words_chunks {x : Tx} (hx : ∀ c ∈ x, c ∈ WS) (h0 : x ≠ []) : wordsL x = chunks x := by
  obtain ⟨f, l, e, h1, h2, h3, h4, _⟩ := wordsL_run hx h0
  rw [e, ← h1, chunks_eq h3 h4 f h2]
theorem sp_in {c : Nat} (h : c ∈ WS) : sp c = c := if_pos h
theorem sp_out {c : Nat} (h : c ∉ WS) : sp c = 32 := if_neg h
theorem ws_nosp : ∀ c ∈ WS, Unicode.isSpace c = false := by decide +kernel
structure WI (z : Tx) (g : List Tx) (r : Tx) : Prop where
  ex : ∃ pre, z = pre ++ r ∧ (pre = [] ∨ ∃ q c, pre = q ++ [c] ∧ c ∉ WS) ∧ wordsL pre = g.flatMap chunks
  r : ∀ c ∈ r, c ∈ WS
  g : ∀ w ∈ g, w ≠ [] ∧ ∀ c ∈ w, c ∈ WS
theorem pre_app {pre r : Tx} (h : pre = [] ∨ ∃ q c, pre = q ++ [c] ∧ c ∉ WS) : wordsL (pre ++ r) = wordsL pre ++ wordsL r := by
  rcases h with rfl | ⟨q, c, rfl, hc⟩
  · simp [wordsL_nil]
  · have hg : ∀ d ∈ [c], d ∉ WS := fun d hd => by rw [List.mem_singleton.mp hd]; exact hc
    rw [wordsL_gap hg (by simp), wordsL_gap1 hg (by simp)]
theorem WI.fin {z : Tx} {g : List Tx} {r : Tx} (h : WI z g r) : wordsL z = (TL.wfin (g, r)).flatMap chunks := by
  obtain ⟨pre, rfl, h1, h2⟩ := h.ex
  rw [pre_app h1, h2]
  unfold TL.wfin
  by_cases hr : r = []
  · subst hr; simp [wordsL_nil]
  · simp only [hr, if_false]
    rw [List.flatMap_append, words_chunks h.r hr]
    simp
theorem WI.step {z : Tx} {g : List Tx} {r : Tx} (h : WI z g r) (c : Nat) : WI (z ++ [c]) (TL.wstep (g, r) (sp c)).1 (TL.wstep (g, r) (sp c)).2 := by
  obtain ⟨pre, rfl, h1, h2⟩ := h.ex
  by_cases hc : c ∈ WS
  · rw [sp_in hc]
    have e : TL.wstep (g, r) c = (g, r ++ [c]) := by unfold TL.wstep; rw [ws_nosp c hc]; simp
    rw [e]
    refine ⟨⟨pre, by simp, h1, h2⟩, fun d hd => ?_, h.g⟩
    rcases List.mem_append.mp hd with hd | hd
    · exact h.r d hd
    · rw [List.mem_singleton.mp hd]; exact hc
  · rw [sp_out hc]
    have hs : Unicode.isSpace 32 = true := by decide +kernel
    have hg : ∀ d ∈ [c], d ∉ WS := fun d hd => by rw [List.mem_singleton.mp hd]; exact hc
    by_cases hr : r = []
    · subst hr
      have e : TL.wstep (g, []) 32 = (g, []) := by unfold TL.wstep; rw [hs]; simp
      rw [e]
      refine ⟨⟨pre ++ [c], by simp, .inr ⟨pre, c, rfl, hc⟩, ?_⟩, by simp, h.g⟩
      rw [wordsL_gap1 hg (by simp), h2]
    · have e : TL.wstep (g, r) 32 = (g ++ [r], []) := by unfold TL.wstep; rw [hs]; simp [hr]
      rw [e]
      refine ⟨⟨pre ++ r ++ [c], by simp, .inr ⟨pre ++ r, c, rfl, hc⟩, ?_⟩, by simp, fun w hw => ?_⟩
      · rw [wordsL_gap1 hg (by simp), pre_app h1, h2, List.flatMap_append, words_chunks h.r hr]
        simp
      · rcases List.mem_append.mp hw with hw | hw
        · exact h.g w hw
        · rw [List.mem_singleton.mp hw]; exact ⟨hr, h.r⟩
theorem WI.nil : WI [] [] [] := ⟨⟨[], rfl, .inl rfl, rfl⟩, by simp, by simp⟩
end FL
namespace FL
open PySem L2
section
variable {μ : Mem}
theorem kitB_no : kitB "NoneType" "str" = some false ∧ kitB "bool" "str" = some false ∧ kitB "int" "str" = some false ∧ kitB "list" "str" = some false ∧ kitB "tuple" "str" = some false ∧ kitB "dict" "str" = some false := by
  refine ⟨?_, ?_, ?_, ?_, ?_, ?_⟩ <;> kernel_rfl
def noStr : D → Bool
  | .non | .bl _ | .int _ | .lst _ | .tup _ | .dct _ _ => true
  | _ => false
theorem isi_no {d : D} (h : noStr d = true) : gIsi [d, .ty "str"] = some (tb false) := by
  obtain ⟨h1, h2, h3, h4, h5, h6⟩ := kitB_no
  cases d <;> first | (cases h; done) | skip
  all_goals simp [gIsi, tyN, h1, h2, h3, h4, h5, h6]
theorem isi_str {x : Tx} : gIsi [.str x, .ty "str"] = some (tb true) := by simp [gIsi, tyN, kitB_ss]
theorem look_no {d : D} (h : noStr d = true) : look μ d = some d := by cases d <;> first | rfl | cases h
end
end FL
namespace FL
open PySem L2
def Sz (k : Nat) (q : Rat) : Prop := q.num.natAbs < 2 ^ k ∧ q.den < 2 ^ k
theorem divInt_num {n d : Int} (hd : d ≠ 0) : (Rat.divInt n d).num.natAbs ≤ n.natAbs ∧ (Rat.divInt n d).den ≤ d.natAbs := by
  constructor
  · rw [Rat.num_divInt]
    have h1 : (d.sign * n / (d.gcd n : Int)).natAbs ≤ (d.sign * n).natAbs := by
      have := Int.natAbs_ediv_le_natAbs (d.sign * n) (d.gcd n : Int)
      exact this
    have h2 : (d.sign * n).natAbs ≤ n.natAbs := by
      rw [Int.natAbs_mul, Int.natAbs_sign]
      split <;> simp
    exact Nat.le_trans h1 h2
  · rw [Rat.den_divInt, if_neg hd]
    exact Nat.div_le_self _ _
theorem mul_lt_pow {a b j k : Nat} (ha : a < 2 ^ j) (hb : b < 2 ^ k) : a * b < 2 ^ (j + k) := by
  rw [Nat.pow_add]
  exact Nat.mul_lt_mul'' ha hb
theorem Sz.mono {j k : Nat} {q : Rat} (h : Sz j q) (hl : j ≤ k) : Sz k q :=
  ⟨Nat.lt_of_lt_of_le h.1 (Nat.pow_le_pow_right (by decide) hl), Nat.lt_of_lt_of_le h.2 (Nat.pow_le_pow_right (by decide) hl)⟩
theorem add_eq (p q : Rat) : Rat.divInt (p.num * q.den + q.num * p.den) (p.den * q.den) = p + q := by
  have h := Rat.divInt_add_divInt p.num q.num (d₁ := (p.den : Int)) (d₂ := (q.den : Int)) (by have := p.den_pos; omega) (by have := q.den_pos; omega)
  rw [Rat.num_divInt_den, Rat.num_divInt_den] at h
  exact h.symm
theorem Sz.add {j k : Nat} {p q : Rat} (hp : Sz j p) (hq : Sz k q) : Sz (j + k + 1) (p + q) := by
  have h := divInt_num (n := p.num * q.den + q.num * p.den) (d := p.den * q.den) (by have := p.den_pos; have := q.den_pos; exact Int.mul_ne_zero (by omega) (by omega))
  rw [add_eq] at h
  have h1 : (p.num * (q.den : Int)).natAbs < 2 ^ (j + k) := by rw [Int.natAbs_mul]; exact mul_lt_pow hp.1 (by simpa using hq.2)
  have h2 : (q.num * (p.den : Int)).natAbs < 2 ^ (j + k) := by rw [Int.natAbs_mul, Nat.add_comm j k]; exact mul_lt_pow hq.1 (by simpa using hp.2)
  have h3 : ((p.den : Int) * (q.den : Int)).natAbs < 2 ^ (j + k) := by rw [Int.natAbs_mul]; exact mul_lt_pow (by simpa using hp.2) (by simpa using hq.2)
  have h4 : 2 ^ (j + k + 1) = 2 ^ (j + k) + 2 ^ (j + k) := by rw [Nat.pow_succ]; omega
  refine ⟨?_, by omega⟩
  have := Int.natAbs_add_le (p.num * (q.den : Int)) (q.num * (p.den : Int))
  omega
end FL
namespace FL.S
noncomputable def e1_is_made_of (δ : FL.Loc) (μ : Mem) : Out FL.Slot := (m2 (gIn false) (.v 3) (.v 1)) δ μ
noncomputable def b_is_made_of (δ : FL.Loc) (μ : Mem) : OutS := (mRet (mAndV (mC gIsi [(.v 0), (.e (mD (.ty "str")))]) (mAndV (mChain gLe gLe (.e (mD (.int 1))) (.e (mC gLen [(.v 0)])) (.v 2)) (mC gAll [(.e (mLc (mIt (mV 0)) (tgV 3) mYes e1_is_made_of [3]))])))) δ μ
noncomputable def m_is_made_of : MF := mFn 4 (b_is_made_of)
end FL.S
namespace FL
open PySem L2
section
variable {μ : Mem}
theorem all_chars {x s : Tx} {a b c : Option FL.Slot} (hl : x.length < 16777216) : lcD (tgV 3) mYes S.e1_is_made_of [3] (chars x) [] [a, some (.fr (.str s)), c, none] μ = .ok (.own (.lst ((x.map fun c => decide (c ∈ s)).map .bl))) [a, some (.fr (.str s)), c, none] μ := by
  have h := lcD_pure (f := tgV 3) (t := mYes) (m := S.e1_is_made_of) (vs := [3]) (δ := [a, some (.fr (.str s)), c, none]) (μ := μ) (fun d => match d with | .str [c] => some (.bl (decide (c ∈ s))) | _ => none) (ds := chars x) (acc := []) (fun d hd => by
    obtain ⟨c, _, rfl⟩ := List.mem_map.mp hd
    simp [lc1, S.e1_is_made_of]) (by simp [chars]; exact hl)
  rw [h]
  simp [chars, List.filterMap_map, Function.comp_def]
def Made (x s : Tx) (n : Int) : Prop := 1 ≤ x.length ∧ (x.length : Int) ≤ n ∧ ∀ c ∈ x, c ∈ s
instance (x s : Tx) (n : Int) : Decidable (Made x s n) := inferInstanceAs (Decidable (_ ∧ _))
theorem made_str {x s : Tx} {n : Int} (hl : x.length < 16777216) : S.m_is_made_of [.str x, .str s, .int n] μ = .ok (.fr (.bl (decide (Made x s n)))) μ := by
  have h := all_chars (μ := μ) (x := x) (s := s) (a := some (.fr (.str x))) (c := some (.fr (.int n))) (b := none) hl
  have hb := blsD_of (x.map fun c => decide (c ∈ s))
  have hl' : x.length ≤ 16777216 := by omega
  have ga : gAll [.lst ((x.map fun c => decide (c ∈ s)).map .bl)] = some (.fr (.bl (x.all fun c => decide (c ∈ s)))) := by
    simp only [gAll, hb, Option.map_some]
    simp [List.all_map, Function.comp_def]
  by_cases h1 : (1 : Int) ≤ x.length
  · by_cases h2 : (x.length : Int) ≤ n
    · have e : decide (Made x s n) = x.all fun c => decide (c ∈ s) := by
        by_cases h3 : ∀ c ∈ x, c ∈ s
        · rw [decide_eq_true (show Made x s n from ⟨by omega, h2, h3⟩)]
          exact (List.all_eq_true.mpr fun c hc => decide_eq_true (h3 c hc)).symm
        · rw [decide_eq_false (fun z : Made x s n => h3 z.2.2)]
          refine (Bool.eq_false_iff.mpr fun z => h3 fun c hc => ?_).symm
          exact of_decide_eq_true (List.all_eq_true.mp z c hc)
      rw [e]
      generalize List.map D.bl (List.map (fun c => decide (c ∈ s)) x) = L at h ga
      simp [S.m_is_made_of, S.b_is_made_of, startD, isi_str, hl', h1, h2, h, ga]
    · rw [decide_eq_false (fun z : Made x s n => h2 z.2.1)]
      simp [S.m_is_made_of, S.b_is_made_of, startD, isi_str, hl', h1, h2]
  · rw [decide_eq_false (fun z : Made x s n => h1 (by have := z.1; omega))]
    simp [S.m_is_made_of, S.b_is_made_of, startD, isi_str, hl', h1]
theorem made_no {d : D} {s : Tx} {n : Int} (h : noStr d = true) : S.m_is_made_of [d, .str s, .int n] μ = .ok (.fr (.bl false)) μ := by
  simp [S.m_is_made_of, S.b_is_made_of, startD, isi_no h, look_no h]
end
end FL
namespace FL
open PySem PySem.Spec PyProof.Rows L2
open PySem.Froz (SD sObj TxOk addTx tailTx is_str add_ok add_x)
theorem tail_in (ep : Nat) (es : Array (Int × Value)) (t : SetTable) (b : Bool) : (inD (tailTx ep es t b)).Perm (es.toList.map fun e => strOf e.2) := by
  unfold tailTx
  split
  · exact (relayAll_perm _ _ _).map _
  · exact List.Perm.refl _
theorem tail_ris {ep : Nat} {es : Array (Int × Value)} {t : SetTable} {b : Bool} (r : Ris t.place.toList) : Ris (tailTx ep es t b).2.2.place.toList := by
  unfold tailTx
  split
  · exact relayAll_ris _ _ _
  · exact r
theorem tail_led (ep : Nat) (es : Array (Int × Value)) (t : SetTable) (b : Bool) : (tailTx ep es t b).2.2.led = t.led := by
  unfold tailTx
  split
  · exact relayAll_led _ _ _
  · rfl
theorem inD_add (D : SD) (k : Str) (u : Tok) (h : Int) : (inD (addTx h (.str k u) D)).Perm (k :: inD D) := by
  have hp := (layNew_perm D.2.2 D.1 h (.str k u)).map fun e => strOf e.2
  rw [Array.toList_push, List.map_append] at hp
  exact (tail_in ..).trans (hp.trans (List.perm_append_singleton _ _))
theorem ris_add (D : SD) (h : Int) (v : Value) (r : Ris D.2.2.place.toList) : Ris (addTx h v D).2.2.place.toList := by
  have one := layNew_ris D.2.2 D.1 h v r
  refine tail_ris ?_
  split <;> exact one
theorem led_add (D : SD) (h : Int) (v : Value) : (addTx h v D).2.2.led = D.2.2.led := by
  refine (tail_led ..).trans (Eq.trans ?_ (layNew_led D.2.2 D.1 h v))
  split <;> rfl
def insS (l : List Str) (k : Str) : List Str := if k ∈ l then l else k :: l
theorem insS_len (l : List Str) (k : Str) : (insS l k).length ≤ l.length + 1 := by
  unfold insS
  split
  · exact Nat.le_succ _
  · exact Nat.le_refl _
section
variable {P : Program} {w : World} {A : Around} {E : Value → Shared → Prop} {s : Shared} {a : Addr} {l : List Str} {k : Str} {u : Tok}
theorem add_had {D : SD} {T : String} {Q : Bool → Shared → Prop} (g : s.heap.get? a = some (sObj T D)) (F : TxOk P w D l) (hk : k ∈ l) (hb : l.length < scanBound) (h : Q false s) :
    wpAny (model P w) A (setAddHashed a (.str k u) (hashStr w k)) Q E s := by
  obtain ⟨es, ep, t⟩ := D
  have fit : t.fits es.size = true := F.fit
  have els : ElemsOf (strKind P w) es.toList := F.el
  have data : (sObj T (es, ep, t)).data = .set es ep t := rfl
  have big : es.size < scanBound := by have z : es.size = l.length := F.sz; omega
  unfold setAddHashed setAddHashedIn
  refine wpAny_holding (wpAny_bind (wpAny_setState_of g data fit ?_))
  dsimp only
  rw [byScan_of (x := .str k u) rfl big els]
  simp only [↓reduceIte]
  unfold setAddByScan
  refine wpAny_bind (wpAny_bind (wpAny_rule (wpAny_bind (wpAny_setScan_of (knd := strKind P w) (k := k) (is_str k u) g data fit els ?_))))
  obtain ⟨e, he, q⟩ := (F.mem k).mp hk
  cases fi : List.findIdx? (fun e => (strKind P w).is k e.2) es.toList with
  | none => exact absurd q (by rw [List.findIdx?_eq_none_iff.mp fi e he]; exact Bool.false_ne_true)
  | some j => exact wpAny_pure (wpAny_pure h)
theorem add_any {Q : Bool → Shared → Prop} (R : TxSet P w s.heap a l) (room : l.length + 1 < scanBound)
    (h : ∀ b h', Heap.SameBut a s.heap h' → TxSet P w h' a (insS l k) → Q b { s with heap := h' }) : wpAny (model P w) A (setAddHashed a (.str k u) (hashStr w k)) Q E s := by
  obtain ⟨⟨D, g, F, pm, r, ld⟩, nd, few⟩ := R
  by_cases hk : k ∈ l
  · have e : insS l k = l := if_pos hk
    rw [e] at h
    exact add_had g F hk few (h false s.heap (Heap.SameBut.refl a s.heap) ⟨⟨D, g, F, pm, r, ld⟩, nd, few⟩)
  · have e : insS l k = k :: l := if_neg hk
    rw [e] at h
    refine add_x g F hk room (h true _ (Heap.SameBut.update s.heap a _) ⟨⟨addTx (hashStr w k) (.str k u) D, PySem.Froz.get_upd _ g rfl, add_ok u F, (inD_add D k u _).trans (pm.cons k), ris_add D _ _ r, ?_⟩, List.nodup_cons.mpr ⟨hk, nd⟩, room⟩)
    rw [led_add]
    exact ld
end
section
variable {prog : Program} {w : World} {A : Around} {R : Result → Shared → Prop} {I : Addr} {fp wr : List Addr} {G : Array GenState → Array GenState → Prop} {n : Nat} {P : Nat → Value → Prop} {St : Nat → Shared → Prop}
theorem fold_len : ∀ (ys l : List Str), (ys.foldl insS l).length ≤ l.length + ys.length
  | [], l => Nat.le_refl _
  | y :: ys, l => by
    have a := fold_len ys (insS l y)
    have b := insS_len l y
    rw [List.foldl_cons, List.length_cons]
    omega
theorem upd_loop (W : WalksS prog w A.in1 I fp wr G n P St) {S : Addr} (out : S ∉ fp) {xs : List Str} (hx : xs.length = n) (hv : ∀ i v, P i v → ∃ x t, xs[i]? = some x ∧ v = .str x t) (hb : n + 1 < scanBound) :
    ∀ (m i : Nat) (s : Shared), n - i = m → i ≤ n → St i s → TxSet prog w s.heap S ((xs.take i).foldl insS []) →
      (∀ s', Moved (S :: wr) G s s' → TxSet prog w s'.heap S (xs.foldl insS []) → R (.ok (.ret .none)) s') →
      codeAny (model prog w) A (.builtin "set.update.loop" ⟨[.ref S, .ref I], []⟩) R s := by
  have out' : S ∉ wr := fun z => out (W.sub _ z)
  have more : ∀ b ∈ wr, b ∈ S :: wr := fun b z => List.mem_cons_of_mem _ z
  intro m
  induction m with
  | zero =>
    intro i s hm hi st T fin
    have full : xs.take i = xs := List.take_of_length_le (by omega)
    rw [full] at T
    have last : i = n := by omega
    subst last
    refine codeAny_builtin F.entry_set_update_loop (A := A) ?_
    rw [Around.under_plainId F.plain_set_update_loop _]
    show wpAny _ A.in1 (pyNext (.ref I) >>= _) _ _ s
    exact wpAny_bind (W.done s _ _ st fun s' mv => wpAny_pure (fin s' (mv.mono more) (T.at fun o z => mv.heap S o out' z)))
  | succ m ih =>
    intro i s hm hi st T fin
    have lt : i < n := by omega
    refine codeAny_builtin F.entry_set_update_loop (A := A) ?_
    rw [Around.under_plainId F.plain_set_update_loop _]
    show wpAny _ A.in1 (pyNext (.ref I) >>= _) _ _ s
    refine wpAny_bind (W.item i s _ _ lt st fun v s' hP st' mv => ?_)
    obtain ⟨x, t, hxi, rfl⟩ := hv i v hP
    have T' := T.at fun o z => mv.heap S o out' z
    show wpAny _ A.in1 (holding [Value.str x t] (setAdd S (.str x t)) >>= _) _ _ s'
    refine wpAny_bind (wpAny_holding ?_)
    unfold setAdd
    refine wpAny_holding (wpAny_bind ((strKind prog w).pyHash (k := x) (is_str x t) ?_))
    have room : ((xs.take i).foldl insS []).length + 1 < scanBound := by
      have z := fold_len (xs.take i) []
      have z2 := List.length_take_le i xs
      simp only [List.length_nil] at z
      omega
    refine add_any (s := { s' with toks := s'.toks + 1 }) T' room fun b h' same T2 => ?_
    have e2 : (xs.take (i + 1)).foldl insS [] = insS ((xs.take i).foldl insS []) x := by
      rw [List.take_add_one, hxi, List.foldl_append]
      rfl
    rw [← e2] at T2
    refine wpAny_pure ⟨plainId_quiet F.plain_set_update_loop _, ih (i + 1) _ (by omega) lt (W.frame _ s' _ _ st' (Nat.le_succ _) fun c hc o z => ?_) T2 fun s2 mv2 T3 => ?_⟩
    · exact (same.2 c fun e => out (e ▸ hc)).trans z
    · exact fin s2 (Moved.trans W.gtrans ((mv.mono more).then_heap (Nat.le_succ _) fun c o hc z => (same.2 c fun e => hc (by rw [e]; exact List.mem_cons_self ..)).trans z) mv2) T3
end
def newD (w : World) : SD := (#[], 0, .fresh 0 0 (!w.params.followText "set-order"))
theorem newD_ok {P : Program} {w : World} {h : Heap} {a : Addr} (e : h.get? a = some (sObj "set" (newD w))) : TxSet P w h a [] := by
  refine ⟨⟨newD w, e, .nil rfl, List.Perm.refl _, List.Pairwise.nil, ?_⟩, List.nodup_nil, by decide⟩
  show _ ∨ (!w.params.followText "set-order") = true
  cases w.params.followText "set-order"
  · exact .inr rfl
  · exact .inl rfl
theorem strs_nth : ∀ {us : List Value} {xs : List Str}, StrsAre us xs → ∀ (i : Nat) (v : Value), us[i]? = some v → ∃ x t, xs[i]? = some x ∧ v = .str x t
  | _, _, .nil, i, v, h => by simp at h
  | _, _, .cons x t r, 0, v, h => by
    simp only [List.getElem?_cons_zero, Option.some.injEq] at h
    exact ⟨x, t, rfl, h.symm⟩
  | _, _, .cons x t r, i + 1, v, h => by
    simp only [List.getElem?_cons_succ] at h ⊢
    exact strs_nth r i v h
section
variable {P : Program} {w : World} {A : Around} {E : Value → Shared → Prop} {s : Shared}
set_option maxHeartbeats 4000000 in
theorem set_texts {l : Addr} {its : Array Value} {xs : List Str} {Q : Value → Shared → Prop} (hh : A.handled = none) (hl : s.heap.IsList l its) (hx : StrsAre its.toList xs) (hb : xs.length + 1 < scanBound)
    (q : ∀ (h' : Heap) (tk : Nat), TxSet P w h' s.heap.objs.size (xs.foldl insS []) → (∀ b o, s.heap.get? b = some o → h'.get? b = some o) → Q (.ref s.heap.objs.size) { s with heap := h', toks := tk }) :
    wpAny (model P w) A (call (.type "set") [.ref l]) Q E s := by
  have cnt : its.size = xs.length := by
    have z := StrsAre.length hx
    rwa [Array.length_toList] at z
  obtain ⟨c, tl, mro⟩ := F.called_set.mro
  have made := F.called_set.made
  have sub := F.called_set.sub
  refine wpAny_call (codeAny_of_tree (show wpAny _ _ (callAny (.type "set") _) _ _ _ from ?_))
  refine wpAny_pure ⟨Code.quiet_builtin _ (by decide +kernel), codeAny_builtin F.entry_type_call (R := _) ?_⟩
  rw [Around.under_plain (weight_type_call_type "set" [Value.ref l] []) rfl]
  have g1 := F.called_set.notType
  have g2 := F.called_set.canCreate
  have g3 := F.typeCall_set_1 (Value.ref l)
  repeat (any_goals first | assumption | wp_step)
  refine codeAny_mono (code_set_led1 (.ref l) (E := E) (Q₁ := fun v s1 => v = .ref s.heap.objs.size ∧ s1 = { s with heap := s.heap.push (sObj "set" (newD w)) }) ⟨rfl, rfl⟩) fun r s1 hr => ?_
  cases r with
  | error e => exact hr
  | ok fl =>
    cases fl with
    | ret v =>
      obtain ⟨rfl, rfl⟩ := hr
      have at_ : (s.heap.push (sObj "set" (newD w))).get? s.heap.objs.size = some (sObj "set" (newD w)) := Heap.get?_push_size _ rfl
      have ty : Shared.TypeIs { s with heap := s.heap.push (sObj "set" (newD w)) } (.ref s.heap.objs.size) "set" := ⟨_, at_, rfl⟩
      have i1 := F.called_set.init.lookup
      have i2 := F.called_set.init.bind (.ref s.heap.objs.size)
      repeat (any_goals first | assumption | wp_step)
      refine codeAny_mono (codeAny_call_builtin (R := wants (fun v s2 => v = .none ∧ ∃ h' tk, s2 = { s with heap := h', toks := tk } ∧ TxSet P w h' s.heap.objs.size (xs.foldl insS []) ∧
          (∀ b o, s.heap.get? b = some o → h'.get? b = some o)) E) F.called_set.init.plain F.entry_set_init (check_set_init_1 ty ?_)) fun r2 s2 hr2 => ?_
      · obtain ⟨ol, e1, e2, nl, e3⟩ := hl
        obtain ⟨oc, od, ob, os⟩ := ol
        simp only at e2 e3
        subst e2; subst e3
        have lat : (s.heap.push (sObj "set" (newD w))).get? l = some { cls := .type "list", dict := od, data := .seq its nl, slots := os } := Heap.get?_push_of_some _ e1
        have f1 := F.sub_list_set
        have f2 := F.sub_list_frozenset
        have f3 : (Value.type "list" == Value.type "dict") = false := by decide
        have isl : (s.heap.push (sObj "set" (newD w))).IsList l its := ⟨_, lat, rfl, nl, rfl⟩
        unfold Builtin.«set.__init__» noKeywords Builtin.Frozenset.updateFrom
        generalize hp : pyIter = piter
        wp_walk
        subst hp
        refine wpAny_pyIter_list isl (wpAny_bind (wpAny_runValue ?_))
        have below : l < s.heap.objs.size := Heap.lt_size e1
        have z1 : (s.heap.push (sObj "set" (newD w))).objs.size = s.heap.objs.size + 1 := Heap.size_push ..
        have nI : l ≠ (s.heap.push (sObj "set" (newD w))).objs.size := by rw [z1]; exact Nat.ne_of_lt (Nat.lt_succ_of_lt below)
        have nS : s.heap.objs.size ∉ [(s.heap.push (sObj "set" (newD w))).objs.size, l] := by
          rw [z1]
          intro z
          rcases List.mem_cons.mp z with z | z
          · exact absurd z (Nat.ne_of_lt (Nat.lt_succ_self _))
          · exact absurd (List.mem_singleton.mp z).symm (Nat.ne_of_lt below)
        refine upd_loop ((Walks.list (A := A.in1.in1.in1) (by simp [hh]) _ l nI its).toS) nS (xs := xs) cnt.symm (fun i v e => strs_nth hx i v (by rw [Array.getElem?_toList]; exact e)) (by rw [cnt]; exact hb) (its.size - 0) 0 _ rfl (Nat.zero_le _)
          ?place ?first fun s3 mv T => ?_
        case place => exact ⟨⟨_, Heap.get?_push_size _ rfl, rfl, rfl⟩, isl.push _⟩
        case first => exact newD_ok (Heap.get?_push_of_some _ at_)
        obtain ⟨h3, g3, d3, t3, o3⟩ := s3
        have eg : g3 = s.gens := mv.gens
        have ed : d3 = s.drawn := mv.drawn
        have eo : o3 = s.os := mv.os
        subst eg; subst ed; subst eo
        show wpAny _ _ _ _ _ _
        refine wpAny_pure ?_
        show wpAny _ _ (ret Value.none) _ _ _
        refine wpAny_pure ⟨rfl, h3, t3, rfl, T, fun b o e => mv.heap b o ?_ (Heap.get?_push_of_some _ (Heap.get?_push_of_some _ e))⟩
        have lo := Heap.lt_size e
        intro z
        rcases List.mem_cons.mp z with z | z
        · exact absurd z (Nat.ne_of_lt lo)
        · have z := List.mem_singleton.mp z
          rw [z1] at z
          exact absurd z (Nat.ne_of_lt (Nat.lt_succ_of_lt lo))
      · cases r2 with
        | error e => exact hr2
        | ok fl2 =>
          cases fl2 with
          | ret v2 =>
            obtain ⟨rfl, h3, t3, rfl, T, kp⟩ := hr2
            repeat (any_goals first | assumption | wp_step)
            exact q h3 t3 T kp
          | _ => exact hr2.elim
    | _ => exact hr.elim
end
end FL
namespace FL
open PySem PySem.Spec PyProof.Rows L2 SrtO
open PySem.Froz (SD sObj TxOk addTx tailTx is_str add_ok add_x)
def SetSO (P : Program) (w : World) (a : Addr) (l : List Str) : HO := .ext fun h => TxSet P w h a l
theorem setSO_new {w : World} {P : Program} {H : Hp} {h : Heap} {a : Addr} {l : List Str} (R : TxSet P w h a l) : ObjOk P w H h a (SetSO P w a l) := by
  have ⟨⟨D, g, _⟩, _, _⟩ := R
  exact ⟨R, ⟨_, g⟩, fun h1 h2 p k => TxSet.at p k⟩
def rSetS (K : PySem.W.Frag) (P : Program) (w : World) : List V → Hp → VK → Prop := fun xs H Q => ∃ (l : Addr) (ys : List Str), xs = [V.ref l] ∧ SqL K H l (ys.map V.str) ∧ ys.length + 1 < scanBound ∧
  ∀ a, H a = none → Q (.ref a) (upd H a (SetSO P w a (ys.foldl insS [])))
section
variable {X : Cx}
theorem cr_setS (hc : X.calm = true) : CallR X (.type "set") (rSetS X.K X.prog X.w) := by
  intro pins s σ H xs us Q I r h
  obtain ⟨l, ys, rfl, hl, few, q⟩ := h
  rw [Vals.ref1 r]
  obtain ⟨its, rv, pl, hz⟩ := I.list hl
  refine set_texts (P := X.prog) (w := X.w) (xs := ys) (I.ok.hd hc) pl.isList (by simpa using strsAre_of rv) few fun h' tk T kp => ?_
  exact ⟨.ref s.heap.objs.size, upd H s.heap.objs.size (SetSO X.prog X.w s.heap.objs.size (ys.foldl insS [])), I.laid (t' := tk) kp (Nat.le_refl _) (setSO_new T), rfl, q _ (I.hok.fresh (Nat.le_refl _))⟩
end
def txOf : D → Tx
  | .str x => x
  | _ => []
def isTx : D → Bool
  | .str _ => true
  | _ => false
def insT (l : List Tx) (k : Tx) : List Tx := if k ∈ l then l else k :: l
theorem ins_toS (l : List Tx) (k : Tx) : insS (l.map toS) (toS k) = (insT l k).map toS := by
  unfold insS insT
  have inj : toS k ∈ l.map toS ↔ k ∈ l := by
    constructor
    · intro h
      obtain ⟨y, hy, e⟩ := List.mem_map.mp h
      have e : y = k := by simpa [toS] using congrArg (fun s : Str => s.cps.toList) e
      exact e ▸ hy
    · exact fun h => List.mem_map.mpr ⟨k, h, rfl⟩
  by_cases h : k ∈ l
  · rw [if_pos h, if_pos (inj.mpr h)]
  · rw [if_neg h, if_neg (fun z => h (inj.mp z))]
    rfl
theorem fold_toS : ∀ (xs l : List Tx), (xs.map toS).foldl insS (l.map toS) = (xs.foldl insT l).map toS
  | [], l => rfl
  | x :: xs, l => by
    rw [List.map_cons, List.foldl_cons, ins_toS, fold_toS xs]
    rfl
theorem tx_map : ∀ {xs : List D}, xs.all isTx = true → xs = (xs.map txOf).map .str
  | [], _ => rfl
  | x :: xs, h => by
    rw [List.all_cons, Bool.and_eq_true] at h
    cases x <;> first | (exact absurd h.1 Bool.false_ne_true) | skip
    rw [List.map_cons, List.map_cons, ← tx_map h.2]
    rfl
theorem rep_strs {K : PySem.W.Frag} {mg : Str → Option Value} {F : Hp} {ρ : List Addr} : ∀ {xs : List Tx} {vs : List V}, RepL K mg F ρ vs (xs.map .str) → vs = (xs.map toS).map V.str
  | [], _, .nil => rfl
  | x :: xs, _, .cons h t => by
    cases h
    rw [rep_strs t]
    rfl
end FL
namespace FL
open PySem PySem.Spec PyProof.Rows L2 SrtO
section
variable {X : Cx} {W : WX} {k : Nat} {N : List Str} {sc : Scope} {e : Expr} {os : List Opn} {o : Opn} {pos p pos' p' : Pos}
def mLR (m : ME) : ME := fun δ μ => (m δ μ).bind fun s δ1 μ1 => match s with
  | .fr (.int n) => if 0 ≤ n ∧ n ≤ 16777216 then .ok (.own (.lst (rangeD 0 n.toNat))) δ1 μ1 else .bad
  | _ => .bad
theorem je_lr {m : ME} (hc : X.calm = true) (hg : Gl X "list") (hm : X.mg "list" = none) (hg2 : Gl X "range") (hm2 : X.mg "range" = none) (he : JE X W e m)
    (n1 : starEach [e] X.env = (false, eval e X.env) :: starEach [] X.env := by rfl)
    (n2 : starEach [.Call (.Name "range" p') [e] [] pos'] X.env = (false, eval (.Call (.Name "range" p') [e] [] pos') X.env) :: starEach [] X.env := by rfl) :
    JE X W (.Call (.Name "list" p) [.Call (.Name "range" p') [e] [] pos'] [] pos) (mLR m) := by
  refine (pe_listRg hc hg hm (prg_1 hg2 hm2 he n1) n2).imp fun σ H Q ⟨Z, F, ρ, μ, δ, S, q⟩ => ⟨Z, F, ρ, μ, δ, S, (FinE.bind q).imp fun s δ1 μ1 H1 F1 ρ1 l lr S1 ⟨_, _, _, z⟩ v rv => ?_⟩
  match s, z, rv with
  | .fr (.int n), z, rv =>
    have z : FinE X W Z F1 ρ1 σ _ (if 0 ≤ n ∧ n ≤ 16777216 then Out.ok (Slot.own (Own.lst (rangeD 0 n.toNat))) δ1 μ1 else .bad) := z
    by_cases c : 0 ≤ n ∧ n ≤ 16777216
    · rw [if_pos c] at z
      have hv : Rep X.K X.mg F1 ρ1 v (.int n) := rv.r
      cases hv
      refine ⟨n, rfl, .of_le (by decide) (by omega) (by decide) c.1, fun a free => ?_⟩
      have e1 : rgV 0 n = ((List.range n.toNat).map fun i => (0 : Int) + (i : Nat)).map V.int := by
        unfold rgV
        rw [Int.sub_zero, List.map_map]
        rfl
      have e2 : rangeD 0 n.toNat = ((List.range n.toNat).map fun i => (0 : Int) + (i : Nat)).map D.int := by
        unfold rangeD
        rw [List.map_map]
        rfl
      rw [e1]
      rw [e2] at z
      obtain ⟨S2, vr⟩ := vr_newL S1 free (RepL.ofInts (K := X.K) (mg := X.mg) (F := F1) (ρ := ρ1) _)
      exact z _ F1 ρ1 .refl .refl S2 _ vr
    · rw [if_neg c] at z; exact z.elim
  | .own _, z, _ => exact z.elim
  | .fr .non, z, _ | .fr (.bl _), z, _ | .fr (.str _), z, _ | .fr (.lst _), z, _ | .fr (.tup _), z, _ | .fr (.fx _ _ _), z, _ | .fr (.dct _ _), z, _ | .fr (.obj _), z, _ | .fr (.glo _), z, _ | .fr (.ty _), z, _ | .fr (.exn _ _ _), z, _ | .fr (.ins _ _ _), z, _ | .fr .unk, z, _ => exact z.elim
theorem Cs.lr {m : ME} (C : Cs X W k N sc) (h1 : glC sc "list" = true) (m1 : X.mg "list" = none) (h2 : glC sc "range" = true) (m2 : X.mg "range" = none) (he : JE X W e m)
    (n1 : starEach [e] X.env = (false, eval e X.env) :: starEach [] X.env := by rfl)
    (n2 : starEach [.Call (.Name "range" p') [e] [] pos'] X.env = (false, eval (.Call (.Name "range" p') [e] [] pos') X.env) :: starEach [] X.env := by rfl) :
    JE X W (.Call (.Name "list" p) [.Call (.Name "range" p') [e] [] pos'] [] pos) (mLR m) := je_lr C.calm (C.gl h1).1 m1 (C.gl h2).1 m2 he n1 n2
end
end FL
namespace FL
open PySem L2
def Ends (y : Tx) : Prop := y = [] ∨ ∃ q c, y = q ++ [c] ∧ lo1 c ∉ WS
end FL
namespace FL
open PySem PySem.Spec PyProof.Rows L2 LamX
theorem fnG_cs {P : Program} {w : World} {K : PySem.W.Frag} {mg : Str → Option Value} {base : Heap} {k n : Nat} {f cda cc Dc : Addr} {x qual : Str} {st : Stmt} {fd : FuncData} {N ps : List Str} {m : MS} {dV : Value} {sc : Scope} (F : FdC K x qual st f fd dV cda cc Dc) (S : ClsScope N ps sc) (hsc : defScope st = sc) (hn : ps.length = n)
    (hbody : ∀ (X : Cx) (W : WX), X.prog = P → X.w = w → X.K = K → X.mg = mg → X.base = base → Cd X W k N sc → (∀ p0, SupP X.prog X.K X.mg f cda cc Dc p0 sc N → SupT X f cda cc Dc p0) → JWb X W (defBody st) (defBody st) m) : FnG P w K mg base (L2.CX P w) (k + 1) f fd ps (spM K mg (mFn N.length m) n) := by
  subst hsc
  exact fnG_c F S hn fun X W h1 h2 h3 h4 h5 C Z => hbody X W h1 h2 h3 h4 h5 C fun p0 h => h.t C Z
structure FdK (K : PySem.W.Frag) (x qual : Str) (st : Stmt) (f : Addr) (kV : Value) (cda cc : Addr) (fd : FuncData) : Prop where
  ex : ∃ (oc : Value) (od : Option Addr) (doc pm : Value) (an : Option Addr) (ct : Value) (osl : Array (Option Value)),
    fd = PySem.W.ksFn x qual (defArgs st) (defBody st) (defScope st) .none kV doc pm an (.ref cda) ct cc ∧ K.lookup f = some { cls := oc, dict := od, data := .func fd, slots := osl }
  cd : PySem.W.codeIn K (.ref cda) qual = true
section
variable {fs : List (PySem.W.Frag → Bool)} {ds : List Dsc} {ts : Mks} {K : PySem.W.Frag}
theorem HkSays.fk (c : HkSays fs ds ts K) (i : Nat) {d : Dsc} (h : ds[i]? = some d) (hc : d.clo = ([("__class__" : Str)] : List Str)) (hn : d.nd = true := by rfl) : ∃ fd, FdK K d.x d.qual d.st (fAdF K d.p) (kvAd K d.p) (codeAd K d.p) (ccAd K d.p) fd := by
  obtain ⟨oc, od, osl, kV, doc, pm, an, cdv, ct, clo, e1, e2, e3⟩ := c.fn i h hn
  rw [hc] at e1
  match clo, e1 with
  | [(y, cc)], e1 =>
    have e1 : y = ("__class__" : Str) := (List.cons.inj (show [y] = ([("__class__" : Str)] : List Str) from e1)).1
    subst e1
    cases cdv with
    | ref cda =>
      have k1 : kvAd K d.p = kV := by unfold kvAd; rw [e2]
      have k2 : ccAd K d.p = cc := by unfold ccAd; rw [e2]
      have k3 : codeAd K d.p = cda := by unfold codeAd; rw [e2]
      rw [k1, k2, k3]
      exact ⟨_, ⟨oc, od, doc, pm, an, ct, osl, rfl, e2⟩, e3⟩
    | _ => cases e3
theorem HkSays.fl (c : HkSays fs ds ts K) (i : Nat) {d : Dsc} (h : ds[i]? = some d) (hc : d.clo = []) (hn : d.nd = true := by rfl) : ∃ fd, FdL K d.x d.qual d.st (fAdF K d.p) fd .none (codeAd K d.p) := by
  obtain ⟨oc, od, osl, kV, doc, pm, an, cdv, ct, clo, e1, e2, e3⟩ := c.fn i h hn
  rw [hc] at e1
  have e1 : clo = [] := List.map_eq_nil_iff.mp e1
  subst e1
  cases cdv with
  | ref cda =>
    have k3 : codeAd K d.p = cda := by unfold codeAd; rw [e2]
    rw [k3]
    exact ⟨_, oc, od, kV, doc, pm, an, ct, osl, rfl, e2, e3⟩
  | _ => cases e3
end
structure CellOk (K : PySem.W.Frag) (cda cc D : Addr) (file : Str) : Prop where
  cell : ∃ cl cld csl, K.lookup cc = some { cls := cl, dict := cld, data := .cell (some (.ref D)), slots := csl }
  code : ∃ ccl cdd vs ccs fl tf, K.lookup cda = some { cls := ccl, dict := cdd, data := .fields vs, slots := ccs } ∧ vs[2]? = some (.str fl tf) ∧ (file == fl) = true
  clsD : ∃ cdD, PySem.W.clsIn K D = some cdD
  any : PySem.W.nsIn K cStatics "thirdparty.any" = some none
theorem tCell_ok {K : PySem.W.Frag} {c m file : Str} (h : tCell c m file K = true) : CellOk K (codeAd K (c, some m)) (ccAd K (c, some m)) (He.ga K c) file := by
  obtain ⟨h1, h⟩ := Bool.and_eq_true_iff.mp h
  obtain ⟨h2, h⟩ := Bool.and_eq_true_iff.mp h
  obtain ⟨h3, h4⟩ := Bool.and_eq_true_iff.mp h
  refine ⟨?_, ?_, Option.isSome_iff_exists.mp h3, of_decide_eq_true h4⟩
  · split at h1
    · rename_i cl cld v csl e
      have h1 := of_decide_eq_true h1
      subst h1
      exact ⟨_, _, _, e⟩
    · cases h1
  · split at h2
    · rename_i ccl cdd vs ccs e
      split at h2
      · rename_i f tf e2
        exact ⟨_, _, _, _, _, _, e, e2, h2⟩
      · cases h2
    · cases h2
theorem FdK.fc {K : PySem.W.Frag} {x qual : Str} {st : Stmt} {f : Addr} {kV : Value} {cda cc D : Addr} {fd : FuncData} {file : Str} (F : FdK K x qual st f kV cda cc fd) (C : CellOk K cda cc D file) : FdC K x qual st f fd .none cda cc D :=
  let ⟨oc, od, doc, pm, an, ct, osl, h1, h2⟩ := F.ex
  ⟨⟨oc, od, kV, doc, pm, an, ct, osl, h1, h2⟩, F.cd, C.cell⟩
theorem supP_of {P : Program} {mg : Str → Option Value} {K : PySem.W.Frag} {x qual p0 : Str} {st : Stmt} {f : Addr} {kV : Value} {cda cc D : Addr} {fd : FuncData} {N : List Str} {sc : Scope} (F : FdK K x qual st f kV cda cc fd) (C : CellOk K cda cc D P.main.file) (sup : mg "super" = none) (hsc : defScope st = sc)
    (self : ∃ ar, ((defArgs st).posonlyargs ++ (defArgs st).args).head? = some ar ∧ ar.arg = p0) (top : (P.main.scope.names.lookup ("super" : Str)).isSome = false) (ls : sc.names.lookup ("super" : Str) = some .globalImplicit)
    (lc : sc.names.lookup ("__class__" : Str) = some .free) (l0 : sc.names.lookup p0 = some .local) (n0 : N[0]? = some p0) : SupP P K mg f cda cc D p0 sc N := by
  subst hsc
  obtain ⟨oc, od, doc, pm, an, ct, osl, h1, h2⟩ := F.ex
  obtain ⟨ar, s1, s2⟩ := self
  exact ⟨⟨_, fd, ar, h2, rfl, by rw [h1]; exact s1, s2⟩, C.code, C.cell, C.clsD, C.any, top, sup, ls, lc, l0, n0⟩
theorem tFn_ok {K : PySem.W.Frag} {h : Heap} {mg : Str → Option Value} {x : Str} (X : K.In h) (G : h.Ns mainGlobals mg) (t : tFn x K = true) : mg x = some (.ref (fAdF K (x, none))) ∧ PySem.W.keepIn K (.ref (fAdF K (x, none))) = true := by
  obtain ⟨t1, t⟩ := Bool.and_eq_true_iff.mp t
  obtain ⟨t2, t3⟩ := Bool.and_eq_true_iff.mp t
  rw [of_decide_eq_true t3]
  exact ⟨He.glo_ok X G t1, He.keep_ok t2⟩
theorem FdK.bind1 {K : PySem.W.Frag} {x qual : Str} {st : Stmt} {f : Addr} {kV : Value} {cda cc : Addr} {fd : FuncData} {ps ks : List Str} {n : Nat} {sel : List Sel} {dw : List Value} (F : FdK K x qual st f kV cda cc fd)
    (h : ∀ (doc pm : Value) (an : Option Addr) (cdv ct : Value) (cc : Addr), BindW1 K (PySem.W.ksFn x qual (defArgs st) (defBody st) (defScope st) .none kV doc pm an cdv ct cc) ps n ks sel dw) : BindW1 K fd ps n ks sel dw := by
  obtain ⟨oc, od, doc, pm, an, ct, osl, h1, h2⟩ := F.ex
  rw [h1]
  exact h _ _ _ _ _ _
theorem xcH {P : Program} {w : World} {K : PySem.W.Frag} {h : Heap} {mg : Str → Option Value} {base : Heap} {c at_ : String} {st : Stmt} {p0 p1 : Str} {q : Nat → Pos} {sc : Scope} {qual : Str} {kV : Value} {fd : FuncData} (S : SupS P st p0 p1 (Str.ofString at_) q sc) (hm : mg (Str.ofString c) = some (.ref (He.ga K (Str.ofString c)))) (hsup : mg "super" = none)
    (T : tExc (Str.ofString c) (Str.ofString at_) K = true) (F : FdK K "__init__" qual st (fAdF K (Str.ofString c, some "__init__")) kV (codeAd K (Str.ofString c, some "__init__")) (ccAd K (Str.ofString c, some "__init__")) fd) (C : CellOk K (codeAd K (Str.ofString c, some "__init__")) (ccAd K (Str.ofString c, some "__init__")) (He.ga K (Str.ofString c)) P.main.file)
    (hb : ∀ (kV doc pm : Value) (an : Option Addr) (cdv ct : Value) (cc : Addr) (us : List Value), us.length = [p0, p1].length → bindArgs (PySem.W.ksFn "__init__" qual (defArgs st) (defBody st) (defScope st) .none kV doc pm an cdv ct cc) ⟨us, []⟩ = pure ([p0, p1].zip us)) : Xc P w K mg base c at_ := by
  obtain ⟨t0, T⟩ := Bool.and_eq_true_iff.mp T
  obtain ⟨t1, T⟩ := Bool.and_eq_true_iff.mp T
  obtain ⟨t2, T⟩ := Bool.and_eq_true_iff.mp T
  obtain ⟨t3, T⟩ := Bool.and_eq_true_iff.mp T
  obtain ⟨t4, T⟩ := Bool.and_eq_true_iff.mp T
  obtain ⟨t5, T⟩ := Bool.and_eq_true_iff.mp T
  obtain ⟨t6, T⟩ := Bool.and_eq_true_iff.mp T
  obtain ⟨t7, T⟩ := Bool.and_eq_true_iff.mp T
  obtain ⟨t8, T⟩ := Bool.and_eq_true_iff.mp T
  obtain ⟨t9, t10⟩ := Bool.and_eq_true_iff.mp T
  obtain ⟨ccl, cdd, vs, ccs, fl, tf, lcd, hvs, hfile⟩ := C.code
  obtain ⟨cl, cld, csl, lcc⟩ := C.cell
  obtain ⟨oc, od, doc, pm, an, ct, osl, rfl, lI⟩ := F.ex
  split at t0
  · rename_i T dd cd sl ho
    split at t0
    · rename_i C' bm k0 k1 k2 k3 n k5 hmr hs
      simp only [Bool.and_eq_true, beq_iff_eq, Bool.not_eq_true', decide_eq_true_eq] at t0
      obtain ⟨hT, hC', hn, hdel, hd, hbm⟩ := t0
      subst hT hn
      obtain ⟨nm, bs, mro, ns, qn, hdct, sn, sub, ab, col, del⟩ := cd
      dsimp only at hmr hdel hd
      subst hmr hdel hd
      have hsl : sl = #[k0, k1, k2, k3, some (.builtin "ValueError.__new__"), k5] := by
        obtain ⟨l⟩ := sl
        simp only at hs
        rw [hs]
      subst hsl
      rw [hC'] at ho
      exact xc_of S hm hsup ho hbm (of_decide_eq_true t1) (of_decide_eq_true t2) (of_decide_eq_true t3) t4 (of_decide_eq_true t5) (of_decide_eq_true t6) lI F.cd lcd hvs hfile lcc C.any (of_decide_eq_true t7) (of_decide_eq_true t8) (of_decide_eq_true t9) (of_decide_eq_true t10) (hb _ _ _ _ _ _ _)
    · cases t0
  · cases t0
theorem attsOk_of {K : PySem.W.Frag} {h : Heap} {mg : Str → Option Value} (X : K.In h) (G : h.Ns mainGlobals mg) : ∀ (t : AttTb), tAtts t K = true → AttsOk K mg (attT t) := by
  intro t
  induction t with
  | nil => intro _ c f C n; exact absurd rfl n
  | cons e t ih =>
    intro ht c f C n hC
    obtain ⟨h1, h2⟩ := Bool.and_eq_true_iff.mp (show (tAtt1 e K && t.all fun e => tAtt1 e K) = true from by simpa [tAtts] using ht)
    obtain ⟨c', f', o⟩ := e
    by_cases hc : c = c' ∧ f = f'
    · obtain ⟨rfl, rfl⟩ := hc
      have e1 : attT ((c, f, o) :: t) c f = attV o := by simp [attT]
      rw [e1]
      obtain ⟨g1, g2⟩ := Bool.and_eq_true_iff.mp h1
      have g1 := He.glo_ok X G g1
      rw [hC] at g1
      cases g1
      cases o with
      | none =>
        obtain ⟨a, b⟩ := tFld_ok g2
        exact ⟨a, b⟩
      | some s =>
        obtain ⟨a, u, b⟩ := tCon_ok g2
        refine ⟨a, _, u, b, fun F ρ => ?_⟩
        rw [ofS_lit]
        exact .str
    · have e1 : attT ((c', f', o) :: t) c f = attT t c f := by simp [attT, hc]
      rw [e1] at n ⊢
      exact ih h2 c f C n hC
def PrpB (K : PySem.W.Frag) (mg : Str → Option Value) (t : PrpTb) : Prop := ∀ c f b, prpT t c f = some b → ∀ C, mg (Str.ofString c) = some (.ref C) → Cls K C ∧ ∃ p, PropOf K C (Str.ofString f) p (fAdF K (Str.ofString b, some (Str.ofString f)))
theorem prpB_of {K : PySem.W.Frag} {h : Heap} {mg : Str → Option Value} (X : K.In h) (G : h.Ns mainGlobals mg) : ∀ (t : PrpTb), tPrps t K = true → PrpB K mg t := by
  intro t
  induction t with
  | nil => intro _ c f b n; cases n
  | cons e t ih =>
    intro ht c f b n C hC
    obtain ⟨h1, h2⟩ := Bool.and_eq_true_iff.mp (show (tPrp1 e K && t.all fun e => tPrp1 e K) = true from by simpa [tPrps] using ht)
    obtain ⟨c', f', b'⟩ := e
    by_cases hc : c = c' ∧ f = f'
    · obtain ⟨rfl, rfl⟩ := hc
      have e1 : prpT ((c, f, b') :: t) c f = some b' := by simp [prpT]
      rw [e1] at n
      cases n
      obtain ⟨g1, g2⟩ := Bool.and_eq_true_iff.mp h1
      obtain ⟨g2, g3⟩ := Bool.and_eq_true_iff.mp g2
      have g1 := He.glo_ok X G g1
      rw [hC] at g1
      cases g1
      obtain ⟨a, p⟩ := tPrp_ok g2
      have g3 := of_decide_eq_true g3
      dsimp only at g3
      rw [g3] at p
      exact ⟨a, _, p⟩
    · have e1 : prpT ((c', f', b') :: t) c f = prpT t c f := by simp [prpT, hc]
      rw [e1] at n
      exact ih h2 c f b n C hC
def prpM (t : PrpTb) (gm : String → String → Option MF) : String → String → Option MF := fun c f => (prpT t c f).bind fun b => gm b f
theorem propR_of {P : Program} {w : World} {K : PySem.W.Frag} {mg : Str → Option Value} {base : Heap} {j : Nat} {t : PrpTb} {gm : String → String → Option MF} (B : PrpB K mg t)
    (hg : ∀ b f m, gm b f = some m → ∃ fd nm, FnG P w K mg base (L2.CX P w) j (fAdF K (Str.ofString b, some (Str.ofString f))) fd [nm] (spM K mg m 1) ∧ Binds K fd [nm] []) : PropR P w K mg base j (prpM t gm) := by
  intro c f m h C hC
  obtain ⟨b, e1, e2⟩ := Option.bind_eq_some_iff.mp h
  obtain ⟨cl, p, hp⟩ := B c f b e1 C hC
  obtain ⟨fd, nm, F, bb⟩ := hg b f m e2
  exact ⟨cl, p, _, fd, nm, hp, F, bb⟩
def SupB (K : PySem.W.Frag) (mg : Str → Option Value) (c f : String) (D g : Addr) : Prop := ∀ C, mg (Str.ofString c) = some (.ref C) → ∃ og cdC, PySem.W.clsIn K C = some cdC ∧ PySem.W.alongIn K (Str.ofString f) ((cdC.mro.dropWhile (· != .ref D)).drop 1) = some (some (.ref g)) ∧
    K.lookup g = some og ∧ og.cls = .type "function" ∧ PySem.W.fnIn K g = true ∧ PySem.W.mroIn K C (.ref D) = some true
theorem supB_of {K : PySem.W.Frag} {mg : Str → Option Value} {c f : String} {D B : Str} (hm : mg (Str.ofString c) = some (.ref (He.ga K (Str.ofString c)))) (t : tSup (Str.ofString c) D B (Str.ofString f) K = true) : SupB K mg c f (He.ga K D) (fAdF K (B, some (Str.ofString f))) := by
  intro C hC
  rw [hm] at hC
  cases hC
  obtain ⟨cdC, og, h1, h2, h3, h4, h5, h6⟩ := tSup_ok t
  exact ⟨og, cdC, h1, h2, h3, h4, h5, h6⟩
theorem supR_of {P : Program} {w : World} {K : PySem.W.Frag} {mg : Str → Option Value} {base : Heap} {j N : Nat} {c f : String} {D g : Addr} {fd : FuncData} {ps : List Str} {mi : MF} (B : SupB K mg c f D g) (F : FnG P w K mg base (L2.CX P w) j g fd ps (spM K mg mi N)) (hb : Binds K fd ps []) : SupR P w K mg base j c f D mi N := by
  intro C hC
  obtain ⟨og, cdC, h1, h2, h3, h4, h5, h6⟩ := B C hC
  exact ⟨g, og, fd, ps, [], [], cdC, h1, h2, h3, h4, h5, h6, F, hb⟩
section
variable {X : Cx} {W : WX} {k j n N : Nat} {e : Expr} {es : List Expr} {kws : List Keyword} {pos p : Pos} {ks nm : List Str} {sc : Scope} {dds : List D} {m mi : MF} {x : Str} {c : String} {sel : List Sel} {ms mks : List ME}
theorem pick_len {α : Type} (vs ds zs : List α) : ∀ sel : List Sel, (sel.all fun a => match a with
    | .pos i => decide (i < vs.length)
    | .key i => decide (i < zs.length)
    | .dfl i => decide (i < ds.length)) = true → (pickS sel vs ds zs).length = sel.length
  | [], _ => rfl
  | a :: sel, h => by
    rw [List.all_cons] at h
    obtain ⟨h1, h2⟩ := Bool.and_eq_true_iff.mp h
    have ih := pick_len vs ds zs sel h2
    unfold pickS at ih ⊢
    have : ∃ v, a.get vs ds zs = some v := by
      cases a with
      | pos i => exact ⟨_, List.getElem?_eq_getElem (of_decide_eq_true h1)⟩
      | key i => exact ⟨_, List.getElem?_eq_getElem (of_decide_eq_true h1)⟩
      | dfl i => exact ⟨_, List.getElem?_eq_getElem (of_decide_eq_true h1)⟩
    obtain ⟨v, e⟩ := this
    rw [List.filterMap_cons_some e, List.length_cons, List.length_cons, ih]
def selOk (n nd nk : Nat) (sel : List Sel) : Bool := sel.all fun a => match a with
    | .pos i => decide (i < n)
    | .key i => decide (i < nk)
    | .dfl i => decide (i < nd)
theorem sel_len {n nd nk : Nat} {sel : List Sel} (h : selOk n nd nk sel = true) {α : Type} (vs ds zs : List α) (h1 : vs.length = n) (h2 : ds.length = nd) (h3 : zs.length = nk) : (pickS sel vs ds zs).length = sel.length := by
  subst h1 h2 h3
  exact pick_len vs ds zs sel h
theorem clW_of {P : Program} {w : World} {K : PySem.W.Frag} {mg : Str → Option Value} {base : Heap} {C f : Addr} {fd : FuncData} {ps : List Str} {ds : List Value} {dvs : List V} (hm : mg (Str.ofString c) = some (.ref C)) (M : Mk K C f) (F : FnG P w K mg base (L2.CX P w) j f fd ps (spM K mg mi (N + 1))) (hb : BindW1 K fd ps n ks sel ds)
    (hd : Vals dvs ds) (hr : ∀ F ρ, RepL K mg F ρ dvs dds) (hs : selOk n dds.length ks.length sel = true) (hN : sel.length = N) : ClW P w K mg base j c n ks sel mi N dds :=
  ⟨fun vs ds zs h1 h2 h3 => by rw [← hN]; exact sel_len hs vs ds zs h1 h2 h3, C, f, fd, ps, ds, dvs, hm, M, F, hb, hd, hr⟩
end
end FL
namespace FL
open PySem PySem.Spec PyProof.Rows L2
def BindsT (s : Shared) (fd : FuncData) (args : Args) (pre : List (Str × Value)) (pv : Str) (rest : List Value) : Prop :=
  ∀ (M : Model) (A : Around) (E : Value → Shared → Prop) (Q : List (Str × Value) → Shared → Prop), wpAny M A (newTuple rest >>= fun t => pure (pre ++ [(pv, t)])) Q E s → wpAny M A (bindArgs fd args) Q E s
theorem BindsT.of_eq {s : Shared} {fd : FuncData} {args : Args} {pre : List (Str × Value)} {pv : Str} {rest : List Value} (h : bindArgs fd args = (newTuple rest >>= fun t => pure (pre ++ [(pv, t)]))) : BindsT s fd args pre pv rest :=
  fun _ _ _ _ q => h ▸ q
end FL
namespace FL
open PySem PySem.Spec PyProof.Rows L2
def anyO : List (Option Bool) → Option Bool
  | [] => some false
  | some true :: _ => some true
  | some false :: r => anyO r
  | none :: _ => none
section
variable {X : Cx} {W : WX} {k : Nat} {N : List Str} {sc : Scope} {e : Expr} {es : List Expr} {pos p p2 : Pos} {o : Opn} {isa isb : String → String → Option Bool} {ds : List String}
theorem kitAny_of {K : PySem.W.Frag} {t : Value} {f : String → Option Bool} : ∀ {ds : List String} {us : List Value} {b : Bool}, Paired (fun d u => ∀ b, f d = some b → PySem.W.kitOne K t u = some b) ds us → anyO (ds.map f) = some b → PySem.W.kitAny K t us = some b
  | _, _, b, .nil, e => by cases e; rfl
  | d :: ds, u :: us, b, .cons h r, e => by
    unfold PySem.W.kitAny
    rw [List.map_cons] at e
    cases hf : f d with
    | none => rw [hf] at e; cases e
    | some b1 =>
      rw [hf] at e
      rw [h b1 hf]
      cases b1 with
      | true => cases e; rfl
      | false => exact kitAny_of r e
theorem glos_refs {F : Hp} {ρ : List Addr} : ∀ {ds : List String} {vs : List V}, (∀ d ∈ ds, ∃ D : Addr, X.mg (Str.ofString d) = some (.ref D)) → RepL X.K X.mg F ρ vs (ds.map .glo) → ∃ us : List Addr, vs = us.map V.ref ∧ Paired (fun d u => X.mg (Str.ofString d) = some (.ref u)) ds us
  | [], _, _, .nil => ⟨[], rfl, .nil⟩
  | d :: ds, _, h, .cons (v := v) (vs := vs) r t => by
    obtain ⟨D, hD⟩ := h d (List.mem_cons_self ..)
    cases glo_ref hD r
    obtain ⟨us, rfl, p⟩ := glos_refs (fun d hd => h d (List.mem_cons_of_mem _ hd)) t
    exact ⟨D :: us, rfl, .cons hD p⟩
theorem kit_all {t : Value} {f : String → Option Bool} (kk : ∀ d b (D : Addr), f d = some b → X.mg (Str.ofString d) = some (.ref D) → PySem.W.kitOne X.K t (.ref D) = some b) : ∀ {ds : List String} {us : List Addr}, Paired (fun d u => X.mg (Str.ofString d) = some (.ref u)) ds us →
    Paired (fun d u => ∀ b, f d = some b → PySem.W.kitOne X.K t u = some b) ds (us.map Value.ref)
  | _, _, .nil => .nil
  | _, _, .cons h p => .cons (fun b e => kk _ b _ e h) (kit_all kk p)
theorem evA_glos {δ : FL.Loc} {μ : Mem} : ∀ ds : List String, evA (ds.map fun d => mD (.glo d)) δ μ = .ok (ds.map .glo) δ μ
  | [] => rfl
  | d :: ds => by
    show ((mD (.glo d) δ μ).bind fun s δ1 μ1 => (evA (ds.map fun d => mD (.glo d)) δ1 μ1).bind fun ds δ2 μ2 => Out.ok (s.d :: ds) δ2 μ2) = _
    show (evA (ds.map fun d => mD (.glo d)) δ μ).bind _ = _
    rw [evA_glos ds]
    rfl
end
end FL
namespace FL
open PySem PySem.Spec PyProof.Rows L2
inductive OutY where
  | nx (acc : List D) (δ : FL.Loc) (μ : Mem)
  | bad
section
variable (X : Cx)
def FinY (Z F : Hp) (ρ : List Addr) (D : GEnds) : OutY → Prop
  | .nx acc δ μ => ∀ ys' σ' H' F' ρ', Le Z F F' → LeR Z ρ ρ' → Sim X.K X.mg Z F' ρ' μ δ σ' H' → RepL X.K X.mg F' ρ' ys' acc → D.nx ys' σ' H'
  | .bad => False
end
theorem _root_.L2.GS.imp {X : Cx} {s : Stmt} {t t' : TGn} (h : GS X s t) (hi : ∀ D ys σ H, t' D ys σ H → t D ys σ H) : GS X s t' := ⟨fun A S ip R n ys s₀ c fs K J gd lv s σ H D a b k I q => h.run A S ip R n ys s₀ c fs K J gd lv s σ H D a b k I (hi D ys σ H q)⟩
theorem _root_.L2.GSs.imp {X : Cx} {s : List Stmt} {t t' : TGn} (h : GSs X s t) (hi : ∀ D ys σ H, t' D ys σ H → t D ys σ H) : GSs X s t' := ⟨fun A S ip R n ys s₀ c fs K J gd lv s σ H D a b k I q => h.run A S ip R n ys s₀ c fs K J gd lv s σ H D a b k I (hi D ys σ H q)⟩
section
variable {X : Cx} {W : WX} {Z F F1 : Hp} {ρ ρ1 : List Addr} {D : GEnds}
theorem FinY.mono {r : OutY} (h : FinY X Z F ρ D r) (l : Le Z F F1) (lr : LeR Z ρ ρ1) : FinY X Z F1 ρ1 D r := by
  cases r with
  | nx acc δ μ => exact fun ys' σ' H' F' ρ' l' lr' S r => h ys' σ' H' F' ρ' (l.trans l') (lr.trans lr') S r
  | bad => exact h
end
end FL
namespace FL
open PySem PySem.Spec PyProof.Rows L2
def MthB (K : PySem.W.Frag) (mg : Str → Option Value) (cs : List String) (b f : Str) : Prop := ∀ c ∈ cs, ∀ C, mg (Str.ofString c) = some (.ref C) → Cls K C ∧ Meth K C f (fAdF K (b, some f))
theorem mthB_of {K : PySem.W.Frag} {h : Heap} {mg : Str → Option Value} {cs : List String} {b f : Str} (X : K.In h) (G : h.Ns mainGlobals mg) (t : tMths cs b f K = true) : MthB K mg cs b f := by
  intro c hc C hC
  obtain ⟨t1, t⟩ := Bool.and_eq_true_iff.mp t
  obtain ⟨t2, t⟩ := Bool.and_eq_true_iff.mp t
  obtain ⟨t3, t⟩ := Bool.and_eq_true_iff.mp (List.all_eq_true.mp t c hc)
  obtain ⟨t4, t5⟩ := Bool.and_eq_true_iff.mp t
  rw [He.glo_ok X G t3] at hC
  cases hC
  exact ⟨He.cls_ok t4, of_decide_eq_true t5, t1, t2⟩
section
variable {X : Cx} {W : WX} {k j : Nat} {N : List Str} {sc : Scope} {e o a b : Expr} {es : List Expr} {pos p apos pos' : Pos} {x : Str} {i : Nat}
theorem Cg.ov (C : Cg X W k N sc) (h : varC N sc i x = true) : JO X W (.Name x p) (.v i) := jo_v (C.var h)
theorem Cg.hu (C : Cg X W k N sc) : X.A.units + 64 < cLine := by
  have := C.rm.un
  omega
end
end FL
namespace FL
open PySem PySem.Spec PyProof.Rows L2
structure SMet (K : PySem.W.Frag) (C : Addr) (mc : Value) (m : Str) (p g : Addr) : Prop where
  rd : PySem.W.readsIn K C mc = true
  ga : PySem.W.specialIn K (.ref C) "__getattribute__" = some (some (.builtin "type.__getattribute__"))
  at_ : PySem.W.findCls K (.ref C) mc m = some (.get (.builtin "staticmethod.__get__") (.ref p) .none (.ref C))
  rc : ∃ rest, PySem.W.recIn K p "staticmethod" = some (.ref g :: rest)
  kp : PySem.W.keepIn K (.ref g) = true
section
variable {X : Cx} {W : WX} {k j n : Nat} {pins : List (Addr × Obj)} {σ : L2.St} {H : Hp} {s : Shared} {C p0 g : Addr} {mc : Value} {m c : Str} {A : Around} {E' : Value → Shared → Prop} {N : List Str} {sc : Scope} {e : Expr} {es : List Expr} {pos p apos : Pos}
structure SmR (P : Program) (w : World) (K : PySem.W.Frag) (mg : Str → Option Value) (base : Heap) (j : Nat) (c m : Str) (mf : MF) (n : Nat) : Prop where
  ex : ∃ (C p g : Addr) (mc : Value) (fd : FuncData) (ps : List Str), mg c = some (.ref C) ∧ SMet K C mc m p g ∧ FnG P w K mg base (L2.CX P w) j g fd ps (spM K mg mf n) ∧ Binds K fd ps []
end
end FL
namespace FL
open PySem PySem.Spec PyProof.Rows L2
section
variable {P : Program} {w : World} {K : PySem.W.Frag} {mg : Str → Option Value} {base : Heap} {j : Nat} {c f : String} {n : Nat} {m : MF} {fd : FuncData} {ps : List Str}
theorem MethR.up {i : Nat} {mt : String → String → Nat → Option MF} (h : MethR P w K mg base i mt) (hij : i ≤ j) : MethR P w K mg base j mt := by
  intro c f n m e C hC
  obtain ⟨cl, g, fd, ps, ds, dvs, dds, m', N, h1, h2, h3⟩ := h c f n m e C hC
  exact ⟨cl, g, fd, ps, ds, dvs, dds, m', N, h1, h2.mono hij, h3⟩
structure StB (K : PySem.W.Frag) (mg : Str → Option Value) (c f : String) : Prop where
  ex : ∃ (C p : Addr) (mc : Value), mg (Str.ofString c) = some (.ref C) ∧ SMet K C mc (Str.ofString f) p (fAdF K (pM c f))
theorem StB.sm (B : StB K mg c f) (F : FnG P w K mg base (L2.CX P w) j (fAdF K (pM c f)) fd ps (spM K mg m n)) (hb : Binds K fd ps []) : SmR P w K mg base j (Str.ofString c) (Str.ofString f) m n := by
  obtain ⟨C, p, mc, h1, h2⟩ := B.ex
  exact ⟨C, p, _, mc, fd, ps, h1, h2, F, hb⟩
end
section
variable {X : Cx} {W : WX} {k j n N : Nat} {nm : List Str} {sc : Scope} {e o : Expr} {es : List Expr} {kws : List Keyword} {pos p apos pos' tpos : Pos} {m mi : MF} {ms mks : List ME} {c : String} {ks : List Str} {sel : List Sel} {dds : List D} {at_ : String → String → Att} {f : String}
theorem clS (Cc : Cs X W k nm sc) (V : ClW X.prog X.w X.K X.mg X.base j c n ks sel mi N dds) (hjk : j + 1 ≤ k) (hg : glC sc (Str.ofString c) = true) (ha : JA X W (e :: es) ms) (hkw : JK X W kws mks) (h1 : ms.length = n) (h2 : mks.length = ks.length)
    (hall : (backToKw pos (keywordEach kws X.env)).all (·.1.isSome) = true := by rfl) (hks : (backToKw pos (keywordEach kws X.env)).filterMap (·.1) = ks := by rfl)
    (he : starEach (e :: es) X.env = (false, eval e X.env) :: starEach es X.env := by rfl) (hpl : ((backTo pos (starEach (e :: es) X.env)).any (·.1) || (backToKw pos (keywordEach kws X.env)).any (·.1.isNone)) = false := by rfl) :
    JE X W (.Call (.Name (Str.ofString c) p) (e :: es) kws pos) (mCallK (mkS c mi) sel ms mks dds) :=
  let ⟨_, hm, F⟩ := V.callS
  je_callW Cc F hm hjk hg ha hkw h1 h2 hall hks he hpl
theorem Fd.bind1 {K : PySem.W.Frag} {x qual : Str} {st : Stmt} {f : Addr} {fd : FuncData} (F : Fd K x qual st f fd .none) {ps ks : List Str} {n : Nat} {sel : List Sel} {dw : List Value}
    (h : ∀ (kV doc pm : Value) (an : Option Addr) (cdv ct : Value), BindW1 K (PySem.W.fnOf x qual (defArgs st) (defBody st) (defScope st) .none kV doc pm an cdv ct) ps n ks sel dw) : BindW1 K fd ps n ks sel dw := by
  obtain ⟨oc, od, kV, doc, pm, an, cdv, ct, osl, rfl, lk, hcd⟩ := F.ex
  exact h _ _ _ _ _ _
end
end FL
namespace FL
open PySem
theorem NF.cons {k h g l c p kp} {fs : List Frame} : NF (.ret k h g l c p kp :: fs) ↔ NF fs := by
  simp [NF, splitAtGen]
theorem NF.app : ∀ {fs gs : List Frame}, NF fs → NF gs → NF (fs ++ gs)
  | [], _, _, h => h
  | .ret _ _ _ _ _ _ _ :: fs, gs, a, b => NF.cons.mpr (NF.app (NF.cons.mp a) b)
  | .gen _ _ _ _ _ :: fs, gs, a, _ => by simp [NF, splitAtGen] at a
def NE : End → Prop
  | .susp _ _ _ _ _ _ fs => NF fs
  | _ => True
theorem NE.gs {e : End} (h : NE e) : NG e.genState := by
  cases e with
  | ret _ => trivial
  | susp _ _ _ _ _ _ fs => exact h
theorem Keep.refl {a b : Array GenState} : Keep a a b b := fun _ _ _ h1 h2 _ => ⟨h1, h2⟩
theorem Rel.push {a b : Array GenState} {c : Code} (h : Rel a b) : Rel (a.push (.fresh c)) (b.push (.fresh c)) := by
  refine ⟨by simp [h.1], fun i x y h1 h2 => ?_⟩
  rw [Array.getElem?_push] at h1 h2
  rw [h.1] at h1
  by_cases e : i = b.size
  · rw [if_pos e] at h1 h2
    injection h1 with h1
    injection h2 with h2
    exact .inl ⟨h1.symm.trans h2, by rw [← h1]; trivial⟩
  · rw [if_neg e] at h1 h2
    exact h.2 i x y h1 h2
theorem Keep.push {a b : Array GenState} {c : Code} (h : Rel a b) : Keep a (a.push (.fresh c)) b (b.push (.fresh c)) := fun i x y h1 h2 _ => by
  have ha := (Array.getElem?_eq_some_iff.mp h1).1
  have hb := (Array.getElem?_eq_some_iff.mp h2).1
  rw [Array.getElem?_push, Array.getElem?_push, if_neg (by omega), if_neg (by omega)]
  exact ⟨h1, h2⟩
theorem Rel.at {a b : Array GenState} (h : Rel a b) {g : Nat} {x : GenState} (hx : a[g]? = some x) : ∃ y, b[g]? = some y ∧ ((x = y ∧ NG x) ∨ Poi x y) := by
  have ha := (Array.getElem?_eq_some_iff.mp hx).1
  have hb : g < b.size := h.1 ▸ ha
  exact ⟨b[g], Array.getElem?_eq_getElem hb, h.2 g x _ hx (Array.getElem?_eq_getElem hb)⟩
end FL
namespace FL
open PySem
open Sem (wp)
def Sg (M : Model) (A : Around) (Φ : End → Shared → Prop) (c : Code) (t : Sem PySem.Fin) (fs : List Frame) (s : Shared) : Prop :=
  ∀ Γ p, Γ.code = c → Γ.Woken A → ∃ e s', Runs M Γ p t fs s e s' ∧ Φ e s'
end FL
namespace FL
open PySem PySem.Spec PyProof.Rows L2
def Slp (a b : Array GenState) : Prop := ∀ (i : Nat) k l c p fs cl, a[i]? = some (.suspended k l c p fs cl) → b[i]? = some (.suspended k l c p fs cl)
end FL
namespace FL
open PySem PySem.Spec PyProof.Rows L2
def below (h : Heap) (L : Addr) : Heap := { h with objs := h.objs.extract 0 L }
theorem get_iff {h : Heap} {b : Addr} {o : Obj} : h.get? b = some o ↔ h.objs[b]? = some o ∧ o.isFreed = false := Heap.get?_some_iff
theorem below_of {h : Heap} {L b : Addr} {o : Obj} (e : (below h L).get? b = some o) : b < L ∧ h.get? b = some o := by
  rw [get_iff] at e
  obtain ⟨e1, e2⟩ := e
  have e3 : (h.objs.extract 0 L)[b]? = some o := e1
  have hb : b < (h.objs.extract 0 L).size := (Array.getElem?_eq_some_iff.mp e3).1
  rw [Array.size_extract, Nat.sub_zero] at hb
  have hb2 : b < L := Nat.lt_of_lt_of_le hb (Nat.min_le_left _ _)
  rw [Array.getElem?_extract, if_pos (by rw [Nat.sub_zero]; exact hb), Nat.zero_add] at e3
  exact ⟨hb2, get_iff.mpr ⟨e3, e2⟩⟩
theorem below_to {h : Heap} {L b : Addr} {o : Obj} (e : h.get? b = some o) (hb : b < L) : (below h L).get? b = some o := by
  rw [get_iff] at e ⊢
  obtain ⟨e1, e2⟩ := e
  refine ⟨?_, e2⟩
  have hs : b < h.objs.size := (Array.getElem?_eq_some_iff.mp e1).1
  show (h.objs.extract 0 L)[b]? = some o
  rw [Array.getElem?_extract, if_pos (by rw [Nat.sub_zero]; exact Nat.lt_min.mpr ⟨hb, hs⟩), Nat.zero_add]
  exact e1
theorem below_size {h : Heap} {L : Addr} (hL : L ≤ h.objs.size) : (below h L).objs.size = L := by
  show (h.objs.extract 0 L).size = L
  rw [Array.size_extract, Nat.sub_zero]
  exact Nat.min_eq_left hL
def cutH (h : Heap) (L : Addr) (hs : List Addr) : Heap := PySem.W.hideAll (below h L) hs
theorem cut_of {h : Heap} {L b : Addr} {hs : List Addr} {o : Obj} (e : (cutH h L hs).get? b = some o) : b < L ∧ b ∉ hs ∧ h.get? b = some o := by
  obtain ⟨e1, e2⟩ := below_of (PySem.W.of_hideAll hs e)
  refine ⟨e1, fun hm => ?_, e2⟩
  rw [show (cutH h L hs).get? b = none from PySem.W.hideAll_none hs hm] at e
  cases e
theorem cut_to {h : Heap} {L b : Addr} {hs : List Addr} {o : Obj} (e : h.get? b = some o) (hb : b < L) (hn : b ∉ hs) : (cutH h L hs).get? b = some o := PySem.W.hideAll_get hs (below_to e hb) hn
theorem cut_size {h : Heap} {L : Addr} {hs : List Addr} (hL : L ≤ h.objs.size) : (cutH h L hs).objs.size = L := (PySem.W.hideAll_size _ _).trans (below_size hL)
theorem cut_frames {h base : Heap} {L : Addr} {hs : List Addr} : ∀ {l : List Env}, (∀ b ∈ frs l, b < L ∧ b ∉ hs) → h.FunFrames base l → (cutH h L hs).FunFrames base l
  | [], _, _ => trivial
  | env :: l, hb, hf => by
    obtain ⟨k, ⟨a, o, e1, e2, e3, e4⟩, r⟩ := hf
    have ha : a ∈ frs (env :: l) := by unfold frs; rw [List.filterMap_cons, e1]; exact List.mem_cons_self
    refine ⟨k, ⟨a, o, e1, e2, cut_to e3 (hb a ha).1 (hb a ha).2, e4⟩, cut_frames (fun b hm => hb b ?_) r⟩
    unfold frs at hm ⊢
    rw [List.filterMap_cons, e1]
    exact List.mem_cons_of_mem _ hm
structure GD where
  P : Program
  w : World
  K : PySem.W.Frag
  mg : Str → Option Value
  base : Heap
  N : List Str
  env : Env
  l : List Env
  A : Around
def GD.X (G : GD) (s0 : Shared) (H0 : Hp) : Cx where
  prog := G.P
  w := G.w
  K := G.K
  mg := G.mg
  base := G.base
  A := G.A.deeper G.env
  N := G.N
  s_0 := s0
  H_0 := H0
  env := G.env
  outer := G.l
  stack := G.env :: G.l
  ex := []
  fn := fun _ => true
  calm := true
  pn := []
  xe := fun _ _ => False
structure GD.Ok (G : GD) : Prop where
  kind : G.env.scope.kind = .function
  glob : G.env.globals = mainGlobals
  blt : G.env.builtins = builtinsNs
  cells : ∀ x c, G.env.cells.lookup x ≠ some c
  nocell : ∀ x, G.env.kindOf x ≠ some .cell ∧ G.env.kindOf x ≠ some .free
  frame : G.env.frame = some G.env.locals
  bl : G.base.objs.size ≤ G.env.locals
  frl : ∀ b ∈ frs G.l, b < G.env.locals
  hd : G.A.handled = none
def LsOnly (δ : Loc) : Prop := ∀ (i : Nat) o, δ[i]? = some (some (.own o)) → ∃ ds, o = .lst ds
structure Pk (G : GD) (F : Hp) (ρ : List Addr) (δ : Loc) (σ : L2.St) (lk : Addr → Option (List V)) (hs : List Addr) (h : Heap) : Prop where
  len : σ.length = δ.length
  lenN : σ.length = G.N.length
  fr : ∀ (i : Nat) d, δ[i]? = some (some (.fr d)) → ∃ v, σ[i]? = some (some v) ∧ Rep G.K G.mg F ρ v d
  own : ∀ (i : Nat) o, δ[i]? = some (some (.own o)) → ∃ p ds vs, o = .lst ds ∧ σ[i]? = some (some (.ref p)) ∧ lk p = some vs ∧ RepL G.K G.mg F ρ vs ds
  apart : ∀ (i j : Nat) p s s', δ[i]? = some (some (.own s)) → δ[j]? = some (some (.own s')) → σ[i]? = some (some (.ref p)) → σ[j]? = some (some (.ref p)) → i = j
  lks : ∀ p vs, lk p = some vs → p ∈ hs ∧ vs.length ≤ sizeLine ∧ ∃ its n, Vals vs its ∧ h.get? p = some { cls := .type "list", data := .seq its.toArray n }
  hsk : ∀ p ∈ hs, p ≠ G.env.locals ∧ G.base.get? p = none ∧ p ∉ frs G.l ∧ ∃ vs, lk p = some vs
  loc : ∃ m, h.Ns G.env.locals m ∧ ∀ (i : Nat) (x : Str) (v : V), G.N[i]? = some x → σ[i]? = some (some v) → Vis G.env.scope x → ∃ u, RelV v u ∧ Look G.env h m x u
section
variable {G : GD} {F F' : Hp} {ρ ρ' : List Addr} {δ : Loc} {σ : L2.St} {lk : Addr → Option (List V)} {hs : List Addr} {h h' : Heap}
theorem look_to (OK : G.Ok) {m : Str → Option Value} {x : Str} {u : Value} (q : Look G.env h m x u) : Look G.env h' m x u := by
  rcases q with q | ⟨_, c, e, _⟩
  · exact .inl q
  · exact absurd e (OK.cells x c)
theorem Pk.stay (OK : G.Ok) (k : Pk G F ρ δ σ lk hs h) (l : ∀ p o, F p = some o → F' p = some o) (lr : ∀ (k : Nat) p, ρ[k]? = some p → ρ'[k]? = some p) (hk : ∀ b ∈ G.env.locals :: hs, ∀ o, h.get? b = some o → h'.get? b = some o) : Pk G F' ρ' δ σ lk hs h' := by
  refine ⟨k.len, k.lenN, fun i d e => ?_, fun i o e => ?_, k.apart, fun p vs e => ?_, k.hsk, ?_⟩
  · obtain ⟨v, e1, r⟩ := k.fr i d e
    exact ⟨v, e1, Rep.up l lr r⟩
  · obtain ⟨p, ds, vs, e1, e2, e3, r⟩ := k.own i o e
    exact ⟨p, ds, vs, e1, e2, e3, RepL.up l lr r⟩
  · obtain ⟨e1, e2, its, n, e3, e4⟩ := k.lks p vs e
    exact ⟨e1, e2, its, n, e3, hk p (List.mem_cons_of_mem _ e1) _ e4⟩
  · obtain ⟨m, hn, q⟩ := k.loc
    refine ⟨m, hn.at' fun o e => hk _ List.mem_cons_self o e, fun i x v e1 e2 e3 => ?_⟩
    obtain ⟨u, r, z⟩ := q i x v e1 e2 e3
    exact ⟨u, r, look_to OK z⟩
end
def Ext (G : GD) (h : Heap) (lk : Addr → Option (List V)) (H : Hp) (p : Addr) : Prop := G.env.locals < p ∧ lk p = none ∧ H p = none ∧ ∃ o, h.get? p = some o
def extO (h : Heap) (p : Addr) : HO := .ext fun h' => ∀ o, h.get? p = some o → h'.get? p = some o
section
variable (G : GD) (h : Heap) (lk : Addr → Option (List V)) (Z F H : Hp) (ρ : List Addr)
open Classical in
noncomputable def hgW : Hp := fun p => match lk p with
  | some vs => some (.lst vs)
  | none => if Ext G h lk H p then some (extO h p) else H p
def isFrz : Option HO → Bool
  | some (.frz _ _) => true
  | _ => false
open Classical in
noncomputable def zW : Hp := fun p => if (lk p).isSome = true then none else if Ext G h lk H p then some (extO h p) else if isFrz (H p) = true then H p else if p ∈ ρ ∨ (F p).isSome = true then Z p else H p
end
section
variable {G : GD} {h : Heap} {lk : Addr → Option (List V)} {Z F H : Hp} {ρ : List Addr} {p : Addr}
theorem hg_lk {vs : List V} (e : lk p = some vs) : hgW G h lk H p = some (.lst vs) := by unfold hgW; rw [e]
theorem hg_ext (e : Ext G h lk H p) : hgW G h lk H p = some (extO h p) := by
  unfold hgW
  rw [e.2.1]
  exact if_pos e
theorem hg_else (e : lk p = none) (n : ¬ Ext G h lk H p) : hgW G h lk H p = H p := by
  unfold hgW
  rw [e]
  exact if_neg n
theorem hg_some (e : lk p = none) {u : HO} (n : H p = some u) : hgW G h lk H p = some u := by
  rw [hg_else e fun x => by rw [x.2.2.1] at n; cases n]
  exact n
theorem zw_lk {vs : List V} (e : lk p = some vs) : zW G h lk Z F H ρ p = none := by unfold zW; rw [if_pos (by rw [e]; rfl)]
theorem zw_ext (e : Ext G h lk H p) : zW G h lk Z F H ρ p = some (extO h p) := by
  unfold zW
  rw [if_neg (by rw [e.2.1]; exact Bool.false_ne_true), if_pos e]
theorem zw_known (e : lk p = none) (n : ¬ Ext G h lk H p) (nf : isFrz (H p) = false) (k : p ∈ ρ ∨ (F p).isSome = true) : zW G h lk Z F H ρ p = Z p := by
  unfold zW
  rw [if_neg (by rw [e]; exact Bool.false_ne_true), if_neg n, if_neg (by rw [nf]; exact Bool.false_ne_true), if_pos k]
theorem zw_else (e : lk p = none) (n : ¬ Ext G h lk H p) (k : ¬ (p ∈ ρ ∨ (F p).isSome = true)) : zW G h lk Z F H ρ p = H p := by
  unfold zW
  rw [if_neg (by rw [e]; exact Bool.false_ne_true), if_neg n]
  split
  · rfl
  · rfl
end
structure Wk (G : GD) (Z F : Hp) (ρ : List Addr) (μ : Mem) (H : Hp) (δ : Loc) (σ : L2.St) (lk : Addr → Option (List V)) (hs : List Addr) (s : Shared) : Prop where
  e0 : Env0 G.P G.w G.K G.mg G.base G.A G.l s H
  sim : Sim G.K G.mg Z F ρ μ [] [] H
  pk : Pk G F ρ δ σ lk hs s.heap
  hL : H G.env.locals = none
  hh : ∀ p ∈ hs, H p = none
  tabs : ∀ P q, Own.tab P q ∈ μ → P < G.env.locals
def sW (G : GD) (hs : List Addr) (s : Shared) : Shared := { s with heap := cutH s.heap G.env.locals hs }
open Classical in
noncomputable def h0W (G : GD) (hs : List Addr) (H : Hp) : Hp := fun p => if p < G.env.locals ∧ p ∉ hs then H p else none
section
variable {G : GD} {Z F H : Hp} {ρ : List Addr} {μ : Mem} {δ : Loc} {σ : L2.St} {lk : Addr → Option (List V)} {hs : List Addr} {s : Shared}
theorem h0_none {p : Addr} (n : H p = none) : h0W G hs H p = none := by
  unfold h0W
  split
  · exact n
  · rfl
theorem h0_some {p : Addr} {u : HO} (e : h0W G hs H p = some u) : p < G.env.locals ∧ p ∉ hs ∧ H p = some u := by
  unfold h0W at e
  split at e
  · rename_i c
    exact ⟨c.1, c.2, e⟩
  · cases e
theorem h0_at {p : Addr} (hp : p < G.env.locals) (hn : p ∉ hs) : h0W G hs H p = H p := by unfold h0W; rw [if_pos ⟨hp, hn⟩]
theorem Wk.lk_none (k : Wk G Z F ρ μ H δ σ lk hs s) {p : Addr} (hp : p ∉ hs) : lk p = none := by
  cases e : lk p with
  | none => rfl
  | some vs => exact absurd (k.pk.lks p vs e).1 hp
theorem Wk.lk_of (k : Wk G Z F ρ μ H δ σ lk hs s) {p : Addr} {u : HO} (e : H p = some u) : p ∉ hs ∧ lk p = none := by
  have hp : p ∉ hs := fun hm => by rw [k.hh p hm] at e; cases e
  exact ⟨hp, k.lk_none hp⟩
theorem Wk.lt (k : Wk G Z F ρ μ H δ σ lk hs s) : G.env.locals < s.heap.objs.size := let ⟨_, hn, _⟩ := k.pk.loc; hn.lt
theorem Wk.frn (OK : G.Ok) (k : Wk G Z F ρ μ H δ σ lk hs s) : ∀ b ∈ frs G.l, b < G.env.locals ∧ b ∉ hs := fun b hb => ⟨OK.frl b hb, fun hm => (k.pk.hsk b hm).2.2.1 hb⟩
theorem Wk.bsn (OK : G.Ok) (k : Wk G Z F ρ μ H δ σ lk hs s) {b : Addr} {o : Obj} (e : G.base.get? b = some o) : b < G.env.locals ∧ b ∉ hs := ⟨Nat.lt_of_lt_of_le (Heap.lt_size e) OK.bl, fun hm => by rw [(k.pk.hsk b hm).2.1] at e; cases e⟩
theorem own_kind {K : PySem.W.Frag} {mg : Str → Option Value} {c : Own} {p : Addr} {u : HO} (r : OwnR K mg F ρ H p c) (e : H p = some u) : (∀ xs, u ≠ .tup xs) ∧ (∀ o v, u ≠ .frz o v) ∧ (∀ ps, u = .tbl ps → ∃ q, c = .tab p q) ∧ (∀ φ, u ≠ .ext φ) := by
  cases c with
  | lst ds => obtain ⟨vs, h, _⟩ := r; rw [e] at h; cases h; exact ⟨fun _ z => (by cases z), fun _ _ z => (by cases z), fun _ z => (by cases z), fun _ z => (by cases z)⟩
  | dct ks ds => obtain ⟨vs, h, _⟩ := r; rw [e] at h; cases h; exact ⟨fun _ z => (by cases z), fun _ _ z => (by cases z), fun _ z => (by cases z), fun _ z => (by cases z)⟩
  | ins c kd ks ds => obtain ⟨C, dx, vs, _, _, h, _⟩ := r; rw [e] at h; cases h; exact ⟨fun _ z => (by cases z), fun _ _ z => (by cases z), fun _ z => (by cases z), fun _ z => (by cases z)⟩
  | idc k => obtain ⟨q, _, h⟩ := r; rw [e] at h; cases h; exact ⟨fun _ z => (by cases z), fun _ _ z => (by cases z), fun _ z => (by cases z), fun _ z => (by cases z)⟩
  | tab P q => obtain ⟨e0, ps, h, _⟩ := r; subst e0; rw [e] at h; cases h; exact ⟨fun _ z => (by cases z), fun _ _ z => (by cases z), fun _ _ => ⟨q, rfl⟩, fun _ z => (by cases z)⟩
theorem Wk.z_hg (k : Wk G Z F ρ μ H δ σ lk hs s) {p : Addr} {o : HO} (e : zW G s.heap lk Z F H ρ p = some o) : hgW G s.heap lk H p = some o := by
  cases hl : lk p with
  | some vs => rw [zw_lk hl] at e; cases e
  | none =>
    by_cases hx : Ext G s.heap lk H p
    · rw [zw_ext hx] at e; rw [hg_ext hx]; exact e
    · rw [hg_else hl hx]
      by_cases hf : isFrz (H p) = true
      · unfold zW at e
        rw [if_neg (by rw [hl]; exact Bool.false_ne_true), if_neg hx, if_pos hf] at e
        exact e
      · by_cases hk : p ∈ ρ ∨ (F p).isSome = true
        · rw [zw_known hl hx (by simpa using hf) hk] at e
          exact k.sim.zk p o e
        · rw [zw_else hl hx hk] at e
          exact e
theorem wake_in (OK : G.Ok) (k : Wk G Z F ρ μ H δ σ lk hs s) :
    Inv (G.X (sW G hs s) (h0W G hs H)) [] σ (hgW G s.heap lk H) s ∧ Sim G.K G.mg (zW G s.heap lk Z F H ρ) F ρ μ δ σ (hgW G s.heap lk H) := by
  have hLs := k.lt
  have hsz : (cutH s.heap G.env.locals hs).objs.size = G.env.locals := cut_size (Nat.le_of_lt hLs)
  have lkL : lk G.env.locals = none := k.lk_none fun hm => (k.pk.hsk _ hm).1 rfl
  have hgL : hgW G s.heap lk H G.env.locals = none := by
    rw [hg_else lkL fun x => absurd x.1 (Nat.lt_irrefl _)]
    exact k.hL
  constructor
  · refine ⟨⟨k.e0.mod, OK.kind, OK.glob, OK.blt, Nat.le_of_eq hsz, fun x y c e => absurd e (OK.cells x c), fun x hx => ?_, fun x c _ e => absurd e (OK.cells x c), fun _ => OK.hd, Around.frames_deeper k.e0.frames, .inr ⟨rfl, OK.frame⟩, fun b hb => absurd (show b ∈ ([] : List Addr) from hb) (by simp),
      fun b o e => ?_, ?_, fun b o _ hb => absurd (show b ∈ ([] : List Addr) from hb) (by simp), fun b hb => absurd (show b ∈ ([] : List Addr) from hb) (by simp), cut_frames (k.frn OK) k.e0.funs, fun b hb => h0_none (k.e0.frf b hb)⟩,
      rfl, k.e0.bare, ⟨fun b o e _ _ _ => (cut_of e).2.2, fun b o e _ _ _ => ⟨o.slots, (cut_of e).2.2⟩, fun b o e n _ => ?_, fun b o e _ => ⟨o, (cut_of e).2.2⟩, fun b xs e => ?_, fun b o u e => ?_, fun b ps e => ?_⟩,
      k.pk.loc, fun x c e => absurd e (OK.cells x c), hgL, fun x c e => absurd e (OK.cells x c), fun p hp => absurd (show p ∈ ([] : List (Addr × Obj)) ++ [] from hp) (by simp), fun p o e => ?_, k.pk.lenN⟩
    · rcases hx with hx | hx
      · exact absurd hx (OK.nocell x).1
      · exact absurd hx (OK.nocell x).2
    · obtain ⟨h1, h2⟩ := k.bsn OK e
      obtain ⟨e1, e2⟩ := k.e0.bs b o e
      exact ⟨cut_to e1 h1 h2, h0_none e2⟩
    · show _ ≤ (cutH s.heap G.env.locals hs).objs.size
      rw [hsz]; exact OK.bl
    · obtain ⟨h1, h2, h3⟩ := cut_of e
      rw [hg_else (k.lk_none h2) fun x => absurd x.1 (Nat.not_lt.mpr (Nat.le_of_lt h1))]
      have n' : h0W G hs H b = none := n
      rw [h0_at h1 h2] at n'
      exact n'
    · obtain ⟨h1, h2, h3⟩ := h0_some e
      exact hg_some (k.lk_none h2) h3
    · obtain ⟨h1, h2, h3⟩ := h0_some e
      exact hg_some (k.lk_none h2) h3
    · obtain ⟨h1, h2, h3⟩ := h0_some e
      exact ⟨#[], by rw [hg_some (k.lk_none h2) h3]; simp⟩
    · cases hl : lk p with
      | some vs =>
        rw [hg_lk hl] at e; cases e
        obtain ⟨_, z, its, n, r, q⟩ := k.pk.lks p vs hl
        exact ⟨z, its, n, r, q⟩
      | none =>
        by_cases hx : Ext G s.heap lk H p
        · rw [hg_ext hx] at e; cases e
          exact ⟨fun _ q => q, hx.2.2.2, fun h1 h2 z q o hp => q o (z o hp)⟩
        · rw [hg_else hl hx] at e
          exact (k.e0.hok p o e).stay (fun b u _ q => q) (fun b q => hg_some (k.lk_of q).2 q) fun b xs q => hg_some (k.lk_of q).2 q
  · refine ⟨fun p o e => ?_, fun p o e => k.z_hg e, k.pk.len, fun i t e => ?_, k.pk.apart, fun j c e => ?_, k.sim.mlen, k.sim.nod⟩
    · rcases k.sim.le p o e with q | ⟨ob, kvs, e1, q⟩
      · exact .inl (hg_some (k.lk_of q).2 q)
      · exact .inr ⟨ob, kvs, e1, hg_some (k.lk_of q).2 q⟩
    · cases t with
      | fr d =>
        obtain ⟨v, e1, r⟩ := k.pk.fr i d e
        exact ⟨v, e1, r⟩
      | own o =>
        obtain ⟨p, ds, vs, rfl, e2, e3, r⟩ := k.pk.own i o e
        obtain ⟨f1, f2, f3, _⟩ := k.sim.notIn (k.hh p (k.pk.lks p vs e3).1)
        exact ⟨.ref p, e2, p, rfl, ⟨f1, zw_lk e3, f3⟩, vs, hg_lk e3, r⟩
    · obtain ⟨a, e1, e2, e3, r⟩ := k.sim.mem j c e
      obtain ⟨u, eu⟩ := r.some
      have hl := (k.lk_of eu).2
      have nx : ¬ Ext G s.heap lk H a := fun x => by rw [x.2.2.1] at eu; cases eu
      have nf : isFrz (H a) = false := by
        cases hf : isFrz (H a) with
        | false => rfl
        | true =>
          rw [eu] at hf
          cases u with
          | frz o v => exact absurd rfl ((own_kind r eu).2.1 o v)
          | _ => cases hf
      refine ⟨a, e1, e2, by rw [zw_known hl nx nf (.inl (List.mem_of_getElem? e1))]; exact e3, r.up (fun _ _ h => h) (fun _ _ h => h) ?_⟩
      rw [hg_some hl eu, eu]
end
structure Slt (G : GD) (Z F : Hp) (ρ : List Addr) (μ : Mem) (H : Hp) (hs : List Addr) (s : Shared) (F' : Hp) (ρ' : List Addr) (H2 : Hp) (s1 : Shared) : Prop where
  os : s1.os = s.os
  bare : AllBare s1.gens
  un : Un (frs G.l) (G.env.locals :: hs) H H2 s.heap s1.heap
  hok : HOk G.P G.w H2 s1.heap
  sim : Sim G.K G.mg Z F' ρ' μ [] [] H2
  le : Le Z F F'
  leR : LeR Z ρ ρ'
  hL : H2 G.env.locals = none
end FL
namespace FL
open PySem PySem.Spec PyProof.Rows L2
structure GB where
  pre : List Stmt
  test : Expr
  ba : List Stmt
  ye : Expr
  yp : Pos
  ypos : Pos
  bb : List Stmt
  wpos : Pos
def GB.turn (B : GB) : List Stmt := B.ba ++ .Expr (.Yield (some B.ye) B.yp) B.ypos :: B.bb
def GB.body (B : GB) : List Stmt := B.pre ++ [.While B.test B.turn [] B.wpos]
structure GM where
  pre : MS
  test : MT
  ba : MS
  ye : ME
  bb : MS
def GL (m : GM) : List D → Loc → Prop
  | [], δ => ∃ δ1, (∀ μ, m.test δ μ = .ok false δ1 μ) ∧ LsOnly δ1
  | d :: ds, δ => ∃ δ1 δ2 δ3 δ4, (∀ μ, m.test δ μ = .ok true δ1 μ) ∧ (∀ μ, m.ba δ1 μ = .nx δ2 μ) ∧ (∀ μ, m.ye δ2 μ = .ok (.fr d) δ3 μ) ∧ LsOnly δ3 ∧ (∀ μ, m.bb δ3 μ = .nx δ4 μ) ∧ GL m ds δ4
def GS0 (m : GM) (ds : List D) (δ : Loc) : Prop := ∃ δ1, (∀ μ, m.pre δ μ = .nx δ1 μ) ∧ GL m ds δ1
theorem GL.one {m : GM} : ∀ {ds es : List D} {δ : Loc}, GL m ds δ → GL m es δ → ds = es
  | [], [], _, _, _ => rfl
  | [], e :: es, δ, ⟨_, h, _⟩, ⟨_, _, _, _, k, _⟩ => by have := (h []).symm.trans (k []); cases this
  | d :: ds, [], δ, ⟨_, _, _, _, h, _⟩, ⟨_, k, _⟩ => by have := (h []).symm.trans (k []); cases this
  | d :: ds, e :: es, δ, ⟨a1, a2, a3, a4, h1, h2, h3, _, h4, h5⟩, ⟨b1, b2, b3, b4, k1, k2, k3, _, k4, k5⟩ => by
    have e1 := (h1 []).symm.trans (k1 []); cases e1
    have e2 := (h2 []).symm.trans (k2 []); cases e2
    have e3 := (h3 []).symm.trans (k3 []); cases e3
    have e4 := (h4 []).symm.trans (k4 []); cases e4
    rw [GL.one h5 k5]
theorem GS0.one {m : GM} {ds es : List D} {δ : Loc} (h : GS0 m ds δ) (k : GS0 m es δ) : ds = es := by
  obtain ⟨a, h1, h2⟩ := h
  obtain ⟨b, k1, k2⟩ := k
  have e := (h1 []).symm.trans (k1 []); cases e
  exact GL.one h2 k2
theorem Slp.trans {a b c : Array GenState} (h : Slp a b) (k : Slp b c) : Slp a c := fun i x l cd p fs cl e => k i x l cd p fs cl (h i x l cd p fs cl e)
def Fin0 (G : GD) (Z F : Hp) (ρ : List Addr) (μ : Mem) (H : Hp) (hs : List Addr) (s : Shared) (e : End) (s1 : Shared) : Prop :=
  (e = .ret (.ok (.ret .none)) ∨ e = .ret (.ok .next)) ∧ ∃ F' ρ' H2, Slt G Z F ρ μ H hs s F' ρ' H2 s1 ∧ Slp s.gens s1.gens
def FinN (G : GD) (Z F : Hp) (ρ : List Addr) (μ : Mem) (H : Hp) (hs : List Addr) (s : Shared) (d : D) (R : Sem PySem.Fin → Code → List Frame → Loc → Prop) (e : End) (s1 : Shared) : Prop :=
  ∃ v l k c p fs δ' x F' ρ' H2 σ' lk' hs', e = .susp v false l k c p fs ∧ e.quiet = true ∧ Slt G Z F ρ μ H hs s F' ρ' H2 s1 ∧ Slp s.gens s1.gens ∧ RelV x v ∧ Rep G.K G.mg F' ρ' x d ∧
    Pk G F' ρ' δ' σ' lk' hs' s1.heap ∧ (∀ p ∈ hs', H2 p = none ∧ (p ∈ hs ∨ s.heap.get? p = none)) ∧ R (k (.send .none)) c fs δ'
def Prom (G : GD) : List D → Sem PySem.Fin → Code → List Frame → Loc → Prop
  | [], t, c, fs, δ => ∀ Z F ρ μ H σ lk hs s, Wk G Z F ρ μ H δ σ lk hs s → Sg (model G.P G.w) G.A (Fin0 G Z F ρ μ H hs s) c t fs s
  | d :: ds, t, c, fs, δ => ∀ Z F ρ μ H σ lk hs s, Wk G Z F ρ μ H δ σ lk hs s → Sg (model G.P G.w) G.A (FinN G Z F ρ μ H hs s d (Prom G ds)) c t fs s
def Run (G : GD) (Z F : Hp) (ρ : List Addr) (μ : Mem) (H : Hp) (lk : Addr → Option (List V)) (hs : List Addr) (s : Shared) (δ : Loc) (σ : L2.St) (s1 : Shared) : Prop :=
  ∃ H1 F1 ρ1, Inv (G.X (sW G hs s) (h0W G hs H)) [] σ H1 s1 ∧ Sim G.K G.mg (zW G s.heap lk Z F H ρ) F1 ρ1 μ δ σ H1 ∧ Le (zW G s.heap lk Z F H ρ) F F1 ∧ LeR (zW G s.heap lk Z F H ρ) ρ ρ1 ∧ Slp s.gens s1.gens
section
variable {G : GD} {B : GB} {m : GM} {Z F H : Hp} {ρ : List Addr} {μ : Mem} {δ δ0 δ' : Loc} {σ σ0 : L2.St} {lk : Addr → Option (List V)} {hs : List Addr} {s s1 : Shared}
theorem Wk.run (OK : G.Ok) (k : Wk G Z F ρ μ H δ σ lk hs s) : Run G Z F ρ μ H lk hs s δ σ s := by
  obtain ⟨I, S⟩ := wake_in OK k
  exact ⟨_, F, ρ, I, S, .refl, .refl, fun _ _ _ _ _ _ _ e => e⟩
end
end FL
namespace FL
open PySem PySem.Spec PyProof.Rows L2
def FpY (B : Cx) (pins : List (Addr × Obj)) (H : Hp) (b : Addr) : Prop :=
  H b = none ∧ b ≠ B.env.locals ∧ b ∉ B.fs ∧ (b ∈ B.ex ∨ B.s_0.heap.get? b = none) ∧ (∀ x c, B.env.cells.lookup x = some c → c ≠ b) ∧ ∀ p ∈ B.pn ++ pins, p.1 ≠ b
theorem FpY.of {B : Cx} {pins : List (Addr × Obj)} {H : Hp} {b : Addr} (h : FpOk B pins H b) : FpY B pins H b := by
  obtain ⟨h0, h1, h2, h3, h4, h5⟩ := h
  exact ⟨h0, h1, h2, h3.imp id fun z => Heap.get?_none_of_le z, h4, h5⟩
def PromS (G : GD) (ds : List D) (δ : Loc) : GenState → Prop
  | .fresh c => Prom G ds ((model G.P G.w).den c) c [] δ
  | .suspended k _ c _ fs _ => Prom G ds (k (.send .none)) c fs δ
  | _ => False
def isSus : GenState → Bool
  | .suspended _ _ _ _ _ _ => true
  | _ => false
structure Asl (G : GD) (a : Addr) (g : Nat) (ds : List D) (b : Bool) (F : Hp) (ρ : List Addr) (hs : List Addr) (s : Shared) : Prop where
  isg : s.heap.IsGen a g
  ne : a ∉ G.env.locals :: hs
  ex : ∃ gs δ σ lk, s.gens[g]? = some gs ∧ Pk G F ρ δ σ lk hs s.heap ∧ PromS G ds δ gs ∧ (b = true → isSus gs = true)
end FL
namespace FL
open PySem PySem.Spec PyProof.Rows L2
section
variable {B : Cx} {pins : List (Addr × Obj)} {σ : L2.St} {H : Hp} {s : Shared} {E : Value → Shared → Prop}
theorem Asl.obj {G : GD} {a : Addr} {g : Nat} {ds : List D} {b : Bool} {F : Hp} {ρ : List Addr} {hs : List Addr} (x : Asl G a g ds b F ρ hs s) : ∀ p ∈ a :: G.env.locals :: hs, ∃ o, s.heap.get? p = some o ∧ ∀ v, o.data ≠ .cell v := by
  obtain ⟨o, nm, qn, ho, hc, hd, _⟩ := x.isg
  obtain ⟨gs, δ, σ, lk, _, pk, _⟩ := x.ex
  intro p hp
  rcases List.mem_cons.mp hp with z | hp
  · rw [z]
    exact ⟨o, ho, fun v q => by rw [hd] at q; cases q⟩
  · rcases List.mem_cons.mp hp with z | hp
    · rw [z]
      obtain ⟨m, ⟨o, es, ep, ho, hd, _⟩, _⟩ := pk.loc
      exact ⟨o, ho, fun v q => by rw [hd] at q; cases q⟩
    · obtain ⟨_, _, _, vs, hv⟩ := pk.hsk p hp
      obtain ⟨_, _, its, n, _, e⟩ := pk.lks p vs hv
      exact ⟨_, e, fun v q => by cases q⟩
end
end FL
namespace FL
open PySem PySem.Spec PyProof.Rows L2
theorem KV.get_no {K : PySem.W.Frag} {mg : Str → Option Value} {F : Hp} {ρ : List Addr} {k : DK} : ∀ {kvs : List (Key × V)} {kds : List (DK × D)}, KV K mg F ρ kvs kds → getA kds k = none → valV kvs k.key = none
  | _, _, .nil, e => rfl
  | _, _, @KV.cons _ _ _ _ k1 v1 d1 kvs kds h t, e => by
    unfold getA at e
    rw [List.find?_cons] at e
    unfold valV
    rw [List.find?_cons]
    simp only [key_dec]
    by_cases z : k1 = k
    · rw [decide_eq_true z] at e
      cases e
    · rw [decide_eq_false z] at e ⊢
      exact KV.get_no t e
theorem KV.len {K : PySem.W.Frag} {mg : Str → Option Value} {F : Hp} {ρ : List Addr} : ∀ {kvs : List (Key × V)} {kds : List (DK × D)}, KV K mg F ρ kvs kds → kvs.length = kds.length
  | _, _, .nil => rfl
  | _, _, .cons h t => by rw [List.length_cons, List.length_cons, KV.len t]
def dctOf : D → Option (List DK × List D)
  | .dct ks ds => some (ks, ds)
  | .fx .df ks ds => some (ks, ds)
  | _ => none
theorem bor_dct {K : PySem.W.Frag} {mg : Str → Option Value} {Z F H : Hp} {ρ : List Addr} {μ : Mem} {δ : Loc} {σ : L2.St} {v : V} {d : D} {ks : List DK} {ds : List D} (S : Sim K mg Z F ρ μ δ σ H) (b : Bor K mg F ρ H v d) (h : dctOf d = some (ks, ds)) :
    ∃ p vs, v = .ref p ∧ Rd H p (.dK ((ks.map DK.key).zip vs)) ∧ ks.length = vs.length ∧ RepL K mg F ρ vs ds := by
  cases d <;> first | (cases h; done) | skip
  · rename_i m ks' ds'
    cases m <;> first | (cases h; done) | skip
    cases h
    obtain ⟨p, o, vs, e, _, q, l, r⟩ := b.dcf S
    exact ⟨p, vs, e, .inr ⟨o, q⟩, l, r⟩
  · cases h
    exact b.dct S
def isDct (d : D) : Bool := (dctOf d).isSome
def gGet1 (d y : D) : Option Slot := (dctOf d).bind fun p => (dkey y).map fun k => .fr ((getA (p.1.zip p.2) k).getD .non)
def mGet1 (oo ob : Opn) : ME := fun δ μ => (oo.ev δ μ).bind fun ra δ1 μ1 => match ra.at δ1 μ1 with
  | some d0 => if isDct d0 = true then (ob.ev δ1 μ1).bind fun rb δ2 μ2 => match ra.at δ2 μ2, rb.at δ2 μ2 with
    | some da, some db => lift (gGet1 da db) δ2 μ2
    | _, _ => .bad
    else .bad
  | none => .bad
section
variable {X : Cx} {W : WX} {o e f : Expr} {pos apos cpos : Pos} {oo ob : Opn} {m : ME} {k : Nat} {N : List Str} {sc : Scope}
theorem is_dct {Z F H : Hp} {ρ : List Addr} {μ : Mem} {δ : Loc} {σ : L2.St} {v : V} {d : D} (S : Sim X.K X.mg Z F ρ μ δ σ H) (b : Bor X.K X.mg F ρ H v d) (h : isDct d = true) : ∃ a, v = .ref a ∧ IsD H a := by
  obtain ⟨⟨ks, ds⟩, e⟩ := Option.isSome_iff_exists.mp h
  obtain ⟨p, vs, rfl, hr, hl, r⟩ := bor_dct S b e
  exact ⟨p, rfl, .inl ⟨_, hr⟩⟩
theorem dget_of {Z F H : Hp} {ρ : List Addr} {μ : Mem} {δ : Loc} {σ : L2.St} {x y : V} {dy : D} {dx : D} {ks : List DK} {ds : List D} {k : DK} (S : Sim X.K X.mg Z F ρ μ δ σ H) (bx : Bor X.K X.mg F ρ H x dx) (ed : dctOf dx = some (ks, ds)) (bY : Bor X.K X.mg F ρ H y dy) (ek : dkey dy = some k) :
    ∃ a r, x = .ref a ∧ DGet H a y r ∧ ((∃ v d, r = some v ∧ getA (ks.zip ds) k = some d ∧ Rep X.K X.mg F ρ v d) ∨ (r = none ∧ getA (ks.zip ds) k = none)) := by
  obtain ⟨p, vs, rfl, hr, hl, r⟩ := bor_dct S bx ed
  cases g : getA (ks.zip ds) k with
  | some d =>
    obtain ⟨v, ev, rv⟩ := (KV.of hl r).get g
    exact ⟨p, some v, rfl, .inl ⟨_, k.key, hr, key_of bY ek, ev.symm⟩, .inl ⟨v, d, rfl, rfl, rv⟩⟩
  | none => exact ⟨p, none, rfl, .inl ⟨_, k.key, hr, key_of bY ek, ((KV.of hl r).get_no g).symm⟩, .inr ⟨rfl, rfl⟩⟩
theorem je_get1 (hu : X.A.units + 1 < cLine) (ho : JO X W o oo) (he : JO X W e ob) (mm : M1 X o "get" apos e cpos) : JE X W (.Call (.Attribute o "get" apos) [e] [] cpos) (mGet1 oo ob) := by
  refine (pe_dget1 hu ho he mm).imp fun σ H Q ⟨Z, F, ρ, μ, δ, S, q⟩ => ⟨Z, F, ρ, μ, δ, S, (FinE.bind q).imp fun ra δ1 μ1 H1 F1 ρ1 l lr S1 ⟨_, _, _, p⟩ x hx => ?_⟩
  cases e0 : ra.at δ1 μ1 with
  | none => simp only [e0] at p; exact p.elim
  | some d0 =>
    simp only [e0] at p
    by_cases hd : isDct d0 = true
    · rw [if_pos hd] at p
      obtain ⟨a, rfl, isd⟩ := is_dct S1 (hx.bor S1 e0) hd
      refine ⟨a, rfl, isd, Z, F1, ρ1, μ1, δ1, S1, p.bind.imp fun rb δ2 μ2 H2 F2 ρ2 l2 lr2 S2 ⟨_, _, _, p2⟩ y hy => ?_⟩
      cases e1 : ra.at δ2 μ2 with
      | none => simp only [e1] at p2; exact p2.elim
      | some da =>
        cases e2 : rb.at δ2 μ2 with
        | none => simp only [e1, e2] at p2; exact p2.elim
        | some db =>
          simp only [e1, e2] at p2
          unfold lift at p2
          cases eg : gGet1 da db with
          | none => simp only [eg] at p2; exact p2.elim
          | some s =>
            simp only [eg] at p2
            unfold gGet1 at eg
            obtain ⟨⟨ks, ds⟩, ed, eg⟩ := Option.bind_eq_some_iff.mp eg
            obtain ⟨kk, ek, rfl⟩ := Option.map_eq_some_iff.mp eg
            obtain ⟨a', r, ea, g, hr⟩ := dget_of S2 ((hx.up l2 lr2).bor S2 e1) ed (hy.bor S2 e2) ek
            cases ea
            refine ⟨r, g, ?_⟩
            rcases hr with ⟨v, d, rfl, eg2, rv⟩ | ⟨rfl, eg2⟩
            · rw [eg2] at p2
              exact p2 H2 F2 ρ2 .refl .refl S2 v ⟨rv, fun o p z => by cases z⟩
            · rw [eg2] at p2
              exact p2 H2 F2 ρ2 .refl .refl S2 .non ⟨.non, fun o p z => by cases z⟩
    · rw [if_neg hd] at p; exact p.elim
def gLenD1 (d : D) : Option Slot := (dctOf d).map fun p => .fr (.int (p.1.zip p.2).length)
def gLenD : List D → Option Slot := fun ds => match ds with
  | [d] => gLenD1 d
  | _ => none
theorem cr_lenD : CallR X (.builtin "len") (fun xs H Q => ∃ a kvs, xs = [V.ref a] ∧ Rd H a (.dK kvs) ∧ Q (.int kvs.length) H) := by
  intro pins s σ H xs us Q I r h
  obtain ⟨a, kvs, rfl, ha, q⟩ := h
  obtain ⟨u, rfl, ru⟩ := vals1 r
  cases ru
  exact d_len I ha fun t s' I' => ⟨.int kvs.length, H, I', ⟨t, rfl⟩, q⟩
theorem j_lenD : RLJ X (fun xs H Q => ∃ a kvs, xs = [V.ref a] ∧ Rd H a (.dK kvs) ∧ Q (.int kvs.length) H) gLenD := by
  intro Z F ρ μ δ σ H xs ds s Q S bs e q
  unfold gLenD at e
  split at e
  · obtain ⟨v, rfl, hb⟩ := bs.one
    rename_i d
    obtain ⟨⟨ks, ds'⟩, ed, rfl⟩ := Option.map_eq_some_iff.mp e
    obtain ⟨p, vs, rfl, hr, hl, r⟩ := bor_dct S hb ed
    refine ⟨p, _, rfl, hr, q _ H F .refl S ⟨?_, fun o p z => by cases z⟩⟩
    have hl2 := RepL.len r
    have : ((ks.map DK.key).zip vs).length = (ks.zip ds').length := by simp [List.length_zip, hl, hl2]
    rw [this]
    exact .int
  · cases e
end
end FL
namespace FL
open PySem PySem.Spec PyProof.Rows L2
section
variable {X : Cx} {W : WX} {es : List Expr} {pos : Pos} {t : TA}
def pairL : List D → Option (DK × D)
  | [k, v] => (dkey k).map fun kk => (kk, v)
  | _ => none
def pairD : D → Option (DK × D)
  | .tup l => pairL l
  | _ => none
def pairsD : List D → Option (List (DK × D))
  | [] => some []
  | x :: xs => (pairD x).bind fun p => (pairsD xs).map fun r => p :: r
def mergeA (kds more : List (DK × D)) : List (DK × D) := more.foldl (fun acc p => putA acc p.1 p.2) kds
theorem KV.mergeA {K : PySem.W.Frag} {mg : Str → Option Value} {F : Hp} {ρ : List Addr} : ∀ {mk : List (Key × V)} {md : List (DK × D)} {kvs : List (Key × V)} {kds : List (DK × D)}, KV K mg F ρ mk md → KV K mg F ρ kvs kds → KV K mg F ρ (mergeK kvs mk) (FL.mergeA kds md)
  | _, _, _, _, .nil, h => h
  | _, _, kvs0, kds0, @KV.cons _ _ _ _ k1 v1 d1 _ _ r t, h => KV.mergeA (kvs := putK kvs0 k1.key v1) (kds := putA kds0 k1 d1) t (h.put r)
theorem pair_of {Z F H : Hp} {ρ : List Addr} {μ : Mem} {δ : Loc} {σ : L2.St} (S : Sim X.K X.mg Z F ρ μ δ σ H) {v : V} {d : D} {kk : DK} {x : D} (h : Rep X.K X.mg F ρ v d) (e : pairD d = some (kk, x)) :
    ∃ p y, v = V.ref p ∧ SqT X.K H p [kV kk.key, y] ∧ Rep X.K X.mg F ρ y x := by
  cases d <;> first | (cases e; done) | skip
  rename_i l
  have ep : pairL l = some (kk, x) := e
  obtain ⟨p, vs', rfl, hq, rl⟩ := (Bor.fr (H := H) h).tup S
  cases rl with
  | nil => cases ep
  | cons r1 t1 =>
    cases t1 with
    | nil => cases ep
    | cons r2 t2 =>
      cases t2 with
      | nil =>
        obtain ⟨k2, ek, e2⟩ := Option.map_eq_some_iff.mp ep
        injection e2 with e3 e4
        subst e3 e4
        have e5 := key_rep r1 ek
        subst e5
        exact ⟨p, _, rfl, hq, r2⟩
      | cons r3 t3 => cases ep
theorem paired_of {Z F H : Hp} {ρ : List Addr} {μ : Mem} {δ : Loc} {σ : L2.St} (S : Sim X.K X.mg Z F ρ μ δ σ H) : ∀ {ds : List D} {vs : List V} {kds : List (DK × D)}, RepL X.K X.mg F ρ vs ds → pairsD ds = some kds → ∃ (ps : List Addr) (kvs : List (Key × V)), vs = ps.map V.ref ∧ Paired (fun p kv => SqT X.K H p [kV kv.1, kv.2]) ps kvs ∧ KV X.K X.mg F ρ kvs kds := by
  intro ds
  induction ds with
  | nil =>
    intro vs kds r e
    cases r
    cases e
    exact ⟨[], [], rfl, .nil, .nil⟩
  | cons d ds ih =>
    intro vs kds r e
    cases r with
    | cons h t =>
      unfold pairsD at e
      obtain ⟨⟨kk, x⟩, ep, e⟩ := Option.bind_eq_some_iff.mp e
      obtain ⟨r, er, rfl⟩ := Option.map_eq_some_iff.mp e
      obtain ⟨ps, kvs, rfl, hp, kv⟩ := ih t er
      obtain ⟨p, y, rfl, hq, r2⟩ := pair_of S h ep
      exact ⟨p :: ps, (kk.key, y) :: kvs, rfl, .cons hq hp, .cons r2 kv⟩
theorem vr_newD {Z F : Hp} {ρ : List Addr} {μ : Mem} {δ : Loc} {σ : L2.St} {H : Hp} {p : Addr} {kvs : List (Key × V)} {kds : List (DK × D)} (S : Sim X.K X.mg Z F ρ μ δ σ H) (hp : H p = none) (r : KV X.K X.mg F ρ kvs kds) :
    Sim X.K X.mg Z F ρ μ δ σ (upd H p (.dK kvs)) ∧ VR X.K X.mg Z F ρ δ σ (upd H p (.dK kvs)) (.ref p) (.own (dctO kds)) := by
  obtain ⟨n1, n2, n3, n4⟩ := S.notIn hp
  exact ⟨S.laid hp, ⟨p, rfl, ⟨n1, n2, n3⟩, kv_own r upd_same⟩, fun o p z z2 => by cases z2; exact n4⟩
end
end FL
namespace FL
open PySem PySem.Spec PyProof.Rows L2 PySem.SeqAt
section
variable {M : Model} {P : Program} {w : World} {A : Around} {E : Value → Shared → Prop} {s : Shared} {K : PySem.W.Frag} {x y C : Addr} {ox oy : Obj} {od oe : Option Obj}
theorem same_refs {R : Bool → Shared → Prop} (hx : s.heap.get? x = some ox) (hy : s.heap.get? y = some oy) (hc : ox.cls = .ref C) (h : R (decide (x = y)) s) : wpAny M A (isSame (.ref x) (.ref y)) R E s := by
  by_cases e : x = y
  · subst e
    rw [decide_eq_true rfl] at h
    exact wpAny_isSame_ref_self h
  · rw [decide_eq_false e] at h
    have e' : ¬ ((x == y) = true) := by simpa using e
    unfold isSame
    simp only [if_neg e']
    refine wpAny_bind (wpAny_load hx (wpAny_bind (wpAny_load hy ?_)))
    simp only [hc]
    exact wpAny_pure h
theorem entry_id {Q : PySem.Fin → Shared → Prop} (hx : s.heap.get? x = some ox) (hy : s.heap.get? y = some oy) (hc : ox.cls = .ref C) (hq : Q (.done (.ret (if x = y then .bool true else .notImplemented))) s) :
    wpAny M A (Builtin.«object.__eq__» ⟨[.ref x, .ref y], []⟩) Q E s := by
  (unfold Builtin.«object.__eq__»; show wpAny M A (isSame (.ref x) (.ref y) >>= _) Q E s)
  refine wpAny_bind (same_refs hx hy hc ?_)
  by_cases e : x = y
  · rw [if_pos e] at hq
    rw [decide_eq_true e]
    exact wpAny_pure hq
  · rw [if_neg e] at hq
    rw [decide_eq_false e]
    exact wpAny_pure hq
theorem try_id (X : K.In s.heap) (I : PySem.W.InstAt s.heap x ox C od) (hy : s.heap.get? y = some oy) (hx : s.heap.get? x = some ox) (hc : ox.cls = .ref C) (hm : PySem.W.mroIn K C (.type "object") = some true) (hs : PySem.W.findIn K (.ref C) "__eq__" = some (some (.builtin "object.__eq__"))) :
    wpAny (model P w) A (tryCompare (.ref x) "__eq__" (.ref y)) (fun r s' => r = (if x = y then some (.bool true) else none) ∧ s' = s) E s := by
  unfold tryCompare
  refine wpAny_bind (HN.ifBound_objEq X I hs (wpAny_call (codeAny_call_builtin F.cmp_object.eq.plain F.cmpEntry_eq (PySem.W.check_slot F.cmpKind_eq F.cmpSplit_eq (I.type.andThen (PySem.W.looks_mroIn X hm)) (F.cmpArgs_eq _ _) (entry_id hx hy hc ?_)))))
  by_cases e : x = y
  · rw [if_pos e, if_pos e]
    exact wpAny_pure ⟨rfl, rfl⟩
  · rw [if_neg e, if_neg e]
    exact wpAny_pure ⟨rfl, rfl⟩
theorem rc_id (hu : A.units < cLine) (X : K.In s.heap) (I : PySem.W.InstAt s.heap x ox C od) (J : PySem.W.InstAt s.heap y oy C oe) (hx : s.heap.get? x = some ox) (hy : s.heap.get? y = some oy) (hc : ox.cls = .ref C) (hc2 : oy.cls = .ref C) (hm : PySem.W.mroIn K C (.type "object") = some true) (hs : PySem.W.findIn K (.ref C) "__eq__" = some (some (.builtin "object.__eq__"))) :
    RcAt A s (.ref x) (.ref y) (decide (x = y)) := fun P w E Q h => by
  have one := try_id (P := P) (w := w) (A := A) (E := E) X I hy hx hc hm hs
  have two := try_id (P := P) (w := w) (A := A) (E := E) X J hx hy hc2 hm hs
  simp only [richCompare, cmpInfo_Eq, oneThing_ref]
  refine wpAny_holding (wpAny_bind (wpAny_cRoomFor hu (wpAny_bind (I.type.here (wpAny_bind (J.type.here ?_))))))
  rw [if_neg (by simp)]
  refine wpAny_bind (wpAny_pure ?_)
  simp only [Bool.false_eq_true, if_false, Bool.not_false, if_true]
  refine wpAny_bind (m := tryCompare (.ref x) _ (.ref y)) (wpAny_mono one (fun r s1 z => ?_) fun _ _ e => e)
  obtain ⟨rfl, rfl⟩ := z
  by_cases e : x = y
  · rw [decide_eq_true e] at h
    rw [if_pos e]
    exact wpAny_pure h
  · rw [decide_eq_false e] at h
    rw [if_neg e]
    refine wpAny_bind (m := tryCompare (.ref y) _ (.ref x)) (wpAny_mono two (fun r s2 z => ?_) fun _ _ e => e)
    obtain ⟨rfl, rfl⟩ := z
    rw [if_neg (Ne.symm e)]
    refine wpAny_bind (wpAny_rule (wpAny_bind (same_refs hx hy hc (wpAny_pure ?_))))
    rw [decide_eq_false e]
    exact h
theorem rc_non (hu : A.units < cLine) (X : K.In s.heap) (I : PySem.W.InstAt s.heap x ox C od) (hm : PySem.W.mroIn K C (.type "object") = some true) (hs : PySem.W.findIn K (.ref C) "__eq__" = some (some (.builtin "object.__eq__"))) (hn : PySem.W.subIn K (.ref C) (.type "NoneType") = some false) :
    RcAt A s .none (.ref x) false := fun P w E Q h => by
  have one : wpAny (model P w) A (tryCompare (.ref x) "__eq__" .none) (fun r s' => r = none ∧ s' = s) E s := by
    unfold tryCompare
    exact wpAny_bind (HN.ifBound_objEq X I hs (HN.call_objEq X I hm (wpAny_pure ⟨rfl, rfl⟩)))
  have two : wpAny (model P w) A (tryCompare .none "__eq__" (.ref x)) (fun r s' => r = none ∧ s' = s) E s :=
    wpAny_tryCompare_declines (show s.TypeIs .none "NoneType" from rfl) F.slot_NoneType_eq (call_gives F.slot_NoneType_eq rfl F.entry_NoneType_eq (F.args_NoneType_eq_2 _ _) (NoneType___eq___none_ref_0 x) ⟨rfl, rfl, rfl⟩)
  simp only [richCompare, cmpInfo_Eq]
  rw [show oneThing? .Eq .none (.ref x) = none from rfl]
  refine wpAny_holding (wpAny_bind (wpAny_cRoomFor hu (wpAny_bind (wpAny_typeOf (show s.TypeIs .none "NoneType" from rfl) (wpAny_bind (I.type.here ?_))))))
  rw [if_pos (by simp)]
  refine wpAny_bind ((PySem.W.looks_subIn X hn).here ?_)
  simp only [Bool.false_eq_true, if_false, Bool.not_false, if_true]
  refine wpAny_bind (m := tryCompare .none _ (.ref x)) (wpAny_mono two (fun r s1 z => ?_) fun _ _ e => e)
  obtain ⟨rfl, rfl⟩ := z
  refine wpAny_bind (m := tryCompare (.ref x) _ .none) (wpAny_mono one (fun r s2 z => ?_) fun _ _ e => e)
  obtain ⟨rfl, rfl⟩ := z
  exact wpAny_bind (wpAny_rule (wpAny_bind (wpAny_of_eq (rfl : isSame .none (.ref x) = pure false) (wpAny_pure h))))
end
structure IdC (K : PySem.W.Frag) (C : Addr) : Prop where
  ob : PySem.W.mroIn K C (.type "object") = some true
  eq : PySem.W.findIn K (.ref C) "__eq__" = some (some (.builtin "object.__eq__"))
  nn : PySem.W.subIn K (.ref C) (.type "NoneType") = some false
def IdCs (K : PySem.W.Frag) (mg : Str → Option Value) (cs : List String) : Prop := ∀ c ∈ cs, ∀ C, mg (Str.ofString c) = some (.ref C) → IdC K C
def rIdE (X : Cx) : R2 := fun x y H Q => ∃ q C dy gs, y = .ref q ∧ H q = some (.ins C dy gs) ∧ IdC X.K C ∧ ((x = .non ∧ Q (.bl false) H) ∨ ∃ p dx fs, x = .ref p ∧ H p = some (.ins C dx fs) ∧ Q (.bl (decide (p = q))) H)
section
variable {X : Cx} {W : WX} {a b : Expr} {pos : Pos} {ma mb : ME} {k : Nat} {N : List Str} {sc : Scope}
theorem op_idE (hu : X.A.units < cLine) : OpR X (compareOp .Eq) (rIdE X) := by
  intro pins s σ H x y v u Q I rx ry h
  obtain ⟨q, C, dy, gs, rfl, hq, c, h⟩ := h
  cases ry
  obtain ⟨mq, O, _⟩ := ins_get I.hok hq
  obtain ⟨oq, J, _⟩ := O.look
  obtain ⟨_, _, _, gq, _⟩ := I.hok q _ hq
  show wpAny (model X.prog X.w) X.A (richCompare .Eq v (.ref q)) (EP X pins σ Q) X.xe s
  rcases h with ⟨rfl, h⟩ | ⟨p, dx, fs, rfl, hp, h⟩
  · cases rx
    exact rc_non hu I.kIn J c.ob c.eq c.nn X.prog X.w X.xe _ ⟨.bl false, H, I, rfl, h⟩
  · cases rx
    obtain ⟨mp, O', _⟩ := ins_get I.hok hp
    obtain ⟨op, J', _⟩ := O'.look
    obtain ⟨_, _, _, gp, _⟩ := I.hok p _ hp
    exact rc_id hu I.kIn J' J gp gq rfl rfl c.ob c.eq X.prog X.w X.xe _ ⟨.bl _, H, I, rfl, h⟩
def clsM (μ : Mem) (k : Nat) : Option String := match μ[k]? with
  | some (.ins c _ _ _) => some c
  | _ => none
def idD (cs : List String) (μ : Mem) : D → D → Option Bool
  | .non, .obj j => (clsM μ j).bind fun c => if c ∈ cs then some false else none
  | .obj i, .obj j => (clsM μ i).bind fun c => (clsM μ j).bind fun c' => if c = c' ∧ c ∈ cs then some (decide (i = j)) else none
  | _, _ => none
def mEqI (cs : List String) (ma mb : ME) : ME := fun δ μ => (ma δ μ).bind fun sa δ1 μ1 => (mb δ1 μ1).bind fun sb δ2 μ2 => match idD cs μ2 sa.d sb.d with
  | some r => .ok (.fr (.bl r)) δ2 μ2
  | none => .bad
theorem clsM_at {Z F H : Hp} {ρ : List Addr} {μ : Mem} {δ : Loc} {σ : L2.St} {v : V} {i : Nat} {c : String} (S : Sim X.K X.mg Z F ρ μ δ σ H) (h : Rep X.K X.mg F ρ v (.obj i)) (e : clsM μ i = some c) :
    ∃ p C dx fs, v = .ref p ∧ ρ[i]? = some p ∧ X.mg (Str.ofString c) = some (.ref C) ∧ H p = some (.ins C dx fs) := by
  unfold clsM at e
  cases e1 : μ[i]? with
  | none => rw [e1] at e; cases e
  | some o =>
    rw [e1] at e
    cases o with
    | ins c' kd ks ds =>
      cases e
      obtain ⟨p, C, dx, vs, rfl, hm, hH, _, _⟩ := ins_at (d := .obj i) (c := c) (ks := ks) (ds := ds) S h (by simp only [insOf, e1])
      cases h with
      | obj hr => exact ⟨p, C, dx, _, rfl, hr, hm, hH⟩
    | _ => cases e
theorem idE_read {cs : List String} (CC : IdCs X.K X.mg cs) : ∀ σ H Q, rdE X W (mEqI cs ma mb) σ H Q →
    tOp (rIdE X) (fun σ H Q => ∃ Z F ρ μ δ, Sim X.K X.mg Z F ρ μ δ σ H ∧ FinE X W Z F ρ σ (fun s δ' μ' F' ρ' H' => ∀ v, Rep X.K X.mg F' ρ' v s.d → Q v H') (ma δ μ))
      (fun σ H Q => ∃ Z F ρ μ δ, Sim X.K X.mg Z F ρ μ δ σ H ∧ FinE X W Z F ρ σ (fun s δ' μ' F' ρ' H' => ∀ v, Rep X.K X.mg F' ρ' v s.d → Q v H') (mb δ μ)) σ H Q := by
  intro σ H Q ⟨Z, F, ρ, μ, δ, S, q⟩
  refine ⟨Z, F, ρ, μ, δ, S, (FinE.bind q).imp fun sa δ1 μ1 H1 F1 ρ1 l1 lr1 S1 ⟨_, _, _, q1⟩ x hx => ?_⟩
  refine ⟨Z, F1, ρ1, μ1, δ1, S1, (FinE.bind q1).imp fun sb δ2 μ2 H2 F2 ρ2 l2 lr2 S2 ⟨_, _, _, z⟩ y hy => ?_⟩
  have hx2 := hx.up l2.to lr2.to
  generalize sa.d = da at hx2 z
  generalize sb.d = db at hy z
  cases ei : idD cs μ2 da db with
  | none => simp only [ei] at z; exact z.elim
  | some r =>
    simp only [ei] at z
    have fin : ∀ r', r' = r → Q (.bl r') H2 := fun r' e => by
      subst e
      exact z H2 F2 ρ2 .refl .refl S2 _ (VR.fr' .bl)
    cases db <;> first | (cases da <;> (cases ei; done)) | skip
    rename_i j
    cases da <;> first | (cases ei; done) | skip
    · obtain ⟨c, e1, e2⟩ := Option.bind_eq_some_iff.mp (show (clsM μ2 j).bind _ = some r from ei)
      by_cases hc : c ∈ cs
      · rw [if_pos hc] at e2
        obtain ⟨p, C, dx, fs, rfl, _, hm, hH⟩ := clsM_at S2 hy e1
        cases hx2
        exact ⟨p, C, dx, fs, rfl, hH, CC c hc C hm, .inl ⟨rfl, fin _ (Option.some.inj e2)⟩⟩
      · rw [if_neg hc] at e2; cases e2
    · rename_i i
      obtain ⟨c, e1, e2⟩ := Option.bind_eq_some_iff.mp (show (clsM μ2 i).bind _ = some r from ei)
      obtain ⟨c', e3, e4⟩ := Option.bind_eq_some_iff.mp e2
      by_cases hc : c = c' ∧ c ∈ cs
      · rw [if_pos hc] at e4
        obtain ⟨rfl, hc⟩ := hc
        obtain ⟨q, C, dy, gs, rfl, hrq, hm, hH⟩ := clsM_at S2 hy e3
        obtain ⟨p, C', dx, fs, rfl, hrp, hm', hH'⟩ := clsM_at S2 hx2 e1
        rw [hm] at hm'
        cases hm'
        refine ⟨q, C, dy, gs, rfl, hH, CC c hc C hm, .inr ⟨p, dx, fs, rfl, hH', fin _ ?_⟩⟩
        rw [← Option.some.inj e4, decide_eq_decide]
        constructor
        · intro e
          subst e
          exact (List.getElem?_inj (List.getElem?_eq_some_iff.mp hrp).1 S2.nod).mp (hrp.trans hrq.symm)
        · intro e
          subst e
          rw [hrp] at hrq
          exact Option.some.inj hrq
      · rw [if_neg hc] at e4; cases e4
end
end FL
namespace FL
open PySem PySem.Spec PyProof.Rows L2
section
variable {X : Cx} {W : WX} {k : Nat} {N : List Str} {sc : Scope} {e : Expr} {os : List Opn} {pos p pos' p' : Pos}
def rLenS (P : Program) (w : World) : List V → Hp → VK → Prop := fun xs H Q => ∃ (a : Addr) (l : List Str), xs = [V.ref a] ∧ H a = some (SetSO P w a l) ∧ Q (.int l.length) H
theorem cr_lenS : CallR X (.builtin "len") (rLenS X.prog X.w) := by
  intro pins s σ H xs us Q I r h
  obtain ⟨a, l, rfl, ha, q⟩ := h
  have R : TxSet X.prog X.w s.heap a l := (I.hok a _ ha).1
  obtain ⟨D, g, ok, _⟩ := R.ob
  have few := R.few
  rw [Vals.ref1 r]
  refine call_len_set g ⟨rfl, rfl, rfl⟩ rfl ok.fit (by rw [ok.sz]; unfold scanBound at few; omega) ?_
  rw [ok.sz]
  exact ⟨.int l.length, H, I.tok _, ⟨_, rfl⟩, q⟩
def gLenS1 : D → Option Slot
  | .lst ys => if ys.all isTx = true ∧ ys.length < 4000 then some (.fr (.int ((ys.map txOf).foldl insT []).length)) else none
  | _ => none
def gLenS : List D → Option Slot := fun ds => match ds with
  | [d] => gLenS1 d
  | _ => none
def rLS (X : Cx) : List V → Hp → VK → Prop := fun xs H Q => rSetS X.K X.prog X.w xs H fun v H1 => rLenS X.prog X.w [v] H1 Q
theorem j_ls : RLJ X (rLS X) gLenS := by
  intro Z F ρ μ δ σ H xs ds s Q S bs e q
  unfold gLenS at e
  split at e
  · rename_i d
    obtain ⟨v, rfl, bv⟩ := bs.one
    cases d <;> first | (cases e; done) | skip
    rename_i ys
    have e : (if ys.all isTx = true ∧ ys.length < 4000 then some (Slot.fr (.int ((ys.map txOf).foldl insT []).length)) else none) = some s := e
    by_cases hc : ys.all isTx = true ∧ ys.length < 4000
    · rw [if_pos hc] at e
      cases e
      obtain ⟨a, vs, rfl, hH, rl⟩ := bv.lst S
      have hy := tx_map hc.1
      rw [hy] at rl
      have hv := rep_strs rl
      subst hv
      refine ⟨a, (ys.map txOf).map toS, rfl, .of hH, by rw [List.length_map, List.length_map]; unfold scanBound; omega, fun b hb => ⟨b, _, rfl, upd_same, ?_⟩⟩
      have e2 : (((ys.map txOf).map toS).foldl insS []).length = ((ys.map txOf).foldl insT []).length := by
        rw [show ([] : List Str) = ([] : List Tx).map toS from rfl, fold_toS, List.length_map]
      rw [e2]
      exact q _ _ F .refl (S.laid hb) ⟨.int, fun o p z => by cases z⟩
    · rw [if_neg hc] at e; cases e
  · cases e
theorem Cs.lenSet (C : Cs X W k N sc) (h1 : glC sc "len" = true) (m1 : X.mg "len" = none) (h2 : glC sc "set" = true) (m2 : X.mg "set" = none) (ha : JOs X W [e] os)
    (he : starEach [e] X.env = (false, eval e X.env) :: starEach [] X.env := by rfl)
    (he2 : starEach [.Call (.Name "set" p') [e] [] pos'] X.env = (false, eval (.Call (.Name "set" p') [e] [] pos') X.env) :: starEach [] X.env := by rfl) :
    JE X W (.Call (.Name "len" p) [.Call (.Name "set" p') [e] [] pos'] [] pos) (mC gLenS os) :=
  (pe_callB cr_lenS (C.gl h1).1 m1 PySem.boot_len (pa_cons (pe_callTy (cr_setS C.calm) (C.gl h2).1 m2 rfl ha (by decide) (by decide) he rfl) pa_nil he2) (by decide) (by decide) he2 rfl).imp (mC_read j_ls)
end
end FL
namespace FL
open PySem PySem.Spec PyProof.Rows L2
section
variable {X : Cx} {W : WX} {e : Expr} {m : ME}
def mFrz (m : ME) : ME := fun δ μ => (m δ μ).bind fun s δ1 μ1 => match s with
  | .own (.dct ks ds) => if ks.length = ds.length then .ok (.fr (.dcf ks ds)) δ1 μ1 else .bad
  | _ => .bad
theorem je_frz (h : JE X W e m) : JE X W e (mFrz m) := by
  refine (pe_lockD h).imp fun σ H Q ⟨Z, F, ρ, μ, δ, S, q⟩ => ⟨Z, F, ρ, μ, δ, S, (FinE.bind q).imp fun s δ1 μ1 H1 F1 ρ1 l lr S1 ⟨_, _, _, p⟩ v vr => ?_⟩
  cases s with
  | fr d => exact p.elim
  | own o =>
    cases o with
    | dct ks ds =>
      have p : FinE X W Z F1 ρ1 σ _ (if ks.length = ds.length then _ else _) := p
      by_cases hl : ks.length = ds.length
      · rw [if_pos hl] at p
        obtain ⟨⟨a, rfl, fr, ow⟩, no⟩ := vr
        obtain ⟨vs, hH, hn, rl⟩ := ow
        refine ⟨a, _, rfl, hH, fun ob H2 h2 hk => ?_⟩
        have no' := no (.dct ks ds) a rfl rfl
        have S2 : Sim X.K X.mg Z F1 ρ1 μ1 δ1 σ H2 := S1.heap hk fr.f fr.z fr.r no'
        obtain ⟨l3, S3⟩ := S2.freeze h2 fr no'
        exact p H2 _ ρ1 l3 .refl S3 _ ⟨.dcf upd_same hn (rl.up l3.to fun _ _ h => h), fun o p z => by cases z⟩
      · rw [if_neg hl] at p; exact p.elim
    | _ => exact p.elim
def mItemsF (m : ME) : MM (List D) := fun δ μ => (m δ μ).bind fun s δ1 μ1 => match s.d with
  | .fx .df ks ds => .ok (itemsD (ks.zip ds)) δ1 μ1
  | _ => .bad
theorem ji_itemsF {elts : List Expr} {kk : Nat} {tpos apos cpos : Pos} (he : JE X W e m) (hbase : attributeBase e "items" X.env (eval e X.env) = eval e X.env := by rfl) (hline : (apos.endLine == cpos.line) = true := by rfl) :
    JI X W (.Tuple elts kk tpos) (.Call (.Attribute e "items" apos) [] [] cpos) (mItemsF m) := by
  refine (pi_items he.locked hbase hline).imp fun σ H R ⟨Z, F, ρ, μ, δ, S, q⟩ => ⟨Z, F, ρ, μ, δ, S, (FinE.bind q).imp fun s δ1 μ1 H1 F1 ρ1 l lr S1 ⟨_, _, _, p⟩ v r => ?_⟩
  generalize s.d = d at p r
  cases d <;> first | exact p.elim | skip
  rename_i mm ks ds
  cases mm <;> first | exact p.elim | skip
  obtain ⟨a, o, vs, rfl, hF, hH, hl, rl⟩ := (Bor.fr (H := H1) r).dcf S1
  exact ⟨a, o, _, rfl, hH, p H1 F1 ρ1 .refl .refl S1 _ (itr_items hF (KV.of hl rl))⟩
end
end FL
namespace FL
open PySem PySem.Spec PyProof.Rows L2
section
variable {X : Cx} {W : WX} {k : Nat} {N : List Str} {sc : Scope} {a b o e f : Expr} {oa ob oo oe of : Opn} {m : ME} {pos apos cpos p : Pos}
theorem Cs.eqIT {cs : List String} {ma mb : ME} (C : Cs X W k N sc) (CC : IdCs X.K X.mg cs) (ha : JE X W a ma) (hb : JE X W b mb) : JT X W (.Compare a [.Eq] [b] pos) (mTb (mEqI cs ma mb)) :=
  (pt_cmpR (op_idE (by have := C.hu; omega)) ha.locked hb.locked (nomark b)).imp (mTb_read (idE_read CC))
theorem Cs.get1 (C : Cs X W k N sc) (ho : JO X W o oo) (he : JO X W e oe) (h1 : attributeBase o "get" X.env (eval o X.env) = eval o X.env := by rfl)
    (h2 : ((backTo cpos (starEach [e] X.env)).all (fun x => !x.1) && (backToKw cpos (keywordEach [] X.env)).all (fun x => x.1.isSome) && decide (([e] : List Expr).length + ([] : List Keyword).length + (if ([] : List Keyword).isEmpty then 0 else 1) < 30)) = true := by rfl)
    (h3 : (apos.endLine == cpos.line) = true := by rfl) (h4 : backTo cpos (starEach [e] X.env) = [(false, eval e X.env)] := by rfl) : JE X W (.Call (.Attribute o "get" apos) [e] [] cpos) (mGet1 oo oe) :=
  je_get1 (by have := C.hu; omega) ho he ⟨h1, h2, h3, h4⟩
end
end FL
namespace FL
open PySem PySem.Spec PyProof.Rows L2
theorem idc_of {K : PySem.W.Frag} {h : Heap} {mg : Str → Option Value} {cs : List String} (X : K.In h) (G : h.Ns mainGlobals mg) (t : tIdc cs K = true) : IdCs K mg cs := by
  intro c hc C hC
  obtain ⟨t1, t⟩ := Bool.and_eq_true_iff.mp (List.all_eq_true.mp t c hc)
  obtain ⟨t2, t⟩ := Bool.and_eq_true_iff.mp t
  obtain ⟨t3, t4⟩ := Bool.and_eq_true_iff.mp t
  rw [He.glo_ok X G t1] at hC
  cases hC
  exact ⟨of_decide_eq_true t2, of_decide_eq_true t3, of_decide_eq_true t4⟩
end FL
namespace FL
open PySem L2
section
variable {α β : Type} {δ : FL.Loc} {μ : Mem} {o : Opn} {os : List Opn} {m : ME} {ms mks : List ME} {f c : String} {at_ : String → String → Att} {d : D} {ds vs dds : List D} {k : Nat} {ks : List String}
@[simp] theorem ec_sf1 : (OR.d d).self δ = some d := rfl
@[simp] theorem ec_sf2 {j : Nat} : (OR.i j).self δ = (match δ[j]? with | some (some (.fr x)) => some x | _ => none) := rfl
@[simp] theorem ec_in1 : insOf μ (.ins c ks vs) = some (c, ks, vs) := rfl
@[simp] theorem ec_in2 : insOf μ (.obj k) = (match μ[k]? with | some (.ins c _ ks vs) => some (c, ks, vs) | _ => none) := rfl
@[simp] theorem ec_in3 {i : Int} : insOf μ (.int i) = none := rfl
@[simp] theorem ec_in4 {x : Tx} : insOf μ (.str x) = none := rfl
@[simp] theorem ec_in5 {b : Bool} : insOf μ (.bl b) = none := rfl
@[simp] theorem ec_in6 : insOf μ .non = none := rfl
@[simp] theorem ec_in7 {xs : List D} : insOf μ (.lst xs) = none := rfl
@[simp] theorem ec_in8 {xs : List D} : insOf μ (.tup xs) = none := rfl
@[simp] theorem ec_infx {b : FxM} {ks : List DK} {xs : List D} : insOf μ (.fx b ks xs) = none := rfl
@[simp] theorem ec_in9 {xs : List DK} : insOf μ (.dct xs ds) = none := rfl
@[simp] theorem ec_g0 : getF [] ds f = none := by cases ds <;> rfl
@[simp] theorem ec_g1 {q : String} : getF (q :: ks) (d :: ds) f = if q = f then some d else getF ks ds f := rfl
@[simp] theorem ec_pk0 : putNm [] f = [f] := rfl
@[simp] theorem ec_pk1 {q : String} : putNm (q :: ks) f = if q = f then q :: ks else q :: putNm ks f := rfl
@[simp] theorem ec_pv0 : putVs [] ds f d = [d] := by cases ds <;> rfl
@[simp] theorem ec_pv1 {q : String} {e : D} : putVs (q :: ks) (d :: ds) f e = if q = f then e :: ds else d :: putVs ks ds f e := rfl
@[simp] theorem ec_if1 : Att.fld.isF = true := rfl
@[simp] theorem ec_if2 : (Att.con d).isF = false := rfl
@[simp] theorem ec_At : mAt at_ f o δ μ = (o.ev δ μ).bind fun r δ1 μ1 => match (r.self δ1).bind (insOf μ1) with
  | some (c, ks, ds) => (match at_ c f with
    | .fld => lift ((getF ks ds f).map .fr) δ1 μ1
    | .con d => if getF ks ds f = none then .ok (.fr d) δ1 μ1 else .bad
    | .no => .bad)
  | none => .bad := rfl
@[simp] theorem ec_StF : mStF at_ f o m δ μ = (m δ μ).thn fun s δ1 μ1 => (o.ev δ1 μ1).thn fun r δ2 μ2 => match r.self δ2 with
  | some (.obj k) => (match μ2[k]? with
    | some (.ins c kd ks vs) => if (at_ c f).isF = true ∧ ks.length < 1000 then .nx δ2 (μ2.set k (.ins c kd (putNm ks f) (putVs ks vs f s.d))) else .bad
    | _ => .bad)
  | _ => .bad := rfl
@[simp] theorem ec_Super {mi : MF} : mSuper c mi ms δ μ = (match δ[0]? with
  | some (some (FL.Slot.fr d)) => (match insOf μ d with
    | some (c', _, _) => if c' = c then (evA ms δ μ).thn fun ds δ1 μ1 => (match mi (d :: ds) μ1 with
      | .ok _ μ2 => .nx δ1 μ2
      | .exc x μ2 => .exc x δ1 μ2
      | .bad => .bad) else .bad
    | none => .bad)
  | _ => .bad) := rfl
@[simp] theorem ec_CallK {mf : MF} {sel : List Sel} : mCallK mf sel ms mks dds δ μ = (evA ms δ μ).bind fun ds δ1 μ1 => (evA mks δ1 μ1).bind fun zs δ2 μ2 => match mf (pickS sel ds dds zs) μ2 with
  | .ok s μ3 => .ok s δ2 μ3
  | .exc x μ3 => .exc x δ2 μ3
  | .bad => .bad := rfl
@[simp] theorem ec_Prop {pt : String → String → Option MF} : mProp pt f o δ μ = (o.ev δ μ).bind fun r δ1 μ1 => match r.self δ1 with
  | some d => (match insOf μ1 d with
    | some (c, _, _) => (match pt c f with
      | some m => (match m [d] μ1 with
        | .ok s μ2 => .ok s δ1 μ2
        | _ => .bad)
      | none => .bad)
    | none => .bad)
  | none => .bad := rfl
end
end FL
namespace FL
open PySem L2
def Lay (d : Nat) (x : D) : Prop := ∃ q, D.py x = some q ∧ PyData.canLay0 q = true ∧ q.depth ≤ d
theorem Lay.mono {d e : Nat} {x : D} (h : Lay d x) (h1 : d ≤ e) : Lay e x := let ⟨q, a, b, c⟩ := h; ⟨q, a, b, Nat.le_trans c h1⟩
theorem Lay.int {i : Int} : Lay 0 (.int i) := ⟨.int i, rfl, by simp [PyData.canLay0], by simp [PyData.depth]⟩
theorem Lay.bl {b : Bool} : Lay 0 (.bl b) := ⟨.bool b, rfl, by simp [PyData.canLay0], by simp [PyData.depth]⟩
theorem Lay.non : Lay 0 .non := ⟨.none, rfl, by simp [PyData.canLay0], by simp [PyData.depth]⟩
theorem Lay.str {x : Tx} (h : ∀ c ∈ x, c < 128) : Lay 0 (.str x) := ⟨.str (toS x), rfl, by simp only [PyData.canLay0]; exact strOk_ascii h, by simp [PyData.depth]⟩
theorem Lay.all {d : Nat} : ∀ {xs : List D}, (∀ x ∈ xs, Lay d x) → ∃ qs, D.pys xs = some qs ∧ PyData.canLayAll0 qs = true ∧ PyData.depthAll qs ≤ d
  | [], _ => ⟨[], by simp [D.pys, PyData.canLayAll0, PyData.depthAll]⟩
  | x :: xs, h => by
    obtain ⟨q, a1, l1, g1⟩ := h x (List.mem_cons_self ..)
    obtain ⟨qs, a2, l2, g2⟩ := Lay.all (xs := xs) fun y hy => h y (List.mem_cons_of_mem _ hy)
    exact ⟨q :: qs, by simp [D.pys, a1, a2], by simp [PyData.canLayAll0, l1, l2], by simp only [PyData.depthAll]; omega⟩
theorem Lay.tup {d : Nat} {xs : List D} (h : ∀ x ∈ xs, Lay d x) : Lay (d + 1) (.tup xs) := by
  obtain ⟨qs, a, l, g⟩ := Lay.all h
  exact ⟨.tuple qs, by simp [D.py, a], by simpa [PyData.canLay0] using l, by simp only [PyData.depth]; omega⟩
theorem Lay.lst {d : Nat} {xs : List D} (h : ∀ x ∈ xs, Lay d x) : Lay (d + 1) (.lst xs) := by
  obtain ⟨qs, a, l, g⟩ := Lay.all h
  exact ⟨.list qs, by simp [D.py, a], by simpa [PyData.canLay0] using l, by simp only [PyData.depth]; omega⟩
theorem Lay.same {d : Nat} {x : D} (neg : Bool) (h : Lay d x) (h1 : d ≤ 64) (h2 : eqS x x = none) : gEq neg x x = some (tb (true != neg)) := by
  obtain ⟨q, a, l, g⟩ := h
  have s : SeqAt.shaped q = true := by
    unfold SeqAt.shaped
    rw [l, decide_eq_true (show q.depth ≤ 64 by omega)]
    rfl
  simp [gEq, h2, eqP, a, s, SeqAt.eqv_refl q l]
theorem ne_of {μ : Mem} {i j : Nat} {a b : Own} (h1 : μ[i]? = some a) (h2 : μ[j]? = some b) (h : a ≠ b) : i ≠ j := fun e => by
  subst e
  rw [h1] at h2
  cases h2
  exact h rfl
structure Agr (A : List Nat) (μ μ' : Mem) : Prop where
  len : μ.length ≤ μ'.length
  at_ : ∀ i o, μ[i]? = some o → i ∉ A → μ'[i]? = some o
theorem Agr.refl {A : List Nat} {μ : Mem} : Agr A μ μ := ⟨Nat.le_refl _, fun _ _ h _ => h⟩
theorem Agr.trans {A B : List Nat} {μ μ1 μ2 : Mem} (a : Agr A μ μ1) (b : Agr B μ1 μ2) : Agr (A ++ B) μ μ2 :=
  ⟨Nat.le_trans a.len b.len, fun i o h n => b.at_ i o (a.at_ i o h fun z => n (List.mem_append_left _ z)) fun z => n (List.mem_append_right _ z)⟩
theorem Agr.set {μ : Mem} {i : Nat} {o : Own} : Agr [i] μ (μ.set i o) := ⟨by simp, fun j u h n => by
  rw [List.getElem?_set_ne (fun z => n (by simp [z]))]; exact h⟩
theorem Agr.app {μ ν : Mem} : Agr [] μ (μ ++ ν) := ⟨by simp, fun j u h _ => by
  rw [List.getElem?_append_left (List.getElem?_eq_some_iff.mp h).1]; exact h⟩
theorem Agr.fr {μ μ' : Mem} {j : Nat} (h : Fr j μ μ') : Agr [j] μ μ' := ⟨Nat.le_of_eq h.1.symm, fun i o e n => by
  rw [h.2 i (fun z => n (by simp [z]))]; exact e⟩
theorem Src.agr {A : List Nat} {μ μ' : Mem} {j : Nat} {B : Int} (h : Src μ j B) (a : Agr A μ μ') (n : j ∉ A) : Src μ' j B := by
  obtain ⟨c, i, g, h1, h2⟩ := h
  exact ⟨c, i, g, a.at_ _ _ h1 n, h2⟩
theorem Src.cell {μ : Mem} {j : Nat} {B : Int} (h : Src μ j B) : ∃ xs, μ[j]? = some (.lst xs) := let ⟨_, _, _, h1, _⟩ := h; ⟨_, h1⟩
theorem cells_rangeN {ns : List Int} {δ : FL.Loc} {μ : Mem} {f : TgF} {m : MS} {P : FL.Loc → Mem → Prop} {N : Int} (hN : 1 ≤ N) (hN2 : N ≤ 1000) (h0 : δ[0]? = some (some (.fr (.ro (ns.map .int)))))
    (h : ∀ K : Int, 1 ≤ K → K ≤ N → Nx (forD (turnD f m) (rangeD 0 K.toNat) δ μ) P) : Nx (mFor (mRange1 (.e (mC gMax2 [(.e (mD (.int 1))), (.e (mC gMin2 [(.e (mD (.int N))), (.e (mC gLen [(.v 0)]))]))]))) f m δ μ) P := by
  have hb : 1 ≤ (if 1 < (if (ns.length : Int) < N then (ns.length : Int) else N) then (if (ns.length : Int) < N then (ns.length : Int) else N) else 1) ∧ (if 1 < (if (ns.length : Int) < N then (ns.length : Int) else N) then (if (ns.length : Int) < N then (ns.length : Int) else N) else 1) ≤ N := by
    by_cases h4 : (ns.length : Int) < N
    · rw [if_pos h4]; split <;> omega
    · rw [if_neg h4]; split <;> omega
  have e : ∀ n : Int, mC gMin2 [(.e (mD (.int N))), (.e (mC gLen [(.v 0)]))] δ μ = .ok (.fr (.int (if (ns.length : Int) < N then (ns.length : Int) else N))) δ μ := fun n => by
    simp only [ev_C, ev_evs1, ev_evs0, ev_e, ev_D, ev_b1, ev_v, h0, ev_ats1, ev_ats0, ev_at2, ev_at1, ev_dfr, ev_lk8, ev_lk2, ev_lenR, List.length_map, ev_lift1, ev_min2]
  have e := e 0
  generalize (if (ns.length : Int) < N then (ns.length : Int) else N) = L at e hb
  have e2 : mC gMax2 [(.e (mD (.int 1))), (.e (mC gMin2 [(.e (mD (.int N))), (.e (mC gLen [(.v 0)]))]))] δ μ = .ok (.fr (.int (if 1 < L then L else 1))) δ μ := by
    rw [ev_C, ev_evs1, ev_e, ev_D, ev_b1, ev_b1, ev_evs1, ev_e, e]
    rfl
  generalize (if 1 < L then L else 1) = K at e2 hb
  have := h K hb.1 hb.2
  have e3 : mRange1 (.e (mC gMax2 [(.e (mD (.int 1))), (.e (mC gMin2 [(.e (mD (.int N))), (.e (mC gLen [(.v 0)]))]))])) δ μ = .ok (rangeD 0 K.toNat) δ μ := by
    rw [ev_R1, ev_evs1, ev_e, e2]
    exact r1K_ok (by omega) (by omega)
  rw [ev_For, e3, ev_t1]
  exact this
end FL
namespace FL
open PySem PySem.Spec PyProof.Rows L2
section
variable {prog : Program} {w : World} {A : Around} {E : Value → Shared → Prop} {s : Shared} {K : PySem.W.Frag} {x C f : Addr} {ox : Obj} {od : Option Obj} {name : Str} {v : Value}
theorem spec_at (X : K.In s.heap) (I : PySem.W.InstAt s.heap x ox C od) (hs : PySem.W.findIn K (.ref C) name = some (some (.ref f))) {Q : Option Value → Shared → Prop} (h : Q (some (.ref f)) s) : wpAny (model prog w) A (specialOf (.ref x) name) Q E s := by
  unfold specialOf
  exact wpAny_bind (I.type.here ((PySem.W.looks_findIn X hs).here h))
theorem spec_call (X : K.In s.heap) (I : PySem.W.InstAt s.heap x ox C od) (hs : PySem.W.findIn K (.ref C) name = some (some (.ref f))) (hf : PySem.W.isFn K (.ref f) = true) {args : List Value} {Q : Option Value → Shared → Prop}
    (h : wpAny (model prog w) A (call (.ref f) (.ref x :: args)) (fun v s' => Q (some v) s') E s) : wpAny (model prog w) A (callSpecial? (.ref x) name args) Q E s := by
  unfold callSpecial?
  refine wpAny_bind (spec_at X I hs ?_)
  refine wpAny_holding ?_
  refine wpAny_bind ((PySem.W.bind_fn X _ (beq_iff_eq.mp hf)).here ?_)
  exact wpAny_bind (wpAny_mono h (fun v s' h' => wpAny_pure h') fun _ _ z => z)
end
def mLenO (mt : String → String → Nat → Option MF) (m : ME) : ME := fun δ μ => (m δ μ).bind fun s δ1 μ1 => match insOf μ1 s.d with
  | some (c, _, _) => (match mt c "__len__" 0 with
    | some m => (match m [s.d] μ1 with
      | .ok (.fr (.int i)) μ2 => if 0 ≤ i ∧ i < 2 ^ 62 then .ok (.fr (.int i)) δ1 μ2 else .bad
      | _ => .bad)
    | none => .bad)
  | none => .bad
def rLenO (X : Cx) (j : Nat) : List V → Hp → VK → Prop := fun xs H Q => ∃ a C dx fs g fd ps ds dvs m N, xs = [V.ref a] ∧ H a = some (.ins C dx fs) ∧ Meth X.K C "__len__" g ∧ FnG X.prog X.w X.K X.mg X.base (L2.CX X.prog X.w) j g fd ps (spM X.K X.mg m N) ∧ Binds X.K fd ps ds ∧ Vals dvs ds ∧
  spM X.K X.mg m N ([V.ref a] ++ dvs) H (fun v H' => ∃ i : Int, v = .int i ∧ 0 ≤ i ∧ i < 2 ^ 62 ∧ Q (.int i) H') noX
section
variable {X : Cx} {W : WX} {k j : Nat} {N : List Str} {sc : Scope} {a b e : Expr} {es : List Expr} {pos p : Pos} {ma mb : ME} {mt : String → String → Nat → Option MF}
theorem cr_lenO (hr : RmG (j + 2) X.A) : CallR X (.builtin "len") (rLenO X j) := by
  intro pins s σ H xs us Q I r h
  obtain ⟨p, C, dx, fs, g, fd, ps, ds, dvs, m, N, rfl, hH, hm, G, hb, hd, q⟩ := h
  obtain ⟨u, rfl, ru⟩ := vals1 r
  cases (show u = Value.ref p from ru)
  obtain ⟨mA, O, _⟩ := ins_get I.hok hH
  obtain ⟨od, J, _⟩ := O.look
  refine PySem.Calls.call_function_entry PySem.kind_len PySem.plain_len PySem.entry_len (PySem.args_len1 _) ?_
  unfold PySem.Builtin.«len»
  refine wpAny_bind (m := oneArg "len" _) (wpAny_pure ?_)
  refine wpAny_bind (m := callSpecial? (.ref p) (Str.ofString "__len__")) (spec_call I.kIn J hm.at_ hm.fn ?_)
  have len : ([V.ref p] ++ dvs).length = ps.length := G.len _ _ _ _ q
  have rv : Vals ([V.ref p] ++ dvs) ([Value.ref p] ++ ds) := Vals.append (.cons rfl .nil) hd
  have bb := hb s [.ref p] I.kIn (by rw [← rv.length]; exact len)
  refine wpAny_call (codeAny_mono (G.run X.A.in1 X.stack s H ⟨[.ref p], []⟩ _ _ _ noX ((hr.mono (show j + 1 ≤ j + 2 by omega)).in1) I.env0.in1 bb rv q) fun res t ht => ?_)
  match res, ht with
  | .error er, ⟨_, _, _, _, _, _, _, _, _, _, _, _, z⟩ => exact z.elim
  | .ok (.ret w), ht =>
    obtain ⟨z', H', I', rz, i, ez, i0, i1, qz⟩ := I.after ht
    subst ez
    obtain ⟨tk, rfl⟩ := (show ∃ t, w = Value.int i t from rz)
    refine wpAny_bind (wpAny_holding (wpAny_pure ?_))
    refine wpAny_bind (wpAny_letGo ?_)
    show wpAny _ _ (if i < 0 then _ else _) _ _ _
    rw [if_neg (by omega)]
    show wpAny _ _ (if i ≥ 2 ^ 63 then _ else _) _ _ _
    rw [if_neg (by omega)]
    exact wpAny_bind (wpAny_mkInt (wpAny_pure ⟨_, rfl, .int i, H', I'.tok _, ⟨_, rfl⟩, qz⟩))
theorem lenO_read {m : ME} (P : MethsOk X j mt) : ∀ σ H Q, rdE X W (mLenO mt m) σ H Q → ∃ Z F ρ μ δ, Sim X.K X.mg Z F ρ μ δ σ H ∧
    FinE X W Z F ρ σ (fun ds _ _ F' ρ' H' => ∀ vs, RepL X.K X.mg F' ρ' vs ds → rLenO X j vs H' Q) (evA [m] δ μ) := by
  intro σ H Q ⟨Z, F, ρ, μ, δ, S, q⟩
  refine ⟨Z, F, ρ, μ, δ, S, ?_⟩
  have q' := FinE.bind q
  show FinE X W Z F ρ σ _ ((m δ μ).bind fun s δ1 μ1 => (evA [] δ1 μ1).bind fun ds δ2 μ2 => .ok (s.d :: ds) δ2 μ2)
  cases em : m δ μ with
  | bad => rw [em] at q'; exact q'
  | exc x δ1 μ1 => rw [em] at q'; exact q'
  | ok s δ1 μ1 =>
    rw [em] at q'
    intro H1 F1 ρ1 l1 lr1 S1 vs hv
    obtain ⟨_, _, _, z⟩ := q' H1 F1 ρ1 l1 lr1 S1
    cases hv with
    | cons hy t =>
    cases t
    cases e1 : insOf μ1 s.d with
    | none => simp only [e1] at z; exact z.elim
    | some t =>
      obtain ⟨c, ks, ds⟩ := t
      simp only [e1] at z
      cases e2 : mt c "__len__" 0 with
      | none => simp only [e2] at z; exact z.elim
      | some mf =>
        simp only [e2] at z
        obtain ⟨p, C, dx, vs, rfl, hm, hH, n, rl⟩ := ins_at S1 hy e1
        obtain ⟨cl, g, fd, ps, dsv, dvs, dds, m', N, hme, G, hb, hd, hdd, hN, hmm⟩ := P c "__len__" 0 mf e2 C hm
        have hp := (RepL.cons hy .nil).app (hdd F1 ρ1)
        refine ⟨p, C, dx, _, g, fd, ps, dsv, dvs, m', N, rfl, hH, hme, G, hb, hd, ?_⟩
        refine ⟨by rw [hp.len, List.length_append]; exact (by simpa using hN), zone Z H1 δ1 σ, F1, ρ1, μ1, [s.d] ++ dds, S1.enter, hp, ?_⟩
        rw [← hmm]
        generalize mf [s.d] μ1 = o at z
        cases o with
        | bad => exact z.elim
        | exc x μ3 => exact z.elim
        | ok s μ3 =>
          cases s with
          | own o => exact z.elim
          | fr d =>
            cases d with
            | int i =>
              intro v H' F' ρ' l lr S' rv
              cases rv
              by_cases hi : 0 ≤ i ∧ i < 2 ^ 62
              · simp only [if_pos hi] at z
                exact ⟨i, rfl, hi.1, hi.2, z H' F' ρ' (S1.leLeave l) (S1.leRLeave lr) (S1.leave S' l lr) _ (VR.fr' .int)⟩
              · simp only [if_neg hi] at z
                exact z.elim
            | _ => exact z.elim
theorem Cs.lenO {m : ME} (C : Cs X W k N sc) (h : glC sc "len" = true) (hm : X.mg "len" = none) (P : MethsOk X j mt) (hjk : j + 2 ≤ k) (he : JE X W e m)
    (hs : starEach (e :: []) X.env = (false, eval e X.env) :: starEach [] X.env := by rfl) (hpl : (backTo pos (starEach [] X.env)).any (·.1) = false := by rfl) : JE X W (.Call (.Name "len" p) [e] [] pos) (mLenO mt m) :=
  let ⟨g1, g2, g3⟩ := C.gl h
  (pe_callB (cr_lenO (C.rm.mono hjk)) g1 hm PySem.boot_len (ja_cons he ja_nil hs) g3 g2 hs hpl).imp (lenO_read P)
end
end FL
namespace FL
open PySem PySem.Spec PyProof.Rows L2
def ordT (xs : List Tx) : List Tx := xs.mergeSort fun a b => decide (¬ b < a)
theorem ordT_perm (xs : List Tx) : (ordT xs).Perm xs := List.mergeSort_perm _ _
theorem ordT_le (xs : List Tx) : (ordT xs).Pairwise fun a b => ¬ b < a := by
  have := List.pairwise_mergeSort (le := fun a b : Tx => decide (¬ b < a)) (fun a b c h1 h2 => by
    have h1 := of_decide_eq_true h1
    have h2 := of_decide_eq_true h2
    exact decide_eq_true (List.not_lt.mpr (List.le_trans (List.not_lt.mp h1) (List.not_lt.mp h2)))) (fun a b => by
    by_cases h : b < a
    · simp [h, List.not_lt.mpr (List.le_of_lt h)]
    · simp [h]) xs
  exact this.imp fun {a b} h => of_decide_eq_true h
theorem ordT_uniq {xs ys : List Tx} (hp : ys.Perm xs) (h : ys.Pairwise fun a b => ¬ b < a) : ys = ordT xs :=
  (hp.trans (ordT_perm xs).symm).eq_of_pairwise (le := fun a b => ¬ b < a) (fun a b _ _ h1 h2 => List.le_antisymm (List.not_lt.mp h1) (List.not_lt.mp h2)) h (ordT_le xs)
theorem ltCps_lt : ∀ a b : List Nat, ltCps a b = decide (a < b)
  | [], [] => by simp [ltCps]
  | [], b :: bs => by simp [ltCps]
  | a :: as, [] => by simp [ltCps]
  | a :: as, b :: bs => by
    unfold ltCps
    have ih := ltCps_lt as bs
    by_cases h1 : a < b
    · simp [h1, List.cons_lt_cons_iff]
    · by_cases h2 : a = b
      · subst h2
        simp [ih, List.cons_lt_cons_iff]
      · simp [h1, h2, List.cons_lt_cons_iff]
theorem pair_of_sorted : ∀ (l : List Tx), sortedS (l.map toS) = true → l.Pairwise fun a b => ¬ b < a := by
  have step : ∀ (l : List Tx) (p : Tx), risingS (toS p) (l.map toS) = true → (p :: l).Pairwise fun a b => ¬ b < a := by
    intro l
    induction l with
    | nil => intro p _; exact List.pairwise_singleton ..
    | cons x r ih =>
      intro p h
      have h : (!ltCps x p && risingS (toS x) (r.map toS)) = true := h
      rw [Bool.and_eq_true, ltCps_lt] at h
      have h1 : ¬ x < p := by simpa using h.1
      have h2 := ih x h.2
      refine List.pairwise_cons.mpr ⟨fun y hy => ?_, h2⟩
      rcases List.mem_cons.mp hy with rfl | hy
      · exact h1
      · have h3 := (List.pairwise_cons.mp h2).1 y hy
        exact List.not_lt.mpr (List.le_trans (List.not_lt.mp h1) (List.not_lt.mp h3))
  intro l h
  cases l with
  | nil => exact .nil
  | cons x r => exact step r x h
def isKs : DK → Bool
  | .s _ => true
  | _ => false
def ksOf : DK → Tx
  | .s x => x
  | _ => []
theorem ks_map : ∀ {ks : List DK}, ks.all isKs = true → ks = (ks.map ksOf).map .s
  | [], _ => rfl
  | k :: ks, h => by
    rw [List.all_cons, Bool.and_eq_true] at h
    cases k <;> first | (exact absurd h.1 Bool.false_ne_true) | skip
    rw [List.map_cons, List.map_cons, ← ks_map h.2]
    rfl
def gSortK1 (d : D) : Option Slot := (dctOf d).bind fun p => if p.1.all isKs = true ∧ p.1.length < 64 then some (.own (.lst ((ordT (p.1.map ksOf)).map .str))) else none
def gSortK : List D → Option Slot
  | [d] => gSortK1 d
  | _ => none
def rSortK : List V → Hp → VK → Prop := fun xs H Q => ∃ (a : Addr) (kvs : List (Key × V)) (ks : List Str), xs = [.ref a] ∧ Rd H a (.dK kvs) ∧ kvs.map (·.1) = ks.map Sum.inr ∧ ks.length < 64 ∧
    ∀ ys p, ys.Perm ks → sortedS ys = true → H p = none → Q (.ref p) (upd H p (.lst (ys.map V.str)))
section
variable {X : Cx} {W : WX} {k : Nat} {N : List Str} {sc : Scope} {a b e : Expr} {pos p : Pos} {oa ob oo : Opn} {m : ME}
theorem cr_sortK (hc : X.calm = true) : CallR X (.builtin "sorted") rSortK := call_sortedD hc
theorem j_sortK : RLJ X rSortK gSortK := by
  intro Z F ρ μ δ σ H xs ds s Q S bs e q
  unfold gSortK at e
  split at e
  · rename_i d
    obtain ⟨⟨ks, vs⟩, ed, e⟩ := Option.bind_eq_some_iff.mp e
    dsimp only at e
    by_cases hc : ks.all isKs = true ∧ ks.length < 64
    · rw [if_pos hc] at e
      cases e
      obtain ⟨v, rfl, hb⟩ := bs.one
      obtain ⟨a, ws, rfl, hr, hl, r⟩ := bor_dct S hb ed
      have hk := ks_map hc.1
      refine ⟨a, _, (ks.map ksOf).map toS, rfl, hr, ?_, by simp; exact hc.2, fun ys p pm so free => ?_⟩
      · rw [List.map_fst_zip (by simp [hl])]
        conv => lhs; rw [hk]
        simp [List.map_map, Function.comp_def, DK.key]
      · obtain ⟨zt, p1, p2⟩ := perm_back pm
        subst p2
        have ez := ordT_uniq p1 (pair_of_sorted zt so)
        subst ez
        obtain ⟨S2, vr⟩ := vr_newL S free (RepL.ofStrs (K := X.K) (mg := X.mg) (F := F) (ρ := ρ) (ordT (ks.map ksOf)))
        exact q _ _ F .refl S2 vr
    · rw [if_neg hc] at e; cases e
  · cases e
def gDictP : List D → Option Slot
  | [.lst xs] => (pairsD xs).map fun kds => .own (dctO (FL.mergeA [] kds))
  | _ => none
def rDictP (X : Cx) : List V → Hp → VK → Prop := fun xs H Q => ∃ (a : Addr) (ps : List Addr) (kvs : List (Key × V)), xs = [.ref a] ∧ SqL X.K H a (ps.map V.ref) ∧ Paired (fun p kv => SqT X.K H p [kV kv.1, kv.2]) ps kvs ∧
    ∀ p, H p = none → Q (.ref p) (upd H p (.dK (mergeK [] kvs)))
theorem cr_dictP (hc : X.calm = true) : CallR X (.type "dict") (rDictP X) := call_dictP hc
theorem j_dictP : RLJ X (rDictP X) gDictP := by
  intro Z F ρ μ δ σ H xs ds s Q S b e q
  unfold gDictP at e
  split at e
  · rename_i row
    obtain ⟨v, rfl, hb⟩ := b.one
    obtain ⟨kds, e1, rfl⟩ := Option.map_eq_some_iff.mp e
    obtain ⟨p, vs, rfl, hq, r⟩ := hb.lst S
    obtain ⟨ps, kvs, rfl, hp, kv⟩ := paired_of S r e1
    refine ⟨p, ps, kvs, rfl, .of hq, hp, fun l hl => ?_⟩
    obtain ⟨S', vr⟩ := vr_newD S hl (KV.mergeA kv .nil)
    exact q _ _ F .refl S' vr
  · cases e
end
end FL
namespace FL
open PySem PySem.Spec PyProof.Rows L2
section
variable {X : Cx} {W : WX} {k : Nat} {N : List Str} {sc : Scope} {a b e o i st : Expr} {pos p p2 apos cpos : Pos} {oa ob oo oi : Opn} {m : ME} {os : List Opn}
theorem Cs.sortK (C : Cs X W k N sc) (h : glC sc "sorted" = true) (hm : X.mg "sorted" = none) (ha : JOs X W [e] os) (he : starEach [e] X.env = (false, eval e X.env) :: starEach [] X.env := by rfl) (hpl : (backTo pos (starEach [] X.env)).any (·.1) = false := by rfl) :
    JE X W (.Call (.Name "sorted" p) [e] [] pos) (mC gSortK os) := C.bi h hm (by decide +kernel) (cr_sortK C.calm) j_sortK ha he hpl
theorem Cs.dictP (C : Cs X W k N sc) (h : glC sc "dict" = true) (hm : X.mg "dict" = none) (ha : JOs X W [e] os) (he : starEach [e] X.env = (false, eval e X.env) :: starEach [] X.env := by rfl) (hpl : (backTo pos (starEach [] X.env)).any (·.1) = false := by rfl) :
    JE X W (.Call (.Name "dict" p) [e] [] pos) (mC gDictP os) := C.bt h hm rfl (cr_dictP C.calm) j_dictP ha he hpl
def mValsF (m : ME) : MM (List D) := fun δ μ => (m δ μ).bind fun s δ1 μ1 => match s.d with
  | .fx .df ks ds => if ks.length = ds.length then .ok ds δ1 μ1 else .bad
  | _ => .bad
theorem kv_at {K : PySem.W.Frag} {mg : Str → Option Value} {F : Hp} {ρ : List Addr} {ks : List DK} {ds : List D} {vs : List V} (hl : ks.length = vs.length) (rl : RepL K mg F ρ vs ds) {i : Nat} (hi : i < ks.length) : ∃ k v d, ks[i]? = some k ∧ vs[i]? = some v ∧ ds[i]? = some d ∧ ((ks.map DK.key).zip vs)[i]? = some (k.key, v) ∧ Rep K mg F ρ v d := by
  have hv : i < vs.length := by omega
  obtain ⟨d, hd, rd⟩ := rl.getV (List.getElem?_eq_getElem hv)
  refine ⟨ks[i], vs[i], d, List.getElem?_eq_getElem hi, List.getElem?_eq_getElem hv, hd, ?_, rd⟩
  rw [List.getElem?_zip_eq_some]
  exact ⟨by simp [hi], List.getElem?_eq_getElem hv⟩
theorem frz_now {K : PySem.W.Frag} {mg : Str → Option Value} {Z F H : Hp} {ρ : List Addr} {μ : Mem} {δ : Loc} {σ : L2.St} {d : Addr} {o : Obj} {u : HO} (S : Sim K mg Z F ρ μ δ σ H) (h : F d = some (.frz o u)) : H d = some (.frz o u) := by
  rcases S.le _ _ h with z | ⟨_, _, z, _⟩
  · exact z
  · cases z
theorem ji_valsF {tg : Expr} (he : JE X W e m) (hbase : attributeBase e "values" X.env (eval e X.env) = eval e X.env := by rfl) (hline : (apos.endLine == cpos.line) = true := by rfl) : JI X W tg (.Call (.Attribute e "values" apos) [] [] cpos) (mValsF m) := by
  refine (pi_values he.locked hbase hline).imp fun σ H R ⟨Z, F, ρ, μ, δ, S, q⟩ => ⟨Z, F, ρ, μ, δ, S, (FinE.bind q).imp fun s δ1 μ1 H1 F1 ρ1 l lr S1 ⟨_, _, _, p⟩ v r => ?_⟩
  generalize s.d = d at p r
  cases d <;> first | exact p.elim | skip
  rename_i mm ks ds
  cases mm <;> first | exact p.elim | skip
  have p : FinE X W Z F1 ρ1 σ _ (if ks.length = ds.length then _ else _) := p
  by_cases hc : ks.length = ds.length
  · rw [if_pos hc] at p
    obtain ⟨a, o, vs, rfl, hF, hH, hl, rl⟩ := (Bor.fr (H := H1) r).dcf S1
    refine ⟨a, o, _, rfl, hH, p H1 F1 ρ1 .refl .refl S1 _ ?_⟩
    intro Z' F' ρ' μ' δ' σ' H' i to tr S'
    have q := frz_now S' (to _ _ hF)
    have hz : ((ks.map DK.key).zip vs).length = ks.length := by simp [List.length_zip, hl]
    refine ⟨fun h => ⟨q, by rw [hz, hc]; exact h⟩, fun x hx => ?_⟩
    have hi : i < ks.length := by rw [hc]; exact (List.getElem?_eq_some_iff.mp hx).1
    obtain ⟨k0, v0, d0, e2, e3, e4, e5, r0⟩ := kv_at hl rl hi
    rw [e4] at hx; cases hx
    refine ⟨⟨q, by rw [hz]; exact hi⟩, fun y H2 ⟨eH, k1, e6⟩ => ?_⟩
    subst eH
    rw [e5] at e6
    cases e6
    exact ⟨F', .refl, S', r0.up to tr⟩
  · rw [if_neg hc] at p; exact p.elim
end
end FL
namespace FL
open PySem PySem.Spec PyProof.Rows L2
def methTC (cs : List String) (f : String) (n : Nat) (m : MF) : String → String → Nat → Option MF := fun c' f' n' => if c' ∈ cs ∧ f' = f ∧ n' = n then some m else none
section
variable {P : Program} {w : World} {K : PySem.W.Frag} {mg : Str → Option Value} {base : Heap} {j : Nat} {cs : List String} {b f : String} {n : Nat} {m : MF} {fd : FuncData} {ps : List Str}
theorem methRC_of (B : MthB K mg cs (Str.ofString b) (Str.ofString f)) (F : FnG P w K mg base (L2.CX P w) j (fAdF K (pM b f)) fd ps (spM K mg m (n + 1))) (hb : Binds K fd ps []) : MethR P w K mg base j (methTC cs f n m) := by
  intro c' f' n' m' h C hC
  unfold methTC at h
  by_cases hc : c' ∈ cs ∧ f' = f ∧ n' = n
  · rw [if_pos hc] at h
    cases h
    obtain ⟨h1, rfl, rfl⟩ := hc
    obtain ⟨cl, me⟩ := B c' h1 C hC
    exact ⟨cl, fAdF K (pM b f'), fd, ps, [], [], [], m, n' + 1, me, F, hb, .nil, fun _ _ => .nil, rfl, fun ds' μ => by rw [List.append_nil]⟩
  · rw [if_neg hc] at h; cases h
end
end FL
namespace FL
open PySem PySem.Spec PyProof.Rows L2 LamX
theorem fly_keeps {B h h' : Heap} {l : List Env} {e : Addr} {Z : Obj → Prop} (f : PySem.HandSPX.FlyingZ B l e Z h) (k : ∀ b o, h.get? b = some o → h'.get? b = some o) : PySem.HandSPX.FlyingZ B l e Z h' := by
  obtain ⟨f1, f2, f3, oe, vs, T, oT, ts, h1, h2, h3, h4, h5, h6, h7, h8, h9⟩ := f
  exact ⟨fun b o hb => k b o (f1 b o hb), f2, f3.of_keeps fun b o hb _ => ⟨o, k b o hb, rfl⟩, oe, vs, T, oT, ts, k _ _ h1, h2, h3, h4, h5, h6, k _ _ h7, h8, h9⟩
def Subs3 (K : PySem.W.Frag) (mg : Str → Option Value) (cs : List Value) (sub : String → Option Bool) : Prop := ∀ c C b, sub c = some b → mg (Str.ofString c) = some (.ref C) → PySem.W.exmAny K (.ref C) cs = some b
abbrev hlpEB (a caught found err e1 e2 e3 : Str) (j1 j2 kt k2 ke : Nat) (q : Nat → Pos) (rest : List Stmt) : List Stmt :=
  .Assign [.Tuple [.Name caught (q 0), .Name found (q 1)] kt (q 2)] (.Tuple [.Constant .none j1 (q 3), .Constant .none j2 (q 4)] k2 (q 5)) (q 6) :: .Try [.Assign [.Name found (q 7)] (.Call (.Name a (q 8)) [] [] (q 9)) (q 10)] [.ExceptHandler (some (.Tuple [.Name e1 (q 11), .Name e2 (q 12), .Name e3 (q 13)] ke (q 14))) (some err) [.Assign [.Name caught (q 15)] (.Name err (q 16)) (q 17)] (q 18)] [] [] (q 19) :: rest
def wX3 (K : PySem.W.Frag) (cs : List Value) (i j : Nat) (Wout : WX) (D : L2.Ends) : WX := fun cls d σ H =>
  ∃ b, PySem.W.exmAny K cls cs = some b ∧ (b = true → ∀ a, H a = none → D.nx (((σ.set i (some (.ref a))).set j (some (.ref a))).set i none) (upd H a (ErrO a cls d))) ∧ (b = false → Wout cls d σ H)
section
variable {X : Cx} {x1 x2 x3 n k : Str} {c1 c2 c3 : Value} {i j : Nat} {body : List Stmt} {n1 n2 n3 tp pos pos' q7 q8 q9 : Pos} {kk : Nat} {tb : WX → TS} {Wout : WX}
theorem ps_try_x3 (hs : X.stack = X.env :: X.outer) (hf : X.env.frame = some X.env.locals) (hex : X.ex = []) (hN : X.N.Nodup) (hi : X.N[i]? = some n) (hln : X.env.kindOf n = some .local) (hj : X.N[j]? = some k) (hlk : L2.Loc X.env.scope k) (hfk : X.fn k = true) (hij : i < X.N.length)
    (nd : (n == ("__debug__" : Str)) = false) (ncd : (n == ("__classdict__" : Str)) = false) (hc1 : Names X x1 c1) (hc2 : Names X x2 c2) (hc3 : Names X x3 c3) (tk : Takes X Wout)
    (hb : ∀ (W : WX) (pn : List (Addr × Obj)) (xe : Value → Shared → Prop), Takes (X.tr pn xe) W → PassesOwn (model X.prog X.w) X.A X.env xe → PSs (X.tr pn xe) body (tb W)) :
    PS X (.Try body [.ExceptHandler (some (.Tuple [.Name x1 n1, .Name x2 n2, .Name x3 n3] kk tp)) (some n) [.Assign [.Name k q7] (.Name n q8) q9] pos'] [] [] pos) (fun D σ H => tb (wX3 X.K [c1, c2, c3] i j Wout D) D σ H) := by
  refine ⟨fun pins s σ H D I0 want => ?_⟩
  have ok := I0.ok
  have frs1 : X.A.frames = some (X.env :: X.outer) := by rw [ok.frames, hs]
  have ln : L2.Loc X.env.scope n := .inl hln
  refine wpAny_Try_except (wpAny_mono ((hb (wX3 X.K [c1, c2, c3] i j Wout D) (X.pn ++ pins) (fun e s₁ => wpAny (model X.prog X.w) X.A (noteFrame e X.env) (fun _ s₂ => wpAny (model X.prog X.w) X.A (setFlight e none) (fun _ s₃ =>
    wpAny (model X.prog X.w) X.A (handleBy e X.env [.ExceptHandler (some (.Tuple [.Name x1 n1, .Name x2 n2, .Name x3 n3] kk tp)) (some n) [.Assign [.Name k q7] (.Name n q8) q9] pos']) (SP X pins D) X.xe s₃) X.xe s₂) X.xe s₁) (fun u s' xx => ?_) PassesOwn.looking).run [] s σ H D (I0.toTry _) want) (fun f s1 hsp => ?_) (fun e s1 he => he))
  · obtain ⟨a, B, sI, pz, σ', H', cls, d, rfl, Jt, nb, up, sky, na, os, ag, b, hb1, yes, no⟩ := xx
    have J : Inv X pins σ' H' sI := Jt.ofTry ok
    have sk : Sky B (X.env :: X.outer) a (Zc cls d) X.env.locals s'.heap := by
      rw [← hs]
      exact sky
    show wpAny (model X.prog X.w) X.A (noteFrame (.ref a) X.env) _ _ _
    refine Sky.land Zc.steady frs1 hf sk fun g3 f3 u3 => ?_
    have J3 : Inv X pins σ' H' { s' with heap := g3 } := J.landed nb f3.1 (up.trans u3) os ag
    obtain ⟨o3, w3, e3, z3, d3⟩ := f3.there
    have away : a ∉ frs (X.env :: X.outer) := fun hm => by
      obtain ⟨_, o', e', hnf⟩ := f3.2.2.1.mem hm
      rw [e3] at e'
      cases e'
      exact hnf _ d3
    have nL : a ≠ X.env.locals := fun z => away (List.mem_filterMap.mpr ⟨X.env, List.mem_cons_self, by rw [hf, z]⟩)
    have nF : a ∉ X.fs := fun hm => by
      obtain ⟨e, he, q⟩ := List.mem_filterMap.mp hm
      exact away (List.mem_filterMap.mpr ⟨e, List.mem_cons_of_mem _ he, q⟩)
    have newI : sI.heap.get? a = none := by
      cases q : sI.heap.get? a with
      | none => rfl
      | some o =>
        have z := nb a o q (by rw [hs]; exact away)
        have z2 : B.get? a = none := f3.2.1
        rw [z2] at z
        cases z
    have new0 : X.s_0.heap.get? a = none := by
      cases q : X.s_0.heap.get? a with
      | none => rfl
      | some o =>
        obtain ⟨o', z⟩ := J.base.there a o q (by rw [hex]; simp)
        rw [newI] at z
        cases z
    have npin : ∀ p ∈ X.pn ++ pins, p.1 ≠ a := fun p hp z => by
      have y := (J.pin p hp).1
      rw [z, newI] at y
      cases y
    have S3 := J3.suite e3 d3 na nL nF
    refine wpAny_handleBy_cons (codeAny_handlers_test ?_) (by intro q; cases q)
    have LT : PySem.W.Looks (model X.prog X.w) g3 (typeOf (.ref a)) cls := fun A Q E s k q => wpAny_typeOf_ref (k _ _ e3) (by rw [z3.1]; exact q)
    have named : ∀ {x : Str} {c : Value} {np : Pos}, Names X x c → ∀ {Q : Value → Shared → Prop} {E : Value → Shared → Prop}, Q c { s' with heap := g3 } → wpAny (model X.prog X.w) (X.A.mark (some (.ref a))) (eval (.Name x np) X.env) Q E { s' with heap := g3 } := fun {x c np} hc {Q E} q => by
      obtain ⟨hg, hdbg, hm | ⟨hm, hv, hnn⟩⟩ := hc
      · exact ld_glob (X := X.suite a ((a, o3) :: (X.pn ++ pins))) S3 hg hm q hdbg
      · exact ld_blt (X := X.suite a ((a, o3) :: (X.pn ++ pins))) S3 hg hm hv q hnn hdbg
    refine wpAny_Tuple (wpAny_items_cons (named hc1 (wpAny_items_cons (named hc2 (wpAny_items_cons (named hc3 (wpAny_items_nil ⟨by rw [sizeLine_eq]; simp, ?_⟩)))))))
    have kp : ∀ q o, g3.get? q = some o → (g3.push { cls := .type "tuple", data := .seq [c1, c2, c3].toArray }).get? q = some o := fun _ _ z => Heap.get?_push_of_some _ z
    have htp := Heap.get?_push_size g3 (o := { cls := .type "tuple", data := .seq [c1, c2, c3].toArray }) rfl
    generalize g3.push { cls := .type "tuple", data := .seq [c1, c2, c3].toArray } = g5 at kp htp ⊢
    have f5 := fly_keeps f3 kp
    have u5 : s'.heap.UpToSlots g5 := u3.trans (Heap.UpToSlots.of_keeps kp)
    have J5 : Inv X pins σ' H' { s' with heap := g5 } := J.landed nb f5.1 (up.trans u5) os ag
    have LM := PySem.W.exm_tup3 (M := model X.prog X.w) J5.kIn (LT.keeps kp) htp hb1
    refine (LM.here ?_)
    cases b with
    | true =>
      refine codeAny_handlers_suite_as (HandSPX.lands_againZ f5 fun g4 f4 u4 => ?_)
      have J4 : Inv X pins σ' H' { s' with heap := g4 } := J.landed nb f4.1 ((up.trans u5).trans u4) os ag
      obtain ⟨o4, w4, e4, z4, d4⟩ := f4.there
      refine store_ok (X := X.suite a ((a, o4) :: (X.pn ++ pins))) (v := .ref a) (J4.suite e4 d4 na nL nF) hN hi ln rfl (fun s5 S5 => ?_) (.inr hln)
      have pv : PE (X.suite a ((a, o4) :: (X.pn ++ pins))) (.Name n q8) (tVar i) := pe_var hi (.inl hln) nd ncd
      have pa := pss_one (ps_set (X := X.suite a ((a, o4) :: (X.pn ++ pins))) (pos' := q7) (pos := q9) hN hj hlk pv rfl (.inl hfk))
      have hi2 : i < σ'.length := by rw [J.len]; exact hij
      refine wpAny_mono (pa.run [] s5 _ H' { nx := fun τ G => τ = (σ'.set i (some (.ref a))).set j (some (.ref a)) ∧ G = H', rt := fun _ _ => False } S5 ⟨.ref a, by rw [List.getElem?_set_self hi2], rfl, rfl⟩) (fun f s6 hsp => ?_) (fun _ _ z => False.elim z)
      cases f with
      | next =>
        obtain ⟨σ6, H6, S6, q1, q2⟩ := hsp
        subst q1 q2
        have S7 : Inv X ((a, o4) :: pins) ((σ'.set i (some (.ref a))).set j (some (.ref a))) H6 s6 :=
          ⟨ok, S6.os, S6.bare, S6.base, S6.loc, S6.cell, S6.free, S6.freeC, fun p hp => S6.pin p (by
            rw [List.append_nil]
            rcases List.mem_append.mp hp with y | y
            · exact List.mem_cons_of_mem _ (List.mem_append_left _ y)
            · rcases List.mem_cons.mp y with y | y
              · rw [y]
                exact List.mem_cons_self
              · exact List.mem_cons_of_mem _ (List.mem_append_right _ y)), S6.hok, S6.len⟩
        refine gone_ok S7 hN hi hln fun s7 J7 => ⟨_, _, ?_, yes rfl a na⟩
        obtain ⟨y1, y2, y3, _⟩ := J7.pin (a, o4) (List.mem_append_right _ List.mem_cons_self)
        have J8 : Inv X pins _ H6 s7 := ⟨J7.ok, J7.os, J7.bare, J7.base, J7.loc, J7.cell, J7.free, J7.freeC, fun p hp => J7.pin p (by
          rcases List.mem_append.mp hp with y | y
          · exact List.mem_append_left _ y
          · exact List.mem_append_right _ (List.mem_cons_of_mem _ y)), J7.hok, J7.len⟩
        exact track J8 y2 y1 z4.1 z4.2 d4 new0 y3 npin
      | ret u =>
        obtain ⟨_, _, _, _, _, z⟩ := hsp
        exact z.elim
      | brk =>
        obtain ⟨_, _, _, z⟩ := hsp
        exact z.elim
      | cont =>
        obtain ⟨_, _, _, z⟩ := hsp
        exact z.elim
    | false =>
      show wpAny _ X.A (handleBy (.ref a) X.env []) _ _ _
      refine wpAny_handleBy_nil ?_
      obtain ⟨_, _, _, oe, vs, T, oT, ts', he, hz, hd, h1, _⟩ := id f5
      unfold PySem.passOn
      refine wpAny_bind (wpAny_field he hd h1 ?_)
      rw [if_neg (show ¬ ((Value.ref T == Value.none) = true) from by simp)]
      have leave : wpAny (model X.prog X.w) X.A (setFlight (.ref a) X.env.frame) (fun _ s4 => wpAny (model X.prog X.w) X.A (throw (.ref a) : Sem Flow) (SP X pins D) X.xe s4) X.xe { s' with heap := g5 } := by
        rw [hf]
        refine HandSPX.setFlight_upZ f5 fun g4 hh4 u4 => wpAny_throw (tk _ _ ⟨a, B, sI, pins, σ', H', cls, d, rfl, J, nb, (up.trans u5).trans u4, .inr (.inr (by rw [hs]; exact hh4)), na, os, ag, no rfl⟩)
      first
        | exact wpAny_bind (wpAny_pure (wpAny_bind leave))
        | exact wpAny_bind leave
  · cases f with
    | next =>
      obtain ⟨σ', H', J, q⟩ := hsp
      exact wpAny_execs_nil ⟨σ', H', J.ofTry ok, q⟩
    | ret u =>
      obtain ⟨v, σ', H', J, r, q⟩ := hsp
      exact ⟨v, σ', H', J.ofTry ok, r, q⟩
    | brk =>
      obtain ⟨σ', H', J, q⟩ := hsp
      exact ⟨σ', H', J.ofTry ok, q⟩
    | cont =>
      obtain ⟨σ', H', J, q⟩ := hsp
      exact ⟨σ', H', J.ofTry ok, q⟩
end
def mHelpE (sub : String → Option Bool) (n : Nat) (rest : MS) : (Mem → OutF) → Mem → OutF := fun act μ => match act μ with
  | .ok s μ' => (rest ([some (.fr .unk), some (.fr .non), some s, none] ++ List.replicate n none) μ').fin
  | .exc x μ' => match sub x.cls with
    | some true => (rest ([some (.fr .unk), some (.fr (.exn x.cls x.attr x.arg)), some (.fr .non), none] ++ List.replicate n none) μ').fin
    | some false => .exc x μ'
    | none => .bad
  | .bad => .bad
section
variable {P : Program} {w : World} {K : PySem.W.Frag} {mg : Str → Option Value} {base : Heap} {k : Nat} {g : Addr} {x a caught found err e1 e2 e3 : Str} {more : List Str} {j1 j2 kt k2 ke : Nat} {q : Nat → Pos} {st : Stmt} {fd : FuncData} {rest : List Stmt} {sc : Scope} {m : MS} {sub : String → Option Bool} {C1 C2 C3 : Addr}
theorem hlpE_of (Fz : Fd K x x st g fd .none) (S : FnScope (a :: caught :: found :: err :: more) [a] sc) (hsc : defScope st = sc) (hB : defBody st = hlpEB a caught found err e1 e2 e3 j1 j2 kt k2 ke q rest) (hm : mg x = some (.ref g)) (hkp : PySem.W.keepIn K (.ref g) = true) (hbd : Binds K fd [a] [])
    (he1 : glC sc e1 = true) (he2 : glC sc e2 = true) (he3 : glC sc e3 = true) (hc1 : mg e1 = some (.ref C1)) (hc2 : mg e2 = some (.ref C2)) (hc3 : mg e3 = some (.ref C3)) (hsub : Subs3 K mg [.ref C1, .ref C2, .ref C3] sub) (v0 : varC (a :: caught :: found :: err :: more) sc 0 a = true) (l1 : ownC (a :: caught :: found :: err :: more) sc 1 caught = true) (l2 : ownC (a :: caught :: found :: err :: more) sc 2 found = true) (v2 : varC (a :: caught :: found :: err :: more) sc 3 err = true) (k2' : sc.names.lookup err = some .local)
    (hw : ∀ env : Env, env.scope = sc → swappedStores [.Tuple [.Name caught (q 0), .Name found (q 1)] kt (q 2)] (.Tuple [.Constant .none j1 (q 3), .Constant .none j2 (q 4)] k2 (q 5)) env = pure none)
    (hrest : ∀ (X : Cx) (W : WX), X.prog = P → X.w = w → X.K = K → X.mg = mg → X.base = base → Cd X W (k + 1) (a :: caught :: found :: err :: more) sc → JSs X W rest m) : Hlp P w K mg base (k + 1) x (mHelpE sub more.length m) := by
  subst hsc
  refine ⟨g, hm, hkp, fun A outer s H f Q E act Z F ρ μ hr e0 S0 hact fin => ?_⟩
  obtain ⟨oc, od, kV, doc, pm, an, cdv, ct, osl, rfl, lk, hcd⟩ := Fz.ex
  have inK : K.In s.heap := e0.mod.kin.keeps fun b o e => (e0.bs b o e).1
  have lim : s.heap.NoLimit := e0.mod.nolimit.keeps fun b o e => (e0.bs b o e).1
  have hb := hbd s [.ref f] inK rfl
  refine codeAny_call_function hr.r.depth (inK _ _ lk) rfl S.co S.gen rfl (PySem.W.codeRec_of inK hcd) (hb _ _ _ _ ?_)
  refine wpAny_newFunctionEnv_cells S.kind (fun ⟨n, u⟩ hy => ?_) fun env eenv s1 xx => ?_
  · rcases S.par n (List.of_mem_zip hy).1 with z | z
    · exact Or.inl z
    · exact Or.inr ⟨z, PySem.W.cellsFrom_some _ _ _ (Or.inl z)⟩
  subst eenv
  refine ⟨lim.keeps xx.toInCall.keep, codeAny_func ?_⟩
  have rv : Vals [V.ref f] [Value.ref f] := .cons rfl .nil
  generalize hX : cxOf (L2.CX P w) P w K mg base (a :: caught :: found :: err :: more) x (defScope st) g cdv A outer s H E = X
  have I : Inv X [] (L2.start (a :: caught :: found :: err :: more) [.ref f]) H s1 := by
    subst hX
    exact inv_start S hr.r.hd e0 rfl rv xx
  have C : Cd X (lamW E) (k + 1) (a :: caught :: found :: err :: more) (defScope st) := by
    subst hX
    exact ⟨⟨rfl, hr.deeper _, takes_of rfl rfl rfl rfl, rfl, rfl, S.nd⟩, passes_of rfl, fun _ _ => rfl⟩
  have xP : X.prog = P := by subst hX; rfl
  have xw : X.w = w := by subst hX; rfl
  have xK : X.K = K := by subst hX; rfl
  have xm : X.mg = mg := by subst hX; rfl
  have xb : X.base = base := by subst hX; rfl
  have xs : X.stack = X.env :: X.outer := by subst hX; rfl
  have xf : X.env.frame = some X.env.locals := by subst hX; rfl
  have xH : X.H_0 = H := by subst hX; rfl
  have xS : X.s_0 = s := by subst hX; rfl
  have xo : X.outer = outer := by subst hX; rfl
  have xx' : X.ex = [] := by subst hX; rfl
  have xA : X.A = A.deeper (envOfC x (defScope st) s.heap.objs.size g cdv) := by subst hX; rfl
  have xE : X.env = envOfC x (defScope st) s.heap.objs.size g cdv := by subst hX; rfl
  have xX : X.xe = fun e s' => wpAny (model P w) (A.deeper (envOfC x (defScope st) s.heap.objs.size g cdv)) (leaving (envOfC x (defScope st) s.heap.objs.size g cdv) e) (fun _ s'' => L2.CX P w outer H s E e s'') (fun e' s'' => L2.CX P w outer H s E e' s'') s' := by subst hX; rfl
  have hJ := hrest X (lamW E) xP xw xK xm xb C
  subst xP xw xK xm xb
  have own1 := C.own l1
  have own2 := C.own l2
  -- the act, called
  have hcall : ∀ (W : WX) (pn : List (Addr × Obj)) (xe : Value → Shared → Prop), Takes (X.tr pn xe) W → PassesOwn (model X.prog X.w) X.A X.env xe →
      PSs (X.tr pn xe) [.Assign [.Name found (q 7)] (.Call (.Name a (q 8)) [] [] (q 9)) (q 10)] (fun D σ H1 => σ[0]? = some (some (.ref f)) ∧ Sim X.K X.mg Z F ρ μ [] [] H1 ∧ FinF X.K X.mg Z F ρ (fun v H' => D.nx (σ.set 2 (some v)) H') (fun c d H' => W c d σ H') (act μ)) := fun W pn xe tk _ => by
    have hp : PE (X.tr pn xe) (.Call (.Name a (q 8)) [] [] (q 9)) (fun σ H1 Q => σ[0]? = some (some (.ref f)) ∧ Sim X.K X.mg Z F ρ μ [] [] H1 ∧ FinF X.K X.mg Z F ρ (fun v H' => Q v H') (fun c d H' => W c d σ H') (act μ)) := by
      refine ⟨fun pins s' σ H1 Q' I' hh => ?_⟩
      obtain ⟨h0, hS1, hfin⟩ := hh
      have pv : PE (X.tr pn xe) (.Name a (q 8)) (tVar 0) := by
        unfold varC at v0
        simp only [Bool.and_eq_true, Bool.not_eq_true', decide_eq_true_eq, Bool.or_eq_true] at v0
        obtain ⟨⟨⟨z1, z2⟩, z3⟩, z4⟩ := v0
        refine pe_var (by show X.N[0]? = some a; rw [C.hN]; exact z1) ?_ z3 z4
        show X.env.scope.names.lookup a = _ ∨ X.env.scope.names.lookup a = _ ∨ X.env.scope.names.lookup a = _
        rw [C.hsc]
        exact z2
      refine wpAny_Call_Name_kw (thn (pv.run pins s' σ H1 (fun v H2 => v = .ref f ∧ H2 = H1) I' ⟨.ref f, h0, rfl, rfl⟩) fun u s2 ⟨v, H2, I2, r2, q2⟩ => ?_)
      obtain ⟨ev, eH⟩ := q2
      subst ev
      rw [eH] at I2
      obtain rfl : u = Value.ref f := r2
      obtain ⟨⟨oc2, od2, fd2, osl2, of0⟩, nf, ff⟩ := hact.at_
      have un : Un (frs outer) [] H H1 s.heap s2.heap := by
        have z : Un X.fs X.ex X.H_0 H1 X.s_0.heap s2.heap := I2.base
        rw [xH, xS, xx'] at z
        rw [← xo]
        exact z
      have of2 := un.keep f _ of0 nf ff (by simp)
      refine PySem.W.callWith_F0 ⟨_, _, _, _, of2⟩ ?_
      refine wpAny_call (codeAny_mono (hact.run X.A X.stack s2 H1 Q' (WE W σ) Z F ρ μ C.rm I2.env0 un (fun _ _ z => z) (fun _ _ z => z) hS1 hfin) fun res s3 hr3 => ?_)
      cases res with
      | error e => exact passAt tk σ pins H1 s2 e s3 I2 hr3
      | ok fl =>
        cases fl with
        | ret u => exact I2.after hr3
        | next => exact False.elim hr3
        | brk => exact False.elim hr3
        | cont => exact False.elim hr3
    exact (pss_one (ps_set (X := X.tr pn xe) (pos' := q 7) (pos := q 10) own2.1 own2.2.1 (.inl own2.2.2) hp rfl (.inr own2.2.2))).imp fun D σ H1 h => h
  have tg : PG X (.Tuple [.Name caught (q 0), .Name found (q 1)] kt (q 2)) (gTup X.K 2 (gCons (gName 1) (gCons (gName 2) gNil))) := pg_tup C.calm (pgs_cons (pg_name own1.1 own1.2.1 (.inl own1.2.2) (.inr own1.2.2)) (pgs_cons (pg_name own1.1 own2.2.1 (.inl own2.2.2) (.inr own2.2.2)) pgs_nil))
  have first := ps_asg (pos := q 6) (pe_tup (x1 := k2) (pos := q 5) (pa_cons (pe_non (X := X) (j := j1) (pos := q 3)) (pa_cons (pe_non (X := X) (j := j2) (pos := q 4)) pa_nil rfl) rfl)) tg rfl (hw X.env C.hsc) rfl
  have nerr : X.N[3]? = some err := by
    rw [C.hN]
    rfl
  have kerr : X.env.kindOf err = some .local := by
    show X.env.scope.names.lookup err = some .local
    rw [C.hsc]
    exact k2'
  have tr := ps_try_x3 (pos := q 19) (pos' := q 18) (tp := q 14) (kk := ke) (n1 := q 11) (n2 := q 12) (n3 := q 13) (q7 := q 15) (q8 := q 16) (q9 := q 17) (Wout := lamW E) (c1 := .ref C1) (c2 := .ref C2) (c3 := .ref C3) (i := 3) (j := 1) xs xf xx' (by rw [C.hN]; exact S.nd) nerr kerr own1.2.1 (.inl own1.2.2) (C.fn caught (.inl own1.2.2)) (by rw [C.hN]; simp) (by
      unfold varC at v2
      simp only [Bool.and_eq_true, Bool.not_eq_true'] at v2
      exact v2.1.2) (by
      unfold varC at v2
      simp only [Bool.and_eq_true, Bool.not_eq_true'] at v2
      exact v2.2) ⟨(C.gl he1).1, (C.gl he1).2.1, .inl hc1⟩ ⟨(C.gl he2).1, (C.gl he2).2.1, .inl hc2⟩ ⟨(C.gl he3).1, (C.gl he3).2.1, .inl hc3⟩ C.tk hcall
  have all := pss_cons first (pss_cons tr hJ)
  have hq := all.run [] s1 _ H { nx := fun _ H' => Q .non H', rt := Q } I ?_
  · rw [xA, xE, xX] at hq
    have out : ∀ {σ' : L2.St} {H' : Hp} {s' : Shared}, Inv X [] σ' H' s' → s'.os = s.os ∧ Un (frs outer) [] H H' s.heap s'.heap := fun {σ' H' s'} J => by
      have z : Un X.fs X.ex X.H_0 H' X.s_0.heap s'.heap := J.base
      rw [xH, xS, xx'] at z
      have y : s'.os = X.s_0.os := J.os
      rw [xS] at y
      rw [← xo]
      exact ⟨y, z⟩
    have hq2 : wpAny (model X.prog X.w) (A.deeper (envOfC x (defScope st) s.heap.objs.size g cdv)) (execs (defBody st) (envOfC x (defScope st) s.heap.objs.size g cdv)) (SP X [] { nx := fun _ H' => Q .non H', rt := Q }) (fun e s' => wpAny (model X.prog X.w) (A.deeper (envOfC x (defScope st) s.heap.objs.size g cdv)) (leaving (envOfC x (defScope st) s.heap.objs.size g cdv) e) (fun _ s'' => L2.CX X.prog X.w outer H s E e s'') (fun e' s'' => L2.CX X.prog X.w outer H s E e' s'') s') s1 := by
      rw [hB]
      exact hq
    refine wpAny_mono hq2 (fun fl s' hs => ?_) fun e s' hs => hs
    cases fl with
    | ret u =>
      obtain ⟨v, σ', H', J, rv, q⟩ := hs
      exact ⟨v, H', (out J).1, J.bare, (out J).2, J.hok, rv, q⟩
    | next =>
      obtain ⟨σ', H', J, q⟩ := hs
      exact ⟨.non, H', (out J).1, J.bare, (out J).2, J.hok, rfl, q⟩
    | brk =>
      obtain ⟨_, _, _, z⟩ := hs
      exact z.elim
    | cont =>
      obtain ⟨_, _, _, z⟩ := hs
      exact z.elim
  · refine ⟨by rw [sizeLine_eq]; simp, fun p hp => ⟨p, _, rfl, .inl (.inl upd_same), rfl, _, _, rfl, _, _, rfl, rfl, ?_⟩⟩
    refine ⟨rfl, S0.laid hp, ?_⟩
    have g : ∀ (i : Nat) (s : FL.Slot) (x1 x2 : FL.Slot), ([some (.fr .unk), some x1, some x2, none] ++ List.replicate more.length none : FL.Loc)[i]? = some (some s) → (i = 0 ∧ s = .fr .unk) ∨ (i = 1 ∧ s = x1) ∨ (i = 2 ∧ s = x2) := fun i s x1 x2 e => by
      match i, e with
      | 0, e => cases e; exact .inl ⟨rfl, rfl⟩
      | 1, e => cases e; exact .inr (.inl ⟨rfl, rfl⟩)
      | 2, e => cases e; exact .inr (.inr ⟨rfl, rfl⟩)
      | 3, e => cases e
      | i + 4, e =>
        have e : (List.replicate more.length (none : Option FL.Slot))[i]? = some (some s) := e
        rw [List.getElem?_replicate] at e
        split at e <;> cases e
    have st : ∀ (y1 y2 y3 : Option V) (d1 d2 : D) {F' : Hp} {ρ' : List Addr} {μ' : Mem} {H' : Hp}, y3 = none → (∃ v, y1 = some v ∧ Rep X.K X.mg F' ρ' v d1) → (∃ v, y2 = some v ∧ Rep X.K X.mg F' ρ' v d2) → Sim X.K X.mg Z F' ρ' μ' [] [] H' →
        Sim X.K X.mg Z F' ρ' μ' ([some (.fr .unk), some (.fr d1), some (.fr d2), none] ++ List.replicate more.length none) (((L2.start (a :: caught :: found :: err :: more) [V.ref f]).set 1 y1).set 2 y2) H' := fun y1 y2 y3 d1 d2 {F' ρ' μ' H'} e3 h1 h2 S' => by
      obtain ⟨v1, rfl, r1⟩ := h1
      obtain ⟨v2, rfl, r2⟩ := h2
      refine S'.frs (by simp [L2.start]) fun i s e => ?_
      rcases g i s _ _ e with ⟨rfl, rfl⟩ | ⟨rfl, rfl⟩ | ⟨rfl, rfl⟩
      · exact ⟨_, .ref f, rfl, rfl, .unk⟩
      · exact ⟨_, v1, rfl, rfl, r1⟩
      · exact ⟨_, v2, rfl, rfl, r2⟩
    unfold mHelpE at fin
    cases ea : act μ with
    | bad => rw [ea] at fin; exact fin.elim
    | ok sl μ' =>
      rw [ea] at fin
      intro v H' F' ρ' l lr S' rvv
      have S0' := st (some .non) (some .non) none .non .non rfl ⟨_, rfl, .non⟩ ⟨_, rfl, .non⟩ S'
      have S1 := S0'.put (i := 2) (v := v) (s := sl) ⟨rvv, fun o p z1 z2 i o' e1 e2 => by
        rcases g i _ _ _ e1 with ⟨_, z⟩ | ⟨_, z⟩ | ⟨_, z⟩ <;> cases z⟩
      exact ⟨Z, F', ρ', μ', _, S1, fin_S (fun _ _ _ _ z => z) (fin.mono l lr)⟩
    | exc xx μ' =>
      rw [ea] at fin
      intro c d H' F' ρ' l lr S' er
      obtain ⟨Cc, dx, vv, rfl, rfl, h3, h4⟩ := id er
      cases es : sub xx.cls with
      | none => simp only [es] at fin; exact fin.elim
      | some b =>
        refine ⟨b, hsub _ _ _ es h3, fun hb1 a' ha' => ?_, fun hb0 => ?_⟩
        · subst hb1
          simp only [es] at fin
          obtain ⟨w1, w2, w3, w4⟩ := S'.notIn ha'
          have S2 := S'.laid (o := ErrO a' (.ref Cc) (some dx)) ha'
          obtain ⟨l3, S3⟩ := S2.freeze upd_same ⟨w1, w2, w3⟩ w4
          have S4 := st (some (.ref a')) (some .non) none (.exn xx.cls xx.attr xx.arg) .non rfl ⟨_, rfl, .exn h3 (Rd.up l3.to h4.1) upd_same (Rep.up l3.to (fun _ _ z => z) h4.2)⟩ ⟨_, rfl, .non⟩ S3
          have e5 : ((((((L2.start (a :: caught :: found :: err :: more) [V.ref f]).set 1 (some V.non)).set 2 (some V.non)).set 3 (some (V.ref a'))).set 1 (some (V.ref a'))).set 3 none) = (((L2.start (a :: caught :: found :: err :: more) [V.ref f]).set 1 (some (V.ref a'))).set 2 (some V.non)) := by
            simp [L2.start, List.replicate_succ]
          show rdS X (lamW E) m _ _ _
          rw [e5]
          exact ⟨Z, _, ρ', μ', _, S4, fin_S (fun _ _ _ _ z => z) ((fin.mono l lr).mono l3 .refl)⟩
        · subst hb0
          simp only [es] at fin
          exact fin _ _ _ _ _ l lr S' er
end
end FL
namespace FL
open PySem PySem.Spec PyProof.Rows L2 LamX
theorem tIxa_ok {K : PySem.W.Frag} {c d : Str} {b : Bool} (t : tIxa c d b K = true) : ExcK K (He.ga K c) ∧ PySem.W.kitOne K (.ref (He.ga K c)) (.ref (He.ga K d)) = some b := by
  unfold tIxa at t
  simp only [Bool.and_eq_true, decide_eq_true_eq] at t
  obtain ⟨a1, a2, a3, a4, a5, a6, a7, a8, a9⟩ := t
  exact ⟨⟨a1, a2, a3, a4, a5, a6, a7, a8⟩, a9⟩
theorem isxE_of {K : PySem.W.Frag} {h : Heap} {mg : Str → Option Value} (X : K.In h) (G : h.Ns mainGlobals mg) : ∀ (t : IsaTb), tIxas t K = true → Isa K mg (isaT t) := by
  intro t
  induction t with
  | nil => intro _ c d b C D n; cases n
  | cons e t ih =>
    intro ht c d b C D n hC hD
    unfold tIxas at ht
    rw [List.all_cons] at ht
    obtain ⟨h1, h2⟩ := Bool.and_eq_true_iff.mp ht
    obtain ⟨c', d', b'⟩ := e
    by_cases hc : c = c' ∧ d = d'
    · obtain ⟨rfl, rfl⟩ := hc
      have e1 : isaT ((c, d, b') :: t) c d = some b' := by simp [isaT]
      rw [e1] at n
      cases n
      obtain ⟨g1, g2⟩ := Bool.and_eq_true_iff.mp h1
      obtain ⟨g2, g3⟩ := Bool.and_eq_true_iff.mp g2
      have g1 := He.glo_ok X G g1
      have g2 := He.glo_ok X G g2
      rw [hC] at g1
      rw [hD] at g2
      cases g1
      cases g2
      exact tIxa_ok g3
    · have e1 : isaT ((c', d', b') :: t) c d = isaT t c d := by simp [isaT, hc]
      rw [e1] at n
      exact ih h2 c d b C D n hC hD
theorem isxA_of {K : PySem.W.Frag} {h : Heap} {mg : Str → Option Value} (X : K.In h) (G : h.Ns mainGlobals mg) : ∀ (t : IsaTb), tIxas t K = true → ∀ d b c, isaT t c d = some b → ∃ D, mg (Str.ofString d) = some (.ref D) := by
  intro t
  induction t with
  | nil => intro _ d b c n; cases n
  | cons e t ih =>
    intro ht d b c n
    unfold tIxas at ht
    rw [List.all_cons] at ht
    obtain ⟨h1, h2⟩ := Bool.and_eq_true_iff.mp ht
    obtain ⟨c', d', b'⟩ := e
    by_cases hc : c = c' ∧ d = d'
    · obtain ⟨rfl, rfl⟩ := hc
      obtain ⟨g1, g2⟩ := Bool.and_eq_true_iff.mp h1
      obtain ⟨g2, g3⟩ := Bool.and_eq_true_iff.mp g2
      exact ⟨_, He.glo_ok X G g2⟩
    · have e1 : isaT ((c', d', b') :: t) c d = isaT t c d := by simp [isaT, hc]
      rw [e1] at n
      exact ih h2 d b c n
end FL
namespace FL
open PySem PySem.Spec PyProof.Rows L2 LamX
def tXat (K : PySem.W.Frag) (f : Str) (te : TE) : TE := fun σ H Q => te σ H fun x H1 => ∃ (a C dx : Addr) (fs : List (Str × V)) (v : V), x = .ref a ∧ H1 a = some (ErrO a (.ref C) (some dx)) ∧ Rd H1 dx (.xd fs) ∧ XfC K C ∧ PySem.W.findIn K (.ref C) f = some none ∧ fs.lookup f = some v ∧ Q v H1
theorem pe_xat {X : Cx} {e : Expr} {te : TE} {pos : Pos} {n : Str} (he : PE X e te) (hb : attributeBase e n X.env (eval e X.env) = eval e X.env := by rfl) : PE X (.Attribute e n pos) (tXat X.K n te) := by
  refine ⟨fun pins s σ H Q I h => ?_⟩
  refine attr_of hb (thn (he.run pins s σ H _ I h) fun u s1 hh => ?_)
  obtain ⟨x, H1, I1, rx, a, C, dx, fs, v, ex, ea, ed, T, hno, l, q⟩ := hh
  subst ex
  obtain rfl : u = Value.ref a := rx
  obtain ⟨⟨oe, vs, h1, h2, h3, h4⟩, _, _⟩ := I1.hok a _ ea
  obtain ⟨mA, hns, hr⟩ := ed.ok I1.hok
  obtain ⟨od, ho, hl⟩ := lookIn_ns hns
  obtain ⟨u, hu, ru⟩ := RelO.some_of (v := v) (o := mA n) (by rw [← l]; exact hr n)
  have J : PySem.W.InstAt s1.heap a oe C (some od) := by
    obtain ⟨oc, oo, oda, osl⟩ := oe
    dsimp only at h2 h3 h4
    subst h2 h3 h4
    exact ⟨h1, rfl, rfl, ho⟩
  exact HandSPX.exc_get I1.kIn J T.ga T.gg T.exC (PySem.W.findObj_own T.hdC hno rfl (by rw [hl, hu])) (handed_of ru) ⟨v, H1, I1.tok _, ru, q⟩
def mXat (cs : List String) (f : String) (o : Opn) : ME := fun δ μ => (o.ev δ μ).bind fun r δ1 μ1 => match r.self δ1 with
  | some (.exn c a d) => if c ∈ cs ∧ a = f then .ok (.fr d) δ1 μ1 else .bad
  | _ => .bad
def XfT (K : PySem.W.Frag) (mg : Str → Option Value) (cs : List String) (f : String) : Prop := ∀ c ∈ cs, ∀ C, mg (Str.ofString c) = some (.ref C) → XfC K C ∧ PySem.W.findIn K (.ref C) (Str.ofString f) = some none
section
variable {X : Cx} {W : WX} {k : Nat} {N : List Str} {sc : Scope} {e : Expr} {es : List Expr} {pos p p2 : Pos} {o : Opn} {cs ds : List String} {f : String} {isa : String → String → Option Bool}
theorem exn_at {Z F H : Hp} {ρ : List Addr} {μ : Mem} {δ : FL.Loc} {σ : L2.St} {v : V} {r : OR} {c a : String} {d : D} (S : Sim X.K X.mg Z F ρ μ δ σ H) (hx : OrR X.K X.mg F ρ σ v r) (e : r.self δ = some (.exn c a d)) :
    ∃ (p C dx : Addr) (y : V), v = .ref p ∧ X.mg (Str.ofString c) = some (.ref C) ∧ H p = some (ErrO p (.ref C) (some dx)) ∧ L2.Rd H dx (.xd [(Str.ofString a, y)]) ∧ Rep X.K X.mg F ρ y d := by
  have h := OR.self_rep S hx e
  cases h with
  | exn h1 h2 h3 h4 =>
    have hH : H _ = some _ := (S.le _ _ h3).elim (fun z => z) fun ⟨ob, kvs, z, _⟩ => by
      unfold ErrO at z
      cases z
    exact ⟨_, _, _, _, rfl, h1, hH, S.rd h2, h4⟩
theorem je_xat (hf : XfT X.K X.mg cs f) (ho : JO X W e o) (hb : attributeBase e (Str.ofString f) X.env (eval e X.env) = eval e X.env := by rfl) : JE X W (.Attribute e (Str.ofString f) pos) (mXat cs f o) := by
  refine (pe_xat ho hb).imp fun σ H Q ⟨Z, F, ρ, μ, δ, S, q⟩ => ?_
  refine ⟨Z, F, ρ, μ, δ, S, (FinE.bind q).imp fun r δ1 μ1 H1 F1 ρ1 l lr S1 ⟨_, _, _, z⟩ x hx => ?_⟩
  cases es : r.self δ1 with
  | none => simp only [es] at z; exact z.elim
  | some d0 =>
    rw [es] at z
    cases d0 <;> first | (exact z.elim) | skip
    rename_i c a d
    dsimp only at z
    by_cases hc : c ∈ cs ∧ a = f
    · rw [if_pos hc] at z
      obtain ⟨hc, rfl⟩ := hc
      obtain ⟨p, C, dx, y, rfl, hC, hH, hd, ry⟩ := exn_at S1 hx es
      obtain ⟨x1, x2⟩ := hf c hc C hC
      exact ⟨p, C, dx, _, y, rfl, hH, hd, x1, x2, by simp, z _ F1 ρ1 .refl .refl S1 _ (VR.fr' ry)⟩
    · rw [if_neg hc] at z; exact z.elim
def mIsXT (isa : String → String → Option Bool) (ds : List String) (o : Opn) : ME := fun δ μ => (o.ev δ μ).bind fun r δ1 μ1 => match r.self δ1 with
  | some (.exn c _ _) => (match anyO (ds.map fun d => isa c d) with
    | some b => .ok (.fr (.bl b)) δ1 μ1
    | none => .bad)
  | _ => .bad
def rIsXT (K : PySem.W.Frag) : List V → Hp → VK → Prop := fun xs H Q => ∃ (a C dx tp : Addr) (fs : List (Str × V)) (us : List Addr) (b : Bool), xs = [.ref a, .ref tp] ∧ H a = some (ErrO a (.ref C) (some dx)) ∧ L2.Rd H dx (.xd fs) ∧ ExcK K C ∧ H tp = some (.tup (us.map V.ref)) ∧ PySem.W.kitAny K (.ref C) (us.map Value.ref) = some b ∧ Q (.bl b) H
theorem vals_refs : ∀ {us : List Addr} {its : List Value}, Vals (us.map V.ref) its → its = us.map Value.ref
  | [], _, .nil => rfl
  | u :: us, _, .cons h t => by
    rw [vals_refs t]
    exact congrArg (· :: _) h
theorem call_isXT {X : Cx} : CallR X (.builtin "isinstance") (rIsXT X.K) := by
  intro pins s σ H xs us' Q I r h
  obtain ⟨a, C, dx, tp, fs, us, b, rfl, ha, hd, E, htp, ko, q⟩ := h
  cases r with
  | cons rx rr =>
    cases rr with
    | cons rt rr =>
      cases rr
      cases rx
      cases rt
      obtain ⟨⟨oe, vs, h1, h2, h3, h4⟩, _, _⟩ := I.hok a _ ha
      obtain ⟨mA, hns, _⟩ := hd.ok I.hok
      obtain ⟨od, es, ep, hod, _⟩ := hns
      have J : PySem.W.InstAt s.heap a oe C (some od) := by
        obtain ⟨oc, oo, oda, osl⟩ := oe
        dsimp only at h2 h3 h4
        subst h2 h3 h4
        exact ⟨h1, rfl, rfl, hod⟩
      obtain ⟨_, its, hv, ht⟩ := I.hok tp _ htp
      have hi := vals_refs hv
      subst hi
      obtain ⟨⟨o1, o2, o3, o4⟩, g, g2, n, g3⟩ := ht
      dsimp only at g2 g3
      subst g2 g3
      exact PySem.W.kia_tup (PySem.W.kitx_exc E.cl E.ga E.gt E.sb E.ca E.sp E.tk E.ob) I.kIn J g ko (fun z => nomatch z) fun tk => ⟨.bl b, H, I.kept (t' := tk) fun _ _ z => z, rfl, q⟩
theorem isXT_read (hn : ds ≠ []) (hl : ds.length ≤ 1000) (hds : ∀ d ∈ ds, ∃ D : Addr, X.mg (Str.ofString d) = some (.ref D)) (ha : Isa X.K X.mg isa) : ∀ σ H Q, rdE X W (mIsXT isa ds o) σ H Q →
    tCB (rIsXT X.K) (tCons (rdO X W o) (tCons (L2.tTup (rdA X W (ds.map fun d => mD (.glo d)))) tNil)) σ H Q := by
  intro σ H Q ⟨Z, F, ρ, μ, δ, S, q⟩
  refine ⟨Z, F, ρ, μ, δ, S, (FinE.bind q).imp fun r δ1 μ1 H1 F1 ρ1 l lr S1 ⟨_, _, _, z⟩ x hx => ?_⟩
  refine ⟨Z, F1, ρ1, μ1, δ1, S1, ?_⟩
  rw [evA_glos]
  intro H2 F2 ρ2 l2 lr2 S2 vs hv
  obtain ⟨us, rfl, pu⟩ := glos_refs hds hv
  refine ⟨by rw [List.length_map, ← pu.length, line_eq]; omega, fun a ha' => ?_⟩
  show rIsXT X.K [x, .ref a] (upd H2 a (.tup (us.map V.ref))) Q
  have S3 := S2.laid (o := .tup (us.map V.ref)) ha'
  have hx2 := hx.up l2 lr2
  cases es : r.self δ1 with
  | none => simp only [es] at z; exact z.elim
  | some d0 =>
    rw [es] at z
    cases d0 <;> first | (exact z.elim) | skip
    rename_i c a0 d
    dsimp only at z
    cases ea : anyO (ds.map fun d => isa c d) with
    | none => rw [ea] at z; exact z.elim
    | some b =>
      rw [ea] at z
      have z2 := z.mono l2 lr2
      obtain ⟨p, C, dx, y, rfl, hC, hH, hd, ry⟩ := exn_at S3 hx2 es
      obtain ⟨d1, b1, e1, hd1⟩ : ∃ d0 b0, isa c d0 = some b0 ∧ d0 ∈ ds := by
        cases ds with
        | nil => exact absurd rfl hn
        | cons d ds =>
          rw [List.map_cons] at ea
          cases hf : isa c d with
          | none => rw [hf] at ea; cases ea
          | some b1 => exact ⟨d, b1, hf, List.mem_cons_self ..⟩
      obtain ⟨D1, hD1⟩ := hds d1 hd1
      exact ⟨p, C, dx, a, _, us, b, rfl, hH, hd, (ha c d1 b1 C D1 e1 hC hD1).1, upd_same, kitAny_of (f := fun d => isa c d) (kit_all (fun d b D e hD => (ha c d b C D e hC hD).2) pu) ea, z2 _ F2 ρ2 .refl .refl S3 _ (VR.fr' .bl)⟩
theorem Cs.isXT {es : List Expr} {i : Nat} (Cc : Cs X W k N sc) (h1 : glC sc "isinstance" = true) (m1 : X.mg "isinstance" = none) (hn : ds ≠ []) (hl : ds.length ≤ 1000) (hds : ∀ d ∈ ds, ∃ D : Addr, X.mg (Str.ofString d) = some (.ref D)) (ha : Isa X.K X.mg isa) (ho : JO X W e o) (hes : JA X W es (ds.map fun d => mD (.glo d)))
    (he : starEach [e, .Tuple es i p] X.env = (false, eval e X.env) :: starEach [.Tuple es i p] X.env := by rfl) (he2 : starEach [.Tuple es i p] X.env = (false, eval (.Tuple es i p) X.env) :: starEach [] X.env := by rfl)
    (hpl : (backTo pos (starEach [.Tuple es i p] X.env)).any (·.1) = false := by rfl) {p' : Pos} : JE X W (.Call (.Name "isinstance" p') [e, .Tuple es i p] [] pos) (mIsXT isa ds o) :=
  (pe_callB call_isXT (Cc.gl h1).1 m1 rfl (pa_cons ho (pa_cons (pe_tup hes) pa_nil he2) he) (by decide) (by decide) he hpl).imp (isXT_read hn hl hds ha)
end
end FL
namespace FL
open PySem PySem.Spec PyProof.Rows L2 LamX
theorem xfT_of {K : PySem.W.Frag} {h : Heap} {mg : Str → Option Value} (X : K.In h) (G : h.Ns mainGlobals mg) {cs : List String} {f : String} (t : tXfT cs (Str.ofString f) K = true) : XfT K mg cs f := by
  intro c hc C hC
  unfold tXfT at t
  have t := List.all_eq_true.mp t c hc
  simp only [Bool.and_eq_true, decide_eq_true_eq] at t
  obtain ⟨t0, t1, t2, t3, t4, t5⟩ := t
  have g := He.glo_ok X G t0
  rw [hC] at g
  cases g
  exact ⟨⟨t1, t2, t3, t4⟩, t5⟩
theorem subs3_of {K : PySem.W.Frag} {h : Heap} {mg : Str → Option Value} (X : K.In h) (G : h.Ns mainGlobals mg) {es : List String} : ∀ (t : List (String × Bool)), tSubs3 es t K = true → Subs3 K mg (es.map fun x => .ref (He.ga K (Str.ofString x))) (subT t) := by
  intro t
  induction t with
  | nil => intro _ c C b n; cases n
  | cons e t ih =>
    intro ht c C b n hC
    unfold tSubs3 at ht
    rw [List.all_cons] at ht
    obtain ⟨h1, h2⟩ := Bool.and_eq_true_iff.mp ht
    obtain ⟨c', b'⟩ := e
    by_cases hc : c = c'
    · subst hc
      have e1 : subT ((c, b') :: t) c = some b' := by simp [subT]
      rw [e1] at n
      cases n
      obtain ⟨g2, g3⟩ := Bool.and_eq_true_iff.mp h1
      have g2 := He.glo_ok X G g2
      rw [hC] at g2
      cases g2
      exact of_decide_eq_true g3
    · have e1 : subT ((c', b') :: t) c = subT t c := by simp [subT, hc]
      rw [e1] at n
      exact ih h2 c C b n hC
section
variable {X : Cx} {W : WX} {k j : Nat} {nm : List Str} {sc : Scope} {c : String} {ks : List Str} {sel : List Sel} {mi : MF} {N : Nat} {dds : List D} {kws : List Keyword} {mks : List ME} {p pos : Pos}
theorem clS0 (Cc : Cs X W k nm sc) (V : ClW X.prog X.w X.K X.mg X.base j c 0 ks sel mi N dds) (hjk : j + 1 ≤ k) (hg : glC sc (Str.ofString c) = true) (hkw : JK X W kws mks) (h2 : mks.length = ks.length)
    (hall : (backToKw pos (keywordEach kws X.env)).all (·.1.isSome) = true := by rfl) (hks : (backToKw pos (keywordEach kws X.env)).filterMap (·.1) = ks := by rfl)
    (hpl : ((backTo pos (starEach [] X.env)).any (·.1) || (backToKw pos (keywordEach kws X.env)).any (·.1.isNone)) = false := by rfl) :
    JE X W (.Call (.Name (Str.ofString c) p) [] kws pos) (mCallK (mkS c mi) sel [] mks dds) :=
  let ⟨_, hm, F⟩ := V.callS
  je_callW0 Cc F hm hjk hg hkw h2 hall hks hpl
end
end FL
namespace L31
open PySem PySem.Spec PyProof.Rows L2 FL LamX
def sc_iIndex : Scope := { kind := .function, names := [("self", .local), ("schema", .local), ("__class__", .free), ("need_schema", .globalImplicit), ("super", .globalImplicit)], isGenerator := false, isCoroutine := false, more := [] }
theorem scf_iIndex : ClsScope ["self", "schema"] ["self", "schema"] sc_iIndex := ⟨rfl, rfl, rfl, by decide +kernel, rfl, by decide +kernel, by decide +kernel, by decide +kernel, by decide +kernel, by decide +kernel⟩
structure Txt (tb : Nat → Addr) (P : Program) (w : World) (K : PySem.W.Frag) (mg : Str → Option Value) (base : Heap) : Prop where
  n_all : mg "all" = none
  n_dict : mg "dict" = none
  n_isinstance : mg "isinstance" = none
  n_len : mg "len" = none
  n_max : mg "max" = none
  n_min : mg "min" = none
  n_range : mg "range" = none
  n_set : mg "set" = none
  n_sorted : mg "sorted" = none
  n_str : mg "str" = none
  n_super : mg "super" = none
  n_tuple : mg "tuple" = none
  c_LETTERS : ∃ t, mg "LETTERS" = some (.str (Str.ofString "abcdefghijklmnopqrstuvwxyz") t)
  c_MAX_FIELDS : ∃ t, mg "MAX_FIELDS" = some (.int 6 t)
  c_MAX_NAME : ∃ t, mg "MAX_NAME" = some (.int 12 t)
  t_FIELD_KINDS : TupS K mg "FIELD_KINDS" [lit "text", lit "number"]
  x_BadSchema : Xc P w K mg base "BadSchema" "reason"
  s__law_error_of : ∃ C1 C2 C3, mg "Invalid" = some (.ref C1) ∧ mg "Unfit" = some (.ref C2) ∧ mg "Excess" = some (.ref C3) ∧ Subs3 K mg [.ref C1, .ref C2, .ref C3] sub__law_error_of
  c_BadChange : mg "BadChange" = some (.ref (He.ga K "BadChange"))
  c_BadDocument : mg "BadDocument" = some (.ref (He.ga K "BadDocument"))
  c_BadField : mg "BadField" = some (.ref (He.ga K "BadField"))
  c_BadKey : mg "BadKey" = some (.ref (He.ga K "BadKey"))
  c_BadNumber : mg "BadNumber" = some (.ref (He.ga K "BadNumber"))
  c_BadQuery : mg "BadQuery" = some (.ref (He.ga K "BadQuery"))
  c_BadSchema : mg "BadSchema" = some (.ref (He.ga K "BadSchema"))
  c_Index : mg "Index" = some (.ref (He.ga K "Index"))
  c_NoDocument : mg "NoDocument" = some (.ref (He.ga K "NoDocument"))
  c_NoField : mg "NoField" = some (.ref (He.ga K "NoField"))
  c_NoSegment : mg "NoSegment" = some (.ref (He.ga K "NoSegment"))
  c_TooMany : mg "TooMany" = some (.ref (He.ga K "TooMany"))
  c_WrongKind : mg "WrongKind" = some (.ref (He.ga K "WrongKind"))
  atts : AttsOk K mg at_
  prp : PrpB K mg prps
  k_BadChange : ∃ D, mg "BadChange" = some (.ref D)
  k_BadDocument : ∃ D, mg "BadDocument" = some (.ref D)
  k_BadField : ∃ D, mg "BadField" = some (.ref D)
  k_BadKey : ∃ D, mg "BadKey" = some (.ref D)
  k_BadNumber : ∃ D, mg "BadNumber" = some (.ref D)
  k_BadQuery : ∃ D, mg "BadQuery" = some (.ref D)
  k_BadSchema : ∃ D, mg "BadSchema" = some (.ref D)
  k_NoDocument : ∃ D, mg "NoDocument" = some (.ref D)
  k_NoField : ∃ D, mg "NoField" = some (.ref D)
  k_NoSegment : ∃ D, mg "NoSegment" = some (.ref D)
  k_TooMany : ∃ D, mg "TooMany" = some (.ref D)
  k_WrongKind : ∃ D, mg "WrongKind" = some (.ref D)
  i_isa : Isa K mg isX
  i_all : ∀ d b c, isX c d = some b → ∃ D, mg (Str.ofString d) = some (.ref D)
  mk_Index : Mk K (He.ga K "Index") (fAdF K (pM "Index" "__init__"))
  f_iView : ∃ fd, Fd K "__init__" "View.__init__" (clsDef 0 (tp 46)) (fAdF K (pM "View" "__init__")) fd .none
  f_iIndex : ∃ fd, FdK K "__init__" "Index.__init__" (clsDef 0 (tp 52)) (fAdF K (pM "Index" "__init__")) (kvAd K (pM "Index" "__init__")) (codeAd K (pM "Index" "__init__")) (ccAd K (pM "Index" "__init__")) fd
  ce_iIndex : CellOk K (codeAd K (pM "Index" "__init__")) (ccAd K (pM "Index" "__init__")) (He.ga K "Index") P.main.file
  s_iIndex : SupP P K mg (fAdF K (pM "Index" "__init__")) (codeAd K (pM "Index" "__init__")) (ccAd K (pM "Index" "__init__")) (He.ga K "Index") "self" sc_iIndex ["self", "schema"]
  f_View_size : ∃ fd, Fd K "size" "View.size" (clsDef 1 (tp 46)) (fAdF K (pM "View" "size")) fd .none
  f_sr___len__ : ∃ fd, Fd K "__len__" "View.__len__" (clsDef 9 (tp 46)) (fAdF K (pM "View" "__len__")) fd .none
  f_View_all_keys : ∃ fd, Fd K "all_keys" "View.all_keys" (clsDef 2 (tp 46)) (fAdF K (pM "View" "all_keys")) fd .none
  f_Index_segments : ∃ fd, Fd K "segments" "Index.segments" (clsDef 1 (tp 52)) (fAdF K (pM "Index" "segments")) fd .none
  f_View_vocabulary : ∃ fd, Fd K "vocabulary" "View.vocabulary" (clsDef 3 (tp 46)) (fAdF K (pM "View" "vocabulary")) fd .none
  sb_Index : SupB K mg "Index" "__init__" (He.ga K "Index") (fAdF K (pM "View" "__init__"))
  d__law_drawer : ∃ f fd, Fd K "_law_drawer" "_law_drawer" (tp 54) f fd .none ∧ mg "_law_drawer" = some (.ref f) ∧ PySem.W.keepIn K (.ref f) = true
  d__law_drawn : ∃ f fd, Fd K "_law_drawn" "_law_drawn" (tp 55) f fd .none ∧ mg "_law_drawn" = some (.ref f) ∧ PySem.W.keepIn K (.ref f) = true
  d__law_drawn_of : ∃ f fd, Fd K "_law_drawn_of" "_law_drawn_of" (tp 56) f fd .none ∧ mg "_law_drawn_of" = some (.ref f) ∧ PySem.W.keepIn K (.ref f) = true
  d__law_fields : ∃ f fd, Fd K "_law_fields" "_law_fields" (tp 58) f fd .none ∧ mg "_law_fields" = some (.ref f) ∧ PySem.W.keepIn K (.ref f) = true
  d_is_made_of : ∃ f fd, Fd K "is_made_of" "is_made_of" (tp 26) f fd .none ∧ mg "is_made_of" = some (.ref f) ∧ PySem.W.keepIn K (.ref f) = true
  d_is_field_name : ∃ f fd, Fd K "is_field_name" "is_field_name" (tp 29) f fd .none ∧ mg "is_field_name" = some (.ref f) ∧ PySem.W.keepIn K (.ref f) = true
  d_is_field_row : ∃ f fd, Fd K "is_field_row" "is_field_row" (tp 40) f fd .none ∧ mg "is_field_row" = some (.ref f) ∧ PySem.W.keepIn K (.ref f) = true
  d_need_schema : ∃ f fd, Fd K "need_schema" "need_schema" (tp 41) f fd .none ∧ mg "need_schema" = some (.ref f) ∧ PySem.W.keepIn K (.ref f) = true
  d_live_entries : ∃ f fd, Fd K "live_entries" "live_entries" (tp 35) f fd .none ∧ mg "live_entries" = some (.ref f) ∧ PySem.W.keepIn K (.ref f) = true
  d_segment_row : ∃ f fd, Fd K "segment_row" "segment_row" (tp 36) f fd .none ∧ mg "segment_row" = some (.ref f) ∧ PySem.W.keepIn K (.ref f) = true
  d__law_schema_spoilt : ∃ f fd, Fd K "_law_schema_spoilt" "_law_schema_spoilt" (tp 59) f fd .none ∧ mg "_law_schema_spoilt" = some (.ref f) ∧ PySem.W.keepIn K (.ref f) = true
  d__law_error_of : ∃ f fd, Fd K "_law_error_of" "_law_error_of" (tp 57) f fd .none ∧ mg "_law_error_of" = some (.ref f) ∧ PySem.W.keepIn K (.ref f) = true
  mth___len__ : MthB K mg ["Index"] (Str.ofString "View") (Str.ofString "__len__")
  idc : IdCs K mg ["Entry"]
  xf_absent : XfT K mg ["NoDocument"] "absent"
  xf_most : XfT K mg ["TooMany"] "most"
  xf_missing : XfT K mg ["NoField"] "missing"
  xf_mistaken : XfT K mg ["WrongKind"] "mistaken"
def sc__law_drawer : Scope := { kind := .function, names := [("_law_script", .local), ("_law_k", .local), ("_law_cell", .local), ("len", .globalImplicit)], isGenerator := false, isCoroutine := false, more := [] }
theorem scf__law_drawer : FnScope ["_law_script", "_law_k", "_law_cell"] ["_law_script", "_law_k"] sc__law_drawer := ⟨rfl, rfl, rfl, by decide +kernel, rfl, by decide +kernel, by decide +kernel⟩
noncomputable def b__law_drawer (δ : FL.Loc) (μ : Mem) : OutS := (mSeq (mSet 2 (mIf (mTb (m2 (gEq true) (.v 0) (.e (mLst [])))) (m2 gIxL (.v 0) (.e (m2 gMod (.v 1) (.e (mC gLen [(.v 0)]))))) (mD (.int 1))))
    (mRet (mShare (mLst [(mV 2), (m2 gMulA (.e (mD (.int 3))) (.v 1)), (mIf (mTb (m2 gGe (.v 2) (.e (m2 gPow (.e (mD (.int 10))) (.e (mD (.int 18))))))) (m2 gDiv (.v 2) (.e (m2 gPow (.e (mD (.int 10))) (.e (mD (.int 18)))))) (mD (.int 0)))])))) δ μ
noncomputable def m__law_drawer : MF := mFn 3 (b__law_drawer)
theorem g__law_drawer {tb : Nat → Addr} {P : Program} {w : World} {K : PySem.W.Frag} {mg : Str → Option Value} {base : Heap} {f : Addr} {fd : FuncData} (F : Fd K "_law_drawer" "_law_drawer" (tp 54) f fd .none) (T : Txt tb P w K mg base) : FnG P w K mg base (L2.CX P w) (0 + 1) f fd ["_law_script", "_law_k"] (spM K mg (mFn 3 (b__law_drawer)) 2) := by
  refine fnG_s (N := ["_law_script", "_law_k", "_law_cell"]) (sc := sc__law_drawer) F scf__law_drawer (by kernel_rfl) rfl ?_
  intro X W hP hw hK hM hB C
  subst hP hw hK hM hB
  exact (jss_cons (C.set (by decide +kernel) (je_if (C.neT (C.ov (by decide +kernel)) (jo_e (je_lst ja_nil))) (ix_ (C.ov (by decide +kernel)) (jo_e (mod_ (C.ov (by decide +kernel)) (jo_e (C.bi (by decide +kernel) T.n_len PySem.boot_len o_len j_len (jos_cons (C.ov (by decide +kernel)) jos_nil))))) (by intro _ _; rfl)) je_int))
    (jss_one (js_ret (je_share (je_lst (ja_cons (C.v (by decide +kernel)) (ja_cons (mul_ (jo_e je_int) (C.ov (by decide +kernel))) (ja_cons (je_if (geT (C.ov (by decide +kernel)) (jo_e (pow_ (jo_e je_int) (jo_e je_int)))) (div_ (C.ov (by decide +kernel)) (jo_e (pow_ (jo_e je_int) (jo_e je_int)))) je_int) ja_nil))))))))
theorem bd__law_drawer {K : PySem.W.Frag} {f : Addr} {fd : FuncData} (F : Fd K "_law_drawer" "_law_drawer" (tp 54) f fd .none) : Binds K fd ["_law_script", "_law_k"] [] :=
  F.binds fun _ _ _ _ _ _ us hl => match us, hl with | [_, _], _ => by kernel_rfl
theorem ok__law_drawer {tb : Nat → Addr} {P : Program} {w : World} {K : PySem.W.Frag} {mg : Str → Option Value} {base : Heap} (T : Txt tb P w K mg base) : Fu P w K mg base 1 "_law_drawer" m__law_drawer 2 [] := by
  obtain ⟨f, fd, F, hm, hk⟩ := T.d__law_drawer
  exact Fu.mk0 (g__law_drawer F T) hm hk (bd__law_drawer F)
def sc__law_drawn : Scope := { kind := .function, names := [("_law_drawer_here", .local), ("_law_many", .local), ("_law_found", .local), ("_law_primes", .local), ("_law_prime", .local)], isGenerator := false, isCoroutine := false, more := [] }
theorem scf__law_drawn : FnScope ["_law_drawer_here", "_law_many", "_law_found", "_law_primes", "_law_prime"] ["_law_drawer_here", "_law_many"] sc__law_drawn := ⟨rfl, rfl, rfl, by decide +kernel, rfl, by decide +kernel, by decide +kernel⟩
noncomputable def b__law_drawn (δ : FL.Loc) (μ : Mem) : OutS := (mSeq (mIfS (mTb (m2 gGt (.e (m2 gIxL (.v 0) (.e (mD (.int 2))))) (.e (mD (.int 0))))) (mSeq (mSet 2 (m2 gMod (.e (m2 gIxL (.v 0) (.e (mD (.int 2))))) (.v 1)))
    (mSeq (mSetI gSetL (.v 0) (.e (mD (.int 2))) (m2 gDiv (.e (m2 gIxL (.v 0) (.e (mD (.int 2))))) (.v 1)))
    (mRet (mV 2))))
    mPass)
    (mSeq (mSetI gSetL (.v 0) (.e (mD (.int 1))) (m2 gAdd (.e (m2 gIxL (.v 0) (.e (mD (.int 1))))) (.e (mD (.int 1)))))
    (mSeq (mSet 3 (mLst [(mD (.int 2147483647)), (mD (.int 2147483629)), (mD (.int 2147483587)), (mD (.int 2147483579)), (mD (.int 2147483563)), (mD (.int 2147483549)), (mD (.int 2147483543)), (mD (.int 2147483497))]))
    (mSeq (mSet 4 (m2 gIxL (.e (m2 gAdd (.v 3) (.e (mLst [(mD (.int 2147483489)), (mD (.int 2147483477)), (mD (.int 2147483423))])))) (.e (m2 gMod (.e (m2 gIxL (.v 0) (.e (mD (.int 1))))) (.e (mD (.int 11)))))))
    (mRet (m2 gMod (.e (m2 gDiv (.e (m2 gMod (.e (m2 gPow (.e (m2 gAdd (.e (m2 gAdd (.e (m2 gMod (.e (m2 gIxL (.v 0) (.e (mD (.int 0))))) (.v 4))) (.e (m2 gMulA (.e (mD (.int 7919))) (.e (m2 gIxL (.v 0) (.e (mD (.int 1))))))))) (.e (mD (.int 1))))) (.e (mD (.int 5))))) (.v 4))) (.e (mD (.int 13))))) (.v 1))))))) δ μ
noncomputable def m__law_drawn : MF := mFn 5 (b__law_drawn)
theorem g__law_drawn {tb : Nat → Addr} {P : Program} {w : World} {K : PySem.W.Frag} {mg : Str → Option Value} {base : Heap} {f : Addr} {fd : FuncData} (F : Fd K "_law_drawn" "_law_drawn" (tp 55) f fd .none) (T : Txt tb P w K mg base) : FnG P w K mg base (L2.CX P w) (0 + 1) f fd ["_law_drawer_here", "_law_many"] (spM K mg (mFn 5 (b__law_drawn)) 2) := by
  refine fnG_s (N := ["_law_drawer_here", "_law_many", "_law_found", "_law_primes", "_law_prime"]) (sc := sc__law_drawn) F scf__law_drawn (by kernel_rfl) rfl ?_
  intro X W hP hw hK hM hB C
  subst hP hw hK hM hB
  exact (jss_cons (js_if (gtT (jo_e (ix_ (C.ov (by decide +kernel)) (jo_e je_int) (by intro _ _; rfl))) (jo_e je_int)) (jss_cons (C.set (by decide +kernel) (mod_ (jo_e (ix_ (C.ov (by decide +kernel)) (jo_e je_int) (by intro _ _; rfl))) (C.ov (by decide +kernel))))
    (jss_cons (setI_ (div_ (jo_e (ix_ (C.ov (by decide +kernel)) (jo_e je_int) (by intro _ _; rfl))) (C.ov (by decide +kernel))) (C.ov (by decide +kernel)) (jo_e je_int))
    (jss_one (js_ret (C.v (by decide +kernel))))))
    jss_nil)
    (jss_cons (setI_ (add_ (jo_e (ix_ (C.ov (by decide +kernel)) (jo_e je_int) (by intro _ _; rfl))) (jo_e je_int)) (C.ov (by decide +kernel)) (jo_e je_int))
    (jss_cons (C.set (by decide +kernel) (je_lst (ja_cons je_int (ja_cons je_int (ja_cons je_int (ja_cons je_int (ja_cons je_int (ja_cons je_int (ja_cons je_int (ja_cons je_int ja_nil))))))))))
    (jss_cons (C.set (by decide +kernel) (ix_ (jo_e (add_ (C.ov (by decide +kernel)) (jo_e (je_lst (ja_cons je_int (ja_cons je_int (ja_cons je_int ja_nil))))))) (jo_e (mod_ (jo_e (ix_ (C.ov (by decide +kernel)) (jo_e je_int) (by intro _ _; rfl))) (jo_e je_int))) (by intro _ _; rfl)))
    (jss_one (js_ret (mod_ (jo_e (div_ (jo_e (mod_ (jo_e (pow_ (jo_e (add_ (jo_e (add_ (jo_e (mod_ (jo_e (ix_ (C.ov (by decide +kernel)) (jo_e je_int) (by intro _ _; rfl))) (C.ov (by decide +kernel)))) (jo_e (mul_ (jo_e je_int) (jo_e (ix_ (C.ov (by decide +kernel)) (jo_e je_int) (by intro _ _; rfl))))))) (jo_e je_int))) (jo_e je_int))) (C.ov (by decide +kernel)))) (jo_e je_int))) (C.ov (by decide +kernel)))))))))
theorem bd__law_drawn {K : PySem.W.Frag} {f : Addr} {fd : FuncData} (F : Fd K "_law_drawn" "_law_drawn" (tp 55) f fd .none) : Binds K fd ["_law_drawer_here", "_law_many"] [] :=
  F.binds fun _ _ _ _ _ _ us hl => match us, hl with | [_, _], _ => by kernel_rfl
theorem ok__law_drawn {tb : Nat → Addr} {P : Program} {w : World} {K : PySem.W.Frag} {mg : Str → Option Value} {base : Heap} (T : Txt tb P w K mg base) : Fu P w K mg base 1 "_law_drawn" m__law_drawn 2 [] := by
  obtain ⟨f, fd, F, hm, hk⟩ := T.d__law_drawn
  exact Fu.mk0 (g__law_drawn F T) hm hk (bd__law_drawn F)
def sc__law_drawn_of : Scope := { kind := .function, names := [("_law_drawer_here", .local), ("_law_items", .local), ("_law_drawn", .globalImplicit), ("len", .globalImplicit)], isGenerator := false, isCoroutine := false, more := [] }
theorem scf__law_drawn_of : FnScope ["_law_drawer_here", "_law_items"] ["_law_drawer_here", "_law_items"] sc__law_drawn_of := ⟨rfl, rfl, rfl, by decide +kernel, rfl, by decide +kernel, by decide +kernel⟩
noncomputable def b__law_drawn_of (δ : FL.Loc) (μ : Mem) : OutS := (mRet (m2 gIxL (.v 1) (.e (mCall m__law_drawn [(mV 0), (mC gLen [(.v 1)])] [])))) δ μ
noncomputable def m__law_drawn_of : MF := mFn 2 (b__law_drawn_of)
theorem g__law_drawn_of {tb : Nat → Addr} {P : Program} {w : World} {K : PySem.W.Frag} {mg : Str → Option Value} {base : Heap} {f : Addr} {fd : FuncData} (F : Fd K "_law_drawn_of" "_law_drawn_of" (tp 56) f fd .none) (T : Txt tb P w K mg base) : FnG P w K mg base (L2.CX P w) (1 + 1) f fd ["_law_drawer_here", "_law_items"] (spM K mg (mFn 2 (b__law_drawn_of)) 2) := by
  refine fnG_s (N := ["_law_drawer_here", "_law_items"]) (sc := sc__law_drawn_of) F scf__law_drawn_of (by kernel_rfl) rfl ?_
  intro X W hP hw hK hM hB C
  subst hP hw hK hM hB
  exact (jss_one (js_ret (ix_ (C.ov (by decide +kernel)) (jo_e (je_call C.toCs (ok__law_drawn T) (by decide +kernel) (by decide +kernel) (ja_cons (C.v (by decide +kernel)) (ja_cons (C.bi (by decide +kernel) T.n_len PySem.boot_len o_len j_len (jos_cons (C.ov (by decide +kernel)) jos_nil)) ja_nil)) rfl)) (by intro _ _; rfl))))
theorem bd__law_drawn_of {K : PySem.W.Frag} {f : Addr} {fd : FuncData} (F : Fd K "_law_drawn_of" "_law_drawn_of" (tp 56) f fd .none) : Binds K fd ["_law_drawer_here", "_law_items"] [] :=
  F.binds fun _ _ _ _ _ _ us hl => match us, hl with | [_, _], _ => by kernel_rfl
theorem ok__law_drawn_of {tb : Nat → Addr} {P : Program} {w : World} {K : PySem.W.Frag} {mg : Str → Option Value} {base : Heap} (T : Txt tb P w K mg base) : Fu P w K mg base 2 "_law_drawn_of" m__law_drawn_of 2 [] := by
  obtain ⟨f, fd, F, hm, hk⟩ := T.d__law_drawn_of
  exact Fu.mk0 (g__law_drawn_of F T) hm hk (bd__law_drawn_of F)
def sc__law_fields : Scope := { kind := .function, names := [("_law_drawer_here", .cell), ("_law_many", .local), ("_law_names", .cell), ("_law_at", .cell), ("_law_drawn", .globalImplicit), ("range", .globalImplicit)], isGenerator := false, isCoroutine := false, more := [("fast", .str "_law_drawer_here"), ("fast", .str "_law_many"), ("fast", .str "_law_names"), ("fast", .str "_law_at"), ("fast", .str "_law_k")] }
theorem scf__law_fields : FnScope ["_law_drawer_here", "_law_many", "_law_names", "_law_at", "_law_k"] ["_law_drawer_here", "_law_many"] sc__law_fields := ⟨rfl, rfl, rfl, by decide +kernel, rfl, by decide +kernel, by decide +kernel⟩
noncomputable def e1__law_fields (δ : FL.Loc) (μ : Mem) : Out FL.Slot := (mTup [(m2 gIxL (.v 2) (.e (m2 gMod (.e (m2 gAdd (.v 3) (.v 4))) (.e (mD (.int 8)))))), (mCall m__law_drawn_of [(mV 0), (mLst [(mD (.str (lit "text"))), (mD (.str (lit "number")))])] [])]) δ μ
noncomputable def b__law_fields (δ : FL.Loc) (μ : Mem) : OutS := (mSeq (mSet 2 (mLst [(mD (.str (lit "t"))), (mD (.str (lit "title"))), (mD (.str (lit "abcdefghijkl"))), (mD (.str (lit "year"))), (mD (.str (lit "z"))), (mD (.str (lit "body"))), (mD (.str (lit "x"))), (mD (.str (lit "yy")))]))
    (mSeq (mSet 3 (mCall m__law_drawn [(mV 0), (mD (.int 8))] []))
    (mRet (mLc (mRange1 (.v 1)) (tgV 4) mYes e1__law_fields [4])))) δ μ
noncomputable def m__law_fields : MF := mFn 5 (b__law_fields)
theorem g__law_fields {tb : Nat → Addr} {P : Program} {w : World} {K : PySem.W.Frag} {mg : Str → Option Value} {base : Heap} {f : Addr} {fd : FuncData} (F : Fd K "_law_fields" "_law_fields" (tp 58) f fd .none) (T : Txt tb P w K mg base) : FnG P w K mg base (L2.CX P w) (2 + 1) f fd ["_law_drawer_here", "_law_many"] (spM K mg (mFn 5 (b__law_fields)) 2) := by
  refine fnG_s (N := ["_law_drawer_here", "_law_many", "_law_names", "_law_at", "_law_k"]) (sc := sc__law_fields) F scf__law_fields (by kernel_rfl) rfl ?_
  intro X W hP hw hK hM hB C
  subst hP hw hK hM hB
  exact (jss_cons (C.set (by decide +kernel) (je_lst (ja_cons je_str (ja_cons je_str (ja_cons je_str (ja_cons je_str (ja_cons je_str (ja_cons je_str (ja_cons je_str (ja_cons je_str ja_nil))))))))))
    (jss_cons (C.set (by decide +kernel) (je_call C.toCs (ok__law_drawn T) (by decide +kernel) (by decide +kernel) (ja_cons (C.v (by decide +kernel)) (ja_cons je_int ja_nil)) rfl))
    (jss_one (js_ret (Cs.lc (Tx := Txt tb) C.toCs T [("_law_k", 4)] (range1_ C.toCs (by decide +kernel) T.n_range (jos_cons (C.ov (by decide +kernel)) jos_nil)) (by decide +kernel) (fun Y T1 C1 => ⟨(C1.tg (by decide +kernel)), jts_nil, (je_tup (ja_cons (ix_ (C1.ov (by decide +kernel)) (jo_e (mod_ (jo_e (add_ (C1.ov (by decide +kernel)) (C1.ov (by decide +kernel)))) (jo_e je_int))) (by intro _ _; rfl)) (ja_cons (je_call C1 (ok__law_drawn_of T1) (by decide +kernel) (by decide +kernel) (ja_cons (C1.v (by decide +kernel)) (ja_cons (je_lst (ja_cons je_str (ja_cons je_str ja_nil))) ja_nil)) rfl) ja_nil)))⟩) (by rfl))))))
theorem bd__law_fields {K : PySem.W.Frag} {f : Addr} {fd : FuncData} (F : Fd K "_law_fields" "_law_fields" (tp 58) f fd .none) : Binds K fd ["_law_drawer_here", "_law_many"] [] :=
  F.binds fun _ _ _ _ _ _ us hl => match us, hl with | [_, _], _ => by kernel_rfl
theorem ok__law_fields {tb : Nat → Addr} {P : Program} {w : World} {K : PySem.W.Frag} {mg : Str → Option Value} {base : Heap} (T : Txt tb P w K mg base) : Fu P w K mg base 3 "_law_fields" m__law_fields 2 [] := by
  obtain ⟨f, fd, F, hm, hk⟩ := T.d__law_fields
  exact Fu.mk0 (g__law_fields F T) hm hk (bd__law_fields F)
def sc_is_made_of : Scope := { kind := .function, names := [("value", .local), ("signs", .cell), ("most", .local), ("isinstance", .globalImplicit), ("str", .globalImplicit), ("len", .globalImplicit), ("all", .globalImplicit)], isGenerator := false, isCoroutine := false, more := [("fast", .str "value"), ("fast", .str "signs"), ("fast", .str "most"), ("fast", .str "sign")] }
theorem scf_is_made_of : FnScope ["value", "signs", "most", "sign"] ["value", "signs", "most"] sc_is_made_of := ⟨rfl, rfl, rfl, by decide +kernel, rfl, by decide +kernel, by decide +kernel⟩
noncomputable def e1_is_made_of (δ : FL.Loc) (μ : Mem) : Out FL.Slot := (m2 (gIn false) (.v 3) (.v 1)) δ μ
noncomputable def b_is_made_of (δ : FL.Loc) (μ : Mem) : OutS := (mRet (mAndV (mC gIsi [(.v 0), (.e (mD (.ty "str")))]) (mAndV (mChain gLe gLe (.e (mD (.int 1))) (.e (mC gLen [(.v 0)])) (.v 2)) (mC gAll [(.e (mLc (mIt (mV 0)) (tgV 3) mYes e1_is_made_of [3]))])))) δ μ
noncomputable def m_is_made_of : MF := mFn 4 (b_is_made_of)
theorem g_is_made_of {tb : Nat → Addr} {P : Program} {w : World} {K : PySem.W.Frag} {mg : Str → Option Value} {base : Heap} {f : Addr} {fd : FuncData} (F : Fd K "is_made_of" "is_made_of" (tp 26) f fd .none) (T : Txt tb P w K mg base) : FnG P w K mg base (L2.CX P w) (0 + 1) f fd ["value", "signs", "most"] (spM K mg (mFn 4 (b_is_made_of)) 3) := by
  refine fnG_s (N := ["value", "signs", "most", "sign"]) (sc := sc_is_made_of) F scf_is_made_of (by kernel_rfl) rfl ?_
  intro X W hP hw hK hM hB C
  subst hP hw hK hM hB
  exact (jss_one (js_ret (je_and (C.bi (by decide +kernel) T.n_isinstance (by decide +kernel) call_isi j_isi (jos_cons (C.ov (by decide +kernel)) (jos_cons (jo_e (C.ty (by decide +kernel) T.n_str (by decide +kernel))) jos_nil))) (je_and (chain_ o_le j_le o_le j_le (jo_e je_int) (jo_e (C.bi (by decide +kernel) T.n_len PySem.boot_len o_len j_len (jos_cons (C.ov (by decide +kernel)) jos_nil))) (C.ov (by decide +kernel))) (je_one (C.bi (by decide +kernel) T.n_all (by decide +kernel) (cr_all C.calm) j_all (jos_cons (jo_e (Cs.lc (Tx := Txt tb) C.toCs T [("sign", 3)] (ji_any (C.v (by decide +kernel))) (by decide +kernel) (fun Y T1 C1 => ⟨(C1.tg (by decide +kernel)), jts_nil, (in_ (C1.ov (by decide +kernel)) (C1.ov (by decide +kernel)))⟩) (by rfl))) jos_nil)))))))
theorem bd_is_made_of {K : PySem.W.Frag} {f : Addr} {fd : FuncData} (F : Fd K "is_made_of" "is_made_of" (tp 26) f fd .none) : Binds K fd ["value", "signs", "most"] [] :=
  F.binds fun _ _ _ _ _ _ us hl => match us, hl with | [_, _, _], _ => by kernel_rfl
theorem ok_is_made_of {tb : Nat → Addr} {P : Program} {w : World} {K : PySem.W.Frag} {mg : Str → Option Value} {base : Heap} (T : Txt tb P w K mg base) : Fu P w K mg base 1 "is_made_of" m_is_made_of 3 [] := by
  obtain ⟨f, fd, F, hm, hk⟩ := T.d_is_made_of
  exact Fu.mk0 (g_is_made_of F T) hm hk (bd_is_made_of F)
def sc_is_field_name : Scope := { kind := .function, names := [("value", .local), ("is_made_of", .globalImplicit), ("LETTERS", .globalImplicit), ("MAX_NAME", .globalImplicit)], isGenerator := false, isCoroutine := false, more := [] }
theorem scf_is_field_name : FnScope ["value"] ["value"] sc_is_field_name := ⟨rfl, rfl, rfl, by decide +kernel, rfl, by decide +kernel, by decide +kernel⟩
noncomputable def b_is_field_name (δ : FL.Loc) (μ : Mem) : OutS := (mRet (mCall m_is_made_of [(mV 0), (mD (.str (lit "abcdefghijklmnopqrstuvwxyz"))), (mD (.int 12))] [])) δ μ
noncomputable def m_is_field_name : MF := mFn 1 (b_is_field_name)
theorem g_is_field_name {tb : Nat → Addr} {P : Program} {w : World} {K : PySem.W.Frag} {mg : Str → Option Value} {base : Heap} {f : Addr} {fd : FuncData} (F : Fd K "is_field_name" "is_field_name" (tp 29) f fd .none) (T : Txt tb P w K mg base) : FnG P w K mg base (L2.CX P w) (1 + 1) f fd ["value"] (spM K mg (mFn 1 (b_is_field_name)) 1) := by
  refine fnG_s (N := ["value"]) (sc := sc_is_field_name) F scf_is_field_name (by kernel_rfl) rfl ?_
  intro X W hP hw hK hM hB C
  subst hP hw hK hM hB
  exact (jss_one (js_ret (je_call C.toCs (ok_is_made_of T) (by decide +kernel) (by decide +kernel) (ja_cons (C.v (by decide +kernel)) (ja_cons (C.gStr (by decide +kernel) T.c_LETTERS) (ja_cons (C.gInt (by decide +kernel) T.c_MAX_NAME) ja_nil))) rfl)))
theorem bd_is_field_name {K : PySem.W.Frag} {f : Addr} {fd : FuncData} (F : Fd K "is_field_name" "is_field_name" (tp 29) f fd .none) : Binds K fd ["value"] [] :=
  F.binds fun _ _ _ _ _ _ us hl => match us, hl with | [_], _ => by kernel_rfl
theorem ok_is_field_name {tb : Nat → Addr} {P : Program} {w : World} {K : PySem.W.Frag} {mg : Str → Option Value} {base : Heap} (T : Txt tb P w K mg base) : Fu P w K mg base 2 "is_field_name" m_is_field_name 1 [] := by
  obtain ⟨f, fd, F, hm, hk⟩ := T.d_is_field_name
  exact Fu.mk0 (g_is_field_name F T) hm hk (bd_is_field_name F)
def sc_is_field_row : Scope := { kind := .function, names := [("value", .local), ("isinstance", .globalImplicit), ("tuple", .globalImplicit), ("len", .globalImplicit), ("is_field_name", .globalImplicit), ("str", .globalImplicit), ("FIELD_KINDS", .globalImplicit)], isGenerator := false, isCoroutine := false, more := [] }
theorem scf_is_field_row : FnScope ["value"] ["value"] sc_is_field_row := ⟨rfl, rfl, rfl, by decide +kernel, rfl, by decide +kernel, by decide +kernel⟩
noncomputable def b_is_field_row (δ : FL.Loc) (μ : Mem) : OutS := (mSeq (mIfS (mOr (mNot (mTb (mC gIsi [(.v 0), (.e (mD (.ty "tuple")))]))) (mOr (mTb (m2 (gEq true) (.e (mC gLen [(.v 0)])) (.e (mD (.int 2))))) (mNot (mTb (mCall m_is_field_name [(m2 gIxL (.v 0) (.e (mD (.int 0))))] []))))) (mRet (mD (.bl false)))
    mPass)
    (mRet (mAndV (mC gIsi [(.e (m2 gIxL (.v 0) (.e (mD (.int 1))))), (.e (mD (.ty "str")))]) (m2 (gIn false) (.e (m2 gIxL (.v 0) (.e (mD (.int 1))))) (.e (mD (.tup ([lit "text", lit "number"].map .str)))))))) δ μ
noncomputable def m_is_field_row : MF := mFn 1 (b_is_field_row)
theorem g_is_field_row {tb : Nat → Addr} {P : Program} {w : World} {K : PySem.W.Frag} {mg : Str → Option Value} {base : Heap} {f : Addr} {fd : FuncData} (F : Fd K "is_field_row" "is_field_row" (tp 40) f fd .none) (T : Txt tb P w K mg base) : FnG P w K mg base (L2.CX P w) (2 + 1) f fd ["value"] (spM K mg (mFn 1 (b_is_field_row)) 1) := by
  refine fnG_s (N := ["value"]) (sc := sc_is_field_row) F scf_is_field_row (by kernel_rfl) rfl ?_
  intro X W hP hw hK hM hB C
  subst hP hw hK hM hB
  exact (jss_cons (js_if (jt_w (jw_or (jt_not (jt_e (C.bi (by decide +kernel) T.n_isinstance (by decide +kernel) call_isi j_isi (jos_cons (C.ov (by decide +kernel)) (jos_cons (jo_e (C.ty (by decide +kernel) T.n_tuple (by decide +kernel))) jos_nil))))) (jw_or (C.neT (jo_e (C.bi (by decide +kernel) T.n_len PySem.boot_len o_len j_len (jos_cons (C.ov (by decide +kernel)) jos_nil))) (jo_e je_int)) (jw_or1 (jt_not (jt_e (je_call C.toCs (ok_is_field_name T) (by decide +kernel) (by decide +kernel) (ja_cons (ix_ (C.ov (by decide +kernel)) (jo_e je_int) (by intro _ _; rfl)) ja_nil) rfl))))))) (jss_one (js_ret je_bl))
    jss_nil)
    (jss_one (js_ret (je_and (C.bi (by decide +kernel) T.n_isinstance (by decide +kernel) call_isi j_isi (jos_cons (jo_e (ix_ (C.ov (by decide +kernel)) (jo_e je_int) (by intro _ _; rfl))) (jos_cons (jo_e (C.ty (by decide +kernel) T.n_str (by decide +kernel))) jos_nil))) (je_one (in_ (jo_e (ix_ (C.ov (by decide +kernel)) (jo_e je_int) (by intro _ _; rfl))) (jo_e (C.toCs.gTupS (by decide +kernel) T.t_FIELD_KINDS))))))))
theorem bd_is_field_row {K : PySem.W.Frag} {f : Addr} {fd : FuncData} (F : Fd K "is_field_row" "is_field_row" (tp 40) f fd .none) : Binds K fd ["value"] [] :=
  F.binds fun _ _ _ _ _ _ us hl => match us, hl with | [_], _ => by kernel_rfl
theorem ok_is_field_row {tb : Nat → Addr} {P : Program} {w : World} {K : PySem.W.Frag} {mg : Str → Option Value} {base : Heap} (T : Txt tb P w K mg base) : Fu P w K mg base 3 "is_field_row" m_is_field_row 1 [] := by
  obtain ⟨f, fd, F, hm, hk⟩ := T.d_is_field_row
  exact Fu.mk0 (g_is_field_row F T) hm hk (bd_is_field_row F)
def sc_need_schema : Scope := { kind := .function, names := [("value", .local), ("isinstance", .globalImplicit), ("tuple", .globalImplicit), ("len", .globalImplicit), ("MAX_FIELDS", .globalImplicit), ("BadSchema", .globalImplicit), ("all", .globalImplicit), ("set", .globalImplicit)], isGenerator := false, isCoroutine := false, more := [("fast", .str "value"), ("fast", .str "one"), ("fast", .str "name"), ("fast", .str "kind")] }
theorem scf_need_schema : FnScope ["value", "one", "name", "kind"] ["value"] sc_need_schema := ⟨rfl, rfl, rfl, by decide +kernel, rfl, by decide +kernel, by decide +kernel⟩
noncomputable def e1_need_schema (δ : FL.Loc) (μ : Mem) : Out FL.Slot := (mCall m_is_field_row [(mV 1)] []) δ μ
noncomputable def e2_need_schema (δ : FL.Loc) (μ : Mem) : Out FL.Slot := (mV 2) δ μ
noncomputable def b_need_schema (δ : FL.Loc) (μ : Mem) : OutS := (mSeq (mIfS (mOr (mNot (mTb (mC gIsi [(.v 0), (.e (mD (.ty "tuple")))]))) (mNot (mTb (mChain gLe gLe (.e (mD (.int 1))) (.e (mC gLen [(.v 0)])) (.e (mD (.int 6))))))) (mRaise "BadSchema" "reason" (mD (.str (lit "not a tuple of 1 to 6 pairs"))))
    mPass)
    (mSeq (mIfS (mNot (mTb (mC gAll [(.e (mLc (mIt (mV 0)) (tgV 1) mYes e1_need_schema [1]))]))) (mRaise "BadSchema" "reason" (mD (.str (lit "not pairs of a field name and a kind"))))
    mPass)
    (mIfS (mTb (m2 gLt (.e (mC gLenS [(.e (mLc (mIt (mV 0)) (tgT 2 (tgC (tgV 2) (tgC (tgV 3) tgN))) mYes e2_need_schema [2, 3]))])) (.e (mC gLen [(.v 0)])))) (mRaise "BadSchema" "reason" (mD (.str (lit "a field name occurs twice"))))
    mPass))) δ μ
noncomputable def m_need_schema : MF := mFn 4 (b_need_schema)
theorem g_need_schema {tb : Nat → Addr} {P : Program} {w : World} {K : PySem.W.Frag} {mg : Str → Option Value} {base : Heap} {f : Addr} {fd : FuncData} (F : Fd K "need_schema" "need_schema" (tp 41) f fd .none) (T : Txt tb P w K mg base) : FnG P w K mg base (L2.CX P w) (3 + 1) f fd ["value"] (spM K mg (mFn 4 (b_need_schema)) 1) := by
  refine fnG_s (N := ["value", "one", "name", "kind"]) (sc := sc_need_schema) F scf_need_schema (by kernel_rfl) rfl ?_
  intro X W hP hw hK hM hB C
  subst hP hw hK hM hB
  exact (jss_cons (js_if (jt_w (jw_or (jt_not (jt_e (C.bi (by decide +kernel) T.n_isinstance (by decide +kernel) call_isi j_isi (jos_cons (C.ov (by decide +kernel)) (jos_cons (jo_e (C.ty (by decide +kernel) T.n_tuple (by decide +kernel))) jos_nil))))) (jw_or1 (jt_not (chainT o_le j_le o_le j_le (jo_e je_int) (jo_e (C.bi (by decide +kernel) T.n_len PySem.boot_len o_len j_len (jos_cons (C.ov (by decide +kernel)) jos_nil))) (jo_e (C.gInt (by decide +kernel) T.c_MAX_FIELDS))))))) (jss_one (js_raise C.toCs T.x_BadSchema (by decide) (by decide +kernel) je_str))
    jss_nil)
    (jss_cons (js_if (jt_not (jt_e (C.bi (by decide +kernel) T.n_all (by decide +kernel) (cr_all C.calm) j_all (jos_cons (jo_e (Cs.lc (Tx := Txt tb) C.toCs T [("one", 1)] (ji_any (C.v (by decide +kernel))) (by decide +kernel) (fun Y T1 C1 => ⟨(C1.tg (by decide +kernel)), jts_nil, (je_call C1 (ok_is_field_row T1) (by decide +kernel) (by decide +kernel) (ja_cons (C1.v (by decide +kernel)) ja_nil) rfl)⟩) (by rfl))) jos_nil)))) (jss_one (js_raise C.toCs T.x_BadSchema (by decide) (by decide +kernel) je_str))
    jss_nil)
    (jss_one (js_if (ltT (jo_e (Cs.lenSet C.toCs (by decide +kernel) T.n_len (by decide +kernel) T.n_set (jos_cons (jo_e (Cs.lc (Tx := Txt tb) C.toCs T [("name", 2), ("kind", 3)] (ji_any (C.v (by decide +kernel))) (by decide +kernel) (fun Y T1 C1 => ⟨(jg_t C1.calm (jgs_cons (C1.tg (by decide +kernel)) (jgs_cons (C1.tg (by decide +kernel)) jgs_nil))), jts_nil, (C1.v (by decide +kernel))⟩) (by rfl))) jos_nil))) (jo_e (C.bi (by decide +kernel) T.n_len PySem.boot_len o_len j_len (jos_cons (C.ov (by decide +kernel)) jos_nil)))) (jss_one (js_raise C.toCs T.x_BadSchema (by decide) (by decide +kernel) je_str))
    jss_nil))))
theorem bd_need_schema {K : PySem.W.Frag} {f : Addr} {fd : FuncData} (F : Fd K "need_schema" "need_schema" (tp 41) f fd .none) : Binds K fd ["value"] [] :=
  F.binds fun _ _ _ _ _ _ us hl => match us, hl with | [_], _ => by kernel_rfl
theorem ok_need_schema {tb : Nat → Addr} {P : Program} {w : World} {K : PySem.W.Frag} {mg : Str → Option Value} {base : Heap} (T : Txt tb P w K mg base) : Fu P w K mg base 4 "need_schema" m_need_schema 1 [] := by
  obtain ⟨f, fd, F, hm, hk⟩ := T.d_need_schema
  exact Fu.mk0 (g_need_schema F T) hm hk (bd_need_schema F)
def sc_iView : Scope := { kind := .function, names := [("self", .local), ("schema", .local)], isGenerator := false, isCoroutine := false, more := [] }
theorem scf_iView : FnScope ["self", "schema"] ["self", "schema"] sc_iView := ⟨rfl, rfl, rfl, by decide +kernel, rfl, by decide +kernel, by decide +kernel⟩
noncomputable def b_iView (δ : FL.Loc) (μ : Mem) : OutS := (mSeq (mStF at_ "schema" (.v 0) (mV 1))
    (mStF at_ "kept" (.v 0) (mFrz mDct0))) δ μ
noncomputable def m_iView : MF := mFn 2 b_iView
theorem g_iView {tb : Nat → Addr} {P : Program} {w : World} {K : PySem.W.Frag} {mg : Str → Option Value} {base : Heap} {fd : FuncData} (F : Fd K "__init__" "View.__init__" (clsDef 0 (tp 46)) (fAdF K (pM "View" "__init__")) fd .none) (T : Txt tb P w K mg base) : FnG P w K mg base (L2.CX P w) (0 + 1) (fAdF K (pM "View" "__init__")) fd ["self", "schema"] (spM K mg (mFn 2 b_iView) 2) := by
  refine fnG_s (N := ["self", "schema"]) (sc := sc_iView) F scf_iView (by kernel_rfl) rfl ?_
  intro X W hP hw hK hM hB C
  subst hP hw hK hM hB
  exact (jss_cons (js_stF T.atts (C.ov (by decide +kernel)) (C.v (by decide +kernel)))
    (jss_one (js_stF T.atts (C.ov (by decide +kernel)) (je_frz je_dict0))))
theorem bd_iView {K : PySem.W.Frag} {fd : FuncData} (F : Fd K "__init__" "View.__init__" (clsDef 0 (tp 46)) (fAdF K (pM "View" "__init__")) fd .none) : Binds K fd ["self", "schema"] [] :=
  F.binds fun _ _ _ _ _ _ us hl => match us, hl with | [_, _], _ => by kernel_rfl
theorem su_Index {tb : Nat → Addr} {P : Program} {w : World} {K : PySem.W.Frag} {mg : Str → Option Value} {base : Heap} (T : Txt tb P w K mg base) : SupR P w K mg base 1 "Index" "__init__" (He.ga K "Index") m_iView 2 := by
  obtain ⟨fd, F⟩ := T.f_iView
  exact supR_of T.sb_Index (g_iView F T) (bd_iView F)
noncomputable def b_iIndex (δ : FL.Loc) (μ : Mem) : OutS := (mSeq (mEx (mCall m_need_schema [(mV 1)] []))
    (mSeq (mSuper "Index" m_iView [(mV 1)])
    (mStF at_ "pieces" (.v 0) (mLst [])))) δ μ
noncomputable def m_iIndex : MF := mFn 2 b_iIndex
theorem g_iIndex {tb : Nat → Addr} {P : Program} {w : World} {K : PySem.W.Frag} {mg : Str → Option Value} {base : Heap} {kV : Value} {fd : FuncData} (F : FdK K "__init__" "Index.__init__" (clsDef 0 (tp 52)) (fAdF K (pM "Index" "__init__")) kV (codeAd K (pM "Index" "__init__")) (ccAd K (pM "Index" "__init__")) fd) (T : Txt tb P w K mg base) : FnG P w K mg base (L2.CX P w) (4 + 1) (fAdF K (pM "Index" "__init__")) fd ["self", "schema"] (spM K mg (mFn 2 b_iIndex) 2) := by
  refine fnG_cs (N := ["self", "schema"]) (sc := sc_iIndex) (F.fc T.ce_iIndex) scf_iIndex (by kernel_rfl) rfl ?_
  intro X W hP hw hK hM hB C ST
  subst hP hw hK hM hB
  exact (jwb_cons (jws_of (js_expr (je_call C.toCs (ok_need_schema T) (by decide +kernel) (by decide +kernel) (ja_cons (C.v (by decide +kernel)) ja_nil) rfl)))
    (jwb_cons (jws_super C (ST _ T.s_iIndex) (SupR.ok (su_Index T)) (by decide) (ja_cons (C.v (by decide +kernel)) ja_nil) rfl (by decide +kernel) rfl rfl rfl rfl)
    (jwb_of (jss_one (js_stF T.atts (C.ov (by decide +kernel)) (je_lst ja_nil))))))
theorem cl_Index_1 {tb : Nat → Addr} {P : Program} {w : World} {K : PySem.W.Frag} {mg : Str → Option Value} {base : Heap} (T : Txt tb P w K mg base) : ClW P w K mg base 5 "Index" 1 [] [.pos 0] m_iIndex 1 [] := by
  obtain ⟨fd, F⟩ := T.f_iIndex
  exact clW_of T.c_Index T.mk_Index (g_iIndex F T) (F.bind1 fun _ _ _ _ _ _ s x us ws _ h1 h2 => match us, ws, h1, h2 with | [_], [], _, _ => .of_eq (by kernel_rfl)) .nil (fun _ _ => .nil) rfl rfl
def sc_View_size : Scope := { kind := .function, names := [("self", .local), ("len", .globalImplicit)], isGenerator := false, isCoroutine := false, more := [] }
theorem scf_View_size : FnScope ["self"] ["self"] sc_View_size := ⟨rfl, rfl, rfl, by decide +kernel, rfl, by decide +kernel, by decide +kernel⟩
noncomputable def b_View_size (δ : FL.Loc) (μ : Mem) : OutS := (mRet (mC gLenD [(.e (mAt at_ "kept" (.v 0)))])) δ μ
noncomputable def m_View_size : MF := mFn 1 b_View_size
theorem g_View_size {tb : Nat → Addr} {P : Program} {w : World} {K : PySem.W.Frag} {mg : Str → Option Value} {base : Heap} {fd : FuncData} (F : Fd K "size" "View.size" (clsDef 1 (tp 46)) (fAdF K (pM "View" "size")) fd .none) (T : Txt tb P w K mg base) : FnG P w K mg base (L2.CX P w) (0 + 1) (fAdF K (pM "View" "size")) fd ["self"] (spM K mg (mFn 1 b_View_size) 1) := by
  refine fnG_s (N := ["self"]) (sc := sc_View_size) F scf_View_size (by kernel_rfl) rfl ?_
  intro X W hP hw hK hM hB C
  subst hP hw hK hM hB
  exact (jss_one (js_ret (C.bi (by decide +kernel) T.n_len PySem.boot_len cr_lenD j_lenD (jos_cons (jo_e (je_at T.atts (C.ov (by decide +kernel)))) jos_nil))))
theorem bd_View_size {K : PySem.W.Frag} {fd : FuncData} (F : Fd K "size" "View.size" (clsDef 1 (tp 46)) (fAdF K (pM "View" "size")) fd .none) : Binds K fd ["self"] [] :=
  F.binds fun _ _ _ _ _ _ us hl => match us, hl with | [_], _ => by kernel_rfl
noncomputable def gm_size : String → String → Option MF := fun b f => if b = "View" ∧ f = "size" then some m_View_size else none
noncomputable def pt_size : String → String → Option MF := prpM prps gm_size
theorem pr_size {tb : Nat → Addr} {P : Program} {w : World} {K : PySem.W.Frag} {mg : Str → Option Value} {base : Heap} (T : Txt tb P w K mg base) : PropR P w K mg base 1 pt_size := propR_of T.prp fun b f m h => by
  unfold gm_size at h
  by_cases hc : b = "View" ∧ f = "size"
  · obtain ⟨rfl, rfl⟩ := hc
    rw [if_pos ⟨rfl, rfl⟩] at h
    cases h
    obtain ⟨fd, F⟩ := T.f_View_size
    exact ⟨fd, _, g_View_size F T, bd_View_size F⟩
  · rw [if_neg hc] at h
    cases h
def sc_sr___len__ : Scope := { kind := .function, names := [("self", .local), ("len", .globalImplicit)], isGenerator := false, isCoroutine := false, more := [] }
theorem scf_sr___len__ : FnScope ["self"] ["self"] sc_sr___len__ := ⟨rfl, rfl, rfl, by decide +kernel, rfl, by decide +kernel, by decide +kernel⟩
noncomputable def b_sr___len__ (δ : FL.Loc) (μ : Mem) : OutS := (mRet (mC gLenD [(.e (mAt at_ "kept" (.v 0)))])) δ μ
noncomputable def m_sr___len__ : MF := mFn 1 b_sr___len__
theorem g_sr___len__ {tb : Nat → Addr} {P : Program} {w : World} {K : PySem.W.Frag} {mg : Str → Option Value} {base : Heap} {fd : FuncData} (F : Fd K "__len__" "View.__len__" (clsDef 9 (tp 46)) (fAdF K (pM "View" "__len__")) fd .none) (T : Txt tb P w K mg base) : FnG P w K mg base (L2.CX P w) (0 + 1) (fAdF K (pM "View" "__len__")) fd ["self"] (spM K mg (mFn 1 b_sr___len__) 1) := by
  refine fnG_s (N := ["self"]) (sc := sc_sr___len__) F scf_sr___len__ (by kernel_rfl) rfl ?_
  intro X W hP hw hK hM hB C
  subst hP hw hK hM hB
  exact (jss_one (js_ret (C.bi (by decide +kernel) T.n_len PySem.boot_len cr_lenD j_lenD (jos_cons (jo_e (je_at T.atts (C.ov (by decide +kernel)))) jos_nil))))
theorem bd_sr___len__ {K : PySem.W.Frag} {fd : FuncData} (F : Fd K "__len__" "View.__len__" (clsDef 9 (tp 46)) (fAdF K (pM "View" "__len__")) fd .none) : Binds K fd ["self"] [] :=
  F.binds fun _ _ _ _ _ _ us hl => match us, hl with | [_], _ => by kernel_rfl
noncomputable def mt___len__ : String → String → Nat → Option MF := methTC ["Index"] "__len__" 0 m_sr___len__
theorem mr___len__ {tb : Nat → Addr} {P : Program} {w : World} {K : PySem.W.Frag} {mg : Str → Option Value} {base : Heap} (T : Txt tb P w K mg base) : MethR P w K mg base 1 mt___len__ := by
  obtain ⟨fd, F⟩ := T.f_sr___len__
  exact methRC_of T.mth___len__ (g_sr___len__ F T) (bd_sr___len__ F)
def sc_View_all_keys : Scope := { kind := .function, names := [("self", .local), ("tuple", .globalImplicit), ("sorted", .globalImplicit)], isGenerator := false, isCoroutine := false, more := [] }
theorem scf_View_all_keys : FnScope ["self"] ["self"] sc_View_all_keys := ⟨rfl, rfl, rfl, by decide +kernel, rfl, by decide +kernel, by decide +kernel⟩
noncomputable def b_View_all_keys (δ : FL.Loc) (μ : Mem) : OutS := (mRet (mC gTuple [(.e (mC gSortK [(.e (mAt at_ "kept" (.v 0)))]))])) δ μ
noncomputable def m_View_all_keys : MF := mFn 1 b_View_all_keys
theorem g_View_all_keys {tb : Nat → Addr} {P : Program} {w : World} {K : PySem.W.Frag} {mg : Str → Option Value} {base : Heap} {fd : FuncData} (F : Fd K "all_keys" "View.all_keys" (clsDef 2 (tp 46)) (fAdF K (pM "View" "all_keys")) fd .none) (T : Txt tb P w K mg base) : FnG P w K mg base (L2.CX P w) (0 + 1) (fAdF K (pM "View" "all_keys")) fd ["self"] (spM K mg (mFn 1 b_View_all_keys) 1) := by
  refine fnG_s (N := ["self"]) (sc := sc_View_all_keys) F scf_View_all_keys (by kernel_rfl) rfl ?_
  intro X W hP hw hK hM hB C
  subst hP hw hK hM hB
  exact (jss_one (js_ret (C.bt (by decide +kernel) T.n_tuple (by decide +kernel) o_tuple j_tuple (jos_cons (jo_e (C.toCs.sortK (by decide +kernel) T.n_sorted (jos_cons (jo_e (je_at T.atts (C.ov (by decide +kernel)))) jos_nil))) jos_nil))))
theorem bd_View_all_keys {K : PySem.W.Frag} {fd : FuncData} (F : Fd K "all_keys" "View.all_keys" (clsDef 2 (tp 46)) (fAdF K (pM "View" "all_keys")) fd .none) : Binds K fd ["self"] [] :=
  F.binds fun _ _ _ _ _ _ us hl => match us, hl with | [_], _ => by kernel_rfl
noncomputable def gm_all_keys : String → String → Option MF := fun b f => if b = "View" ∧ f = "all_keys" then some m_View_all_keys else none
noncomputable def pt_all_keys : String → String → Option MF := prpM prps gm_all_keys
theorem pr_all_keys {tb : Nat → Addr} {P : Program} {w : World} {K : PySem.W.Frag} {mg : Str → Option Value} {base : Heap} (T : Txt tb P w K mg base) : PropR P w K mg base 1 pt_all_keys := propR_of T.prp fun b f m h => by
  unfold gm_all_keys at h
  by_cases hc : b = "View" ∧ f = "all_keys"
  · obtain ⟨rfl, rfl⟩ := hc
    rw [if_pos ⟨rfl, rfl⟩] at h
    cases h
    obtain ⟨fd, F⟩ := T.f_View_all_keys
    exact ⟨fd, _, g_View_all_keys F T, bd_View_all_keys F⟩
  · rw [if_neg hc] at h
    cases h
def sc_live_entries : Scope := { kind := .function, names := [("segment", .local), ("kept", .cell)], isGenerator := false, isCoroutine := false, more := [("fast", .str "segment"), ("fast", .str "kept"), ("fast", .str "entry")] }
theorem scf_live_entries : FnScope ["segment", "kept", "entry"] ["segment", "kept"] sc_live_entries := ⟨rfl, rfl, rfl, by decide +kernel, rfl, by decide +kernel, by decide +kernel⟩
noncomputable def t1_live_entries (δ : FL.Loc) (μ : Mem) : Out Bool := (mTb (mEqI ["Entry"] (mGet1 (.v 1) (.e (mAt at_ "label" (.v 2)))) (mV 2))) δ μ
noncomputable def e2_live_entries (δ : FL.Loc) (μ : Mem) : Out FL.Slot := (mV 2) δ μ
noncomputable def b_live_entries (δ : FL.Loc) (μ : Mem) : OutS := (mRet (mLc (mIt (mAt at_ "added" (.v 0))) (tgV 2) t1_live_entries e2_live_entries [2])) δ μ
noncomputable def m_live_entries : MF := mFn 3 (b_live_entries)
theorem g_live_entries {tb : Nat → Addr} {P : Program} {w : World} {K : PySem.W.Frag} {mg : Str → Option Value} {base : Heap} {f : Addr} {fd : FuncData} (F : Fd K "live_entries" "live_entries" (tp 35) f fd .none) (T : Txt tb P w K mg base) : FnG P w K mg base (L2.CX P w) (0 + 1) f fd ["segment", "kept"] (spM K mg (mFn 3 (b_live_entries)) 2) := by
  refine fnG_s (N := ["segment", "kept", "entry"]) (sc := sc_live_entries) F scf_live_entries (by kernel_rfl) rfl ?_
  intro X W hP hw hK hM hB C
  subst hP hw hK hM hB
  exact (jss_one (js_ret (Cs.lc (Tx := Txt tb) C.toCs T [("entry", 2)] (ji_any (je_at T.atts (C.ov (by decide +kernel)))) (by decide +kernel) (fun Y T1 C1 => ⟨(C1.tg (by decide +kernel)), (jts_one (Cs.eqIT C1 T1.idc (C1.get1 (C1.ov (by decide +kernel)) (jo_e (je_at T1.atts (C1.ov (by decide +kernel))))) (C1.v (by decide +kernel)))), (C1.v (by decide +kernel))⟩) (by rfl))))
theorem bd_live_entries {K : PySem.W.Frag} {f : Addr} {fd : FuncData} (F : Fd K "live_entries" "live_entries" (tp 35) f fd .none) : Binds K fd ["segment", "kept"] [] :=
  F.binds fun _ _ _ _ _ _ us hl => match us, hl with | [_, _], _ => by kernel_rfl
theorem ok_live_entries {tb : Nat → Addr} {P : Program} {w : World} {K : PySem.W.Frag} {mg : Str → Option Value} {base : Heap} (T : Txt tb P w K mg base) : Fu P w K mg base 1 "live_entries" m_live_entries 2 [] := by
  obtain ⟨f, fd, F, hm, hk⟩ := T.d_live_entries
  exact Fu.mk0 (g_live_entries F T) hm hk (bd_live_entries F)
def sc_segment_row : Scope := { kind := .function, names := [("segment", .local), ("kept", .local), ("live", .local), ("len", .globalImplicit), ("live_entries", .globalImplicit)], isGenerator := false, isCoroutine := false, more := [] }
theorem scf_segment_row : FnScope ["segment", "kept", "live"] ["segment", "kept"] sc_segment_row := ⟨rfl, rfl, rfl, by decide +kernel, rfl, by decide +kernel, by decide +kernel⟩
noncomputable def b_segment_row (δ : FL.Loc) (μ : Mem) : OutS := (mSeq (mSet 2 (mC gLen [(.e (mCall m_live_entries [(mV 0), (mV 1)] []))]))
    (mRet (mTup [(mV 2), (m2 gSub (.e (mC gLen [(.e (mAt at_ "added" (.v 0)))])) (.v 2)), (mAt at_ "is_open" (.v 0))]))) δ μ
noncomputable def m_segment_row : MF := mFn 3 (b_segment_row)
theorem g_segment_row {tb : Nat → Addr} {P : Program} {w : World} {K : PySem.W.Frag} {mg : Str → Option Value} {base : Heap} {f : Addr} {fd : FuncData} (F : Fd K "segment_row" "segment_row" (tp 36) f fd .none) (T : Txt tb P w K mg base) : FnG P w K mg base (L2.CX P w) (1 + 1) f fd ["segment", "kept"] (spM K mg (mFn 3 (b_segment_row)) 2) := by
  refine fnG_s (N := ["segment", "kept", "live"]) (sc := sc_segment_row) F scf_segment_row (by kernel_rfl) rfl ?_
  intro X W hP hw hK hM hB C
  subst hP hw hK hM hB
  exact (jss_cons (C.set (by decide +kernel) (C.bi (by decide +kernel) T.n_len PySem.boot_len o_len j_len (jos_cons (jo_e (je_call C.toCs (ok_live_entries T) (by decide +kernel) (by decide +kernel) (ja_cons (C.v (by decide +kernel)) (ja_cons (C.v (by decide +kernel)) ja_nil)) rfl)) jos_nil)))
    (jss_one (js_ret (je_tup (ja_cons (C.v (by decide +kernel)) (ja_cons (sub_ (jo_e (C.bi (by decide +kernel) T.n_len PySem.boot_len o_len j_len (jos_cons (jo_e (je_at T.atts (C.ov (by decide +kernel)))) jos_nil))) (C.ov (by decide +kernel))) (ja_cons (je_at T.atts (C.ov (by decide +kernel))) ja_nil)))))))
theorem bd_segment_row {K : PySem.W.Frag} {f : Addr} {fd : FuncData} (F : Fd K "segment_row" "segment_row" (tp 36) f fd .none) : Binds K fd ["segment", "kept"] [] :=
  F.binds fun _ _ _ _ _ _ us hl => match us, hl with | [_, _], _ => by kernel_rfl
theorem ok_segment_row {tb : Nat → Addr} {P : Program} {w : World} {K : PySem.W.Frag} {mg : Str → Option Value} {base : Heap} (T : Txt tb P w K mg base) : Fu P w K mg base 2 "segment_row" m_segment_row 2 [] := by
  obtain ⟨f, fd, F, hm, hk⟩ := T.d_segment_row
  exact Fu.mk0 (g_segment_row F T) hm hk (bd_segment_row F)
def sc_Index_segments : Scope := { kind := .function, names := [("self", .cell), ("tuple", .globalImplicit)], isGenerator := false, isCoroutine := false, more := [("fast", .str "self"), ("fast", .str "piece")] }
theorem scf_Index_segments : FnScope ["self", "piece"] ["self"] sc_Index_segments := ⟨rfl, rfl, rfl, by decide +kernel, rfl, by decide +kernel, by decide +kernel⟩
noncomputable def e1_Index_segments (δ : FL.Loc) (μ : Mem) : Out FL.Slot := (mCall m_segment_row [(mV 1), (mAt at_ "kept" (.v 0))] []) δ μ
noncomputable def b_Index_segments (δ : FL.Loc) (μ : Mem) : OutS := (mRet (mC gTuple [(.e (mLc (mIt (mAt at_ "pieces" (.v 0))) (tgV 1) mYes e1_Index_segments [1]))])) δ μ
noncomputable def m_Index_segments : MF := mFn 2 b_Index_segments
theorem g_Index_segments {tb : Nat → Addr} {P : Program} {w : World} {K : PySem.W.Frag} {mg : Str → Option Value} {base : Heap} {fd : FuncData} (F : Fd K "segments" "Index.segments" (clsDef 1 (tp 52)) (fAdF K (pM "Index" "segments")) fd .none) (T : Txt tb P w K mg base) : FnG P w K mg base (L2.CX P w) (2 + 1) (fAdF K (pM "Index" "segments")) fd ["self"] (spM K mg (mFn 2 b_Index_segments) 1) := by
  refine fnG_s (N := ["self", "piece"]) (sc := sc_Index_segments) F scf_Index_segments (by kernel_rfl) rfl ?_
  intro X W hP hw hK hM hB C
  subst hP hw hK hM hB
  exact (jss_one (js_ret (C.bt (by decide +kernel) T.n_tuple (by decide +kernel) o_tuple j_tuple (jos_cons (jo_e (Cs.lc (Tx := Txt tb) C.toCs T [("piece", 1)] (ji_any (je_at T.atts (C.ov (by decide +kernel)))) (by decide +kernel) (fun Y T1 C1 => ⟨(C1.tg (by decide +kernel)), jts_nil, (je_call C1 (ok_segment_row T1) (by decide +kernel) (by decide +kernel) (ja_cons (C1.v (by decide +kernel)) (ja_cons (je_at T1.atts (C1.ov (by decide +kernel))) ja_nil)) rfl)⟩) (by rfl))) jos_nil))))
theorem bd_Index_segments {K : PySem.W.Frag} {fd : FuncData} (F : Fd K "segments" "Index.segments" (clsDef 1 (tp 52)) (fAdF K (pM "Index" "segments")) fd .none) : Binds K fd ["self"] [] :=
  F.binds fun _ _ _ _ _ _ us hl => match us, hl with | [_], _ => by kernel_rfl
noncomputable def gm_segments : String → String → Option MF := fun b f => if b = "Index" ∧ f = "segments" then some m_Index_segments else none
noncomputable def pt_segments : String → String → Option MF := prpM prps gm_segments
theorem pr_segments {tb : Nat → Addr} {P : Program} {w : World} {K : PySem.W.Frag} {mg : Str → Option Value} {base : Heap} (T : Txt tb P w K mg base) : PropR P w K mg base 3 pt_segments := propR_of T.prp fun b f m h => by
  unfold gm_segments at h
  by_cases hc : b = "Index" ∧ f = "segments"
  · obtain ⟨rfl, rfl⟩ := hc
    rw [if_pos ⟨rfl, rfl⟩] at h
    cases h
    obtain ⟨fd, F⟩ := T.f_Index_segments
    exact ⟨fd, _, g_Index_segments F T, bd_Index_segments F⟩
  · rw [if_neg hc] at h
    cases h
def sc_View_vocabulary : Scope := { kind := .function, names := [("self", .local), ("pairs", .local), ("entry", .local), ("field", .local), ("row", .local), ("word", .local), ("len", .globalImplicit)], isGenerator := false, isCoroutine := false, more := [] }
theorem scf_View_vocabulary : FnScope ["self", "pairs", "entry", "field", "row", "word"] ["self"] sc_View_vocabulary := ⟨rfl, rfl, rfl, by decide +kernel, rfl, by decide +kernel, by decide +kernel⟩
noncomputable def f1_View_vocabulary (δ : FL.Loc) (μ : Mem) : OutS := (mSetI gSetD (.v 1) (.e (mTup [(mV 3), (mV 5)])) (mD (.bl true))) δ μ
noncomputable def f2_View_vocabulary (δ : FL.Loc) (μ : Mem) : OutS := (mFor (mIt (mV 4)) (tgV 5) f1_View_vocabulary) δ μ
noncomputable def f3_View_vocabulary (δ : FL.Loc) (μ : Mem) : OutS := (mFor (mItemsF (mAt at_ "field_words" (.v 2))) (tgT 2 (tgC (tgV 3) (tgC (tgV 4) tgN))) f2_View_vocabulary) δ μ
noncomputable def b_View_vocabulary (δ : FL.Loc) (μ : Mem) : OutS := (mSeq (mSet 1 mDct0)
    (mSeq (mFor (mValsF (mAt at_ "kept" (.v 0))) (tgV 2) f3_View_vocabulary)
    (mRet (mC gLenD [(.v 1)])))) δ μ
noncomputable def m_View_vocabulary : MF := mFn 6 b_View_vocabulary
theorem g_View_vocabulary {tb : Nat → Addr} {P : Program} {w : World} {K : PySem.W.Frag} {mg : Str → Option Value} {base : Heap} {fd : FuncData} (F : Fd K "vocabulary" "View.vocabulary" (clsDef 3 (tp 46)) (fAdF K (pM "View" "vocabulary")) fd .none) (T : Txt tb P w K mg base) : FnG P w K mg base (L2.CX P w) (0 + 1) (fAdF K (pM "View" "vocabulary")) fd ["self"] (spM K mg (mFn 6 b_View_vocabulary) 1) := by
  refine fnG_s (N := ["self", "pairs", "entry", "field", "row", "word"]) (sc := sc_View_vocabulary) F scf_View_vocabulary (by kernel_rfl) rfl ?_
  intro X W hP hw hK hM hB C
  subst hP hw hK hM hB
  exact (jss_cons (C.set (by decide +kernel) je_dict0)
    (jss_cons (js_for C.hp C.calm (ji_valsF (je_at T.atts (C.ov (by decide +kernel)))) (C.tg (by decide +kernel)) (jss_one (js_for C.hp C.calm (ji_itemsF (je_at T.atts (C.ov (by decide +kernel)))) (jg_t C.calm (jgs_cons (C.tg (by decide +kernel)) (jgs_cons (C.tg (by decide +kernel)) jgs_nil))) (jss_one (js_for C.hp C.calm (ji_any (C.v (by decide +kernel))) (C.tg (by decide +kernel)) (jss_one (C.setD je_bl (C.ov (by decide +kernel)) (jo_e (je_tup (ja_cons (C.v (by decide +kernel)) (ja_cons (C.v (by decide +kernel)) ja_nil)))))))))))
    (jss_one (js_ret (C.bi (by decide +kernel) T.n_len PySem.boot_len cr_lenD j_lenD (jos_cons (C.ov (by decide +kernel)) jos_nil))))))
theorem bd_View_vocabulary {K : PySem.W.Frag} {fd : FuncData} (F : Fd K "vocabulary" "View.vocabulary" (clsDef 3 (tp 46)) (fAdF K (pM "View" "vocabulary")) fd .none) : Binds K fd ["self"] [] :=
  F.binds fun _ _ _ _ _ _ us hl => match us, hl with | [_], _ => by kernel_rfl
noncomputable def gm_vocabulary : String → String → Option MF := fun b f => if b = "View" ∧ f = "vocabulary" then some m_View_vocabulary else none
noncomputable def pt_vocabulary : String → String → Option MF := prpM prps gm_vocabulary
theorem pr_vocabulary {tb : Nat → Addr} {P : Program} {w : World} {K : PySem.W.Frag} {mg : Str → Option Value} {base : Heap} (T : Txt tb P w K mg base) : PropR P w K mg base 1 pt_vocabulary := propR_of T.prp fun b f m h => by
  unfold gm_vocabulary at h
  by_cases hc : b = "View" ∧ f = "vocabulary"
  · obtain ⟨rfl, rfl⟩ := hc
    rw [if_pos ⟨rfl, rfl⟩] at h
    cases h
    obtain ⟨fd, F⟩ := T.f_View_vocabulary
    exact ⟨fd, _, g_View_vocabulary F T, bd_View_vocabulary F⟩
  · rw [if_neg hc] at h
    cases h
def sc__law_schema_spoilt : Scope := { kind := .function, names := [("_law_drawer_here", .local), ("_law_pairs", .local), ("_law_at", .local), ("_law_name", .local), ("_law_kind", .local), ("_law_odd", .local), ("_law_way", .local), ("_law_drawn", .globalImplicit), ("len", .globalImplicit), ("_law_drawn_of", .globalImplicit), ("tuple", .globalImplicit), ("dict", .globalImplicit)], isGenerator := false, isCoroutine := false, more := [] }
theorem scf__law_schema_spoilt : FnScope ["_law_drawer_here", "_law_pairs", "_law_at", "_law_name", "_law_kind", "_law_odd", "_law_way"] ["_law_drawer_here", "_law_pairs"] sc__law_schema_spoilt := ⟨rfl, rfl, rfl, by decide +kernel, rfl, by decide +kernel, by decide +kernel⟩
noncomputable def b__law_schema_spoilt (δ : FL.Loc) (μ : Mem) : OutS := (mSeq (mSet 2 (mCall m__law_drawn [(mV 0), (mC gLen [(.v 1)])] []))
    (mSeq (mAsg (tgT 2 (tgC (tgV 3) (tgC (tgV 4) tgN))) (m2 gIxL (.v 1) (.v 2)))
    (mSeq (mSet 5 (mLst [(mTup [(mV 3)]), (mTup [(mV 3), (mV 4), (mV 4)]), (mV 3), (mD .non), (mTup [(mD (.int 5)), (mV 4)]), (mTup [(mD .non), (mV 4)]), (mTup [(mD (.str (lit ""))), (mV 4)]), (mTup [(mD (.str (lit "T"))), (mV 4)])]))
    (mSeq (mSet 5 (m2 gAdd (.v 5) (.e (mLst [(mTup [(mD (.str (lit "a1"))), (mV 4)]), (mTup [(mD (.str (lit "abcdefghijklm"))), (mV 4)]), (mTup [(mV 3), (mD (.str (lit "Text")))]), (mTup [(mV 3), (mD (.str (lit "")))]), (mTup [(mV 3), (mD .non)]), (mTup [(mV 3), (mLst [(mD (.str (lit "text")))])])]))))
    (mSeq (mSet 5 (m2 gAdd (.v 5) (.e (mLst [(mTup [(mD (.str (lit "a b"))), (mV 4)]), (mTup [(mTup [(mV 3)]), (mV 4)]), (mTup [(mD (.bl true)), (mV 4)]), (mTup [(mV 3), (mD (.int 5))])]))))
    (mSeq (mSet 6 (mCall m__law_drawn [(mV 0), (mD (.int 4))] []))
    (mSeq (mIfS (mTb (m2 (gEq false) (.v 6) (.e (mD (.int 0))))) (mRet (mCall m__law_drawn_of [(mV 0), (mLst [(mD .non), (mTup []), (mLst []), (mV 1), (mFrz mDct0), (mD (.str (lit "text"))), (mD (.int 5)), (mTup [(mV 1)]), (mC gTuple [(.e (m2 gMulA (.v 1) (.e (mD (.int 7)))))]), (mFrz (mC gDictP [(.v 1)]))])] []))
    mPass)
    (mSeq (mIfS (mTb (m2 (gEq false) (.v 6) (.e (mD (.int 1))))) (mRet (mC gTuple [(.e (m2 gAdd (.v 1) (.e (mLst [(mTup [(mV 3), (mCall m__law_drawn_of [(mV 0), (mLst [(mD (.str (lit "text"))), (mD (.str (lit "number")))])] [])])]))))]))
    mPass)
    (mRet (mC gTuple [(.e (m2 gAdd (.e (m2 gAdd (.e (mSl gSl (.v 1) mNoP (mP (mV 2)))) (.e (mLst [(mCall m__law_drawn_of [(mV 0), (mV 5)] [])])))) (.e (mSl gSl (.v 1) (mP (m2 gAdd (.v 2) (.e (mD (.int 1))))) mNoP))))])))))))))) δ μ
noncomputable def m__law_schema_spoilt : MF := mFn 7 (b__law_schema_spoilt)
theorem g__law_schema_spoilt {tb : Nat → Addr} {P : Program} {w : World} {K : PySem.W.Frag} {mg : Str → Option Value} {base : Heap} {f : Addr} {fd : FuncData} (F : Fd K "_law_schema_spoilt" "_law_schema_spoilt" (tp 59) f fd .none) (T : Txt tb P w K mg base) : FnG P w K mg base (L2.CX P w) (2 + 1) f fd ["_law_drawer_here", "_law_pairs"] (spM K mg (mFn 7 (b__law_schema_spoilt)) 2) := by
  refine fnG_s (N := ["_law_drawer_here", "_law_pairs", "_law_at", "_law_name", "_law_kind", "_law_odd", "_law_way"]) (sc := sc__law_schema_spoilt) F scf__law_schema_spoilt (by kernel_rfl) rfl ?_
  intro X W hP hw hK hM hB C
  subst hP hw hK hM hB
  exact (jss_cons (C.set (by decide +kernel) (je_call C.toCs (ok__law_drawn T) (by decide +kernel) (by decide +kernel) (ja_cons (C.v (by decide +kernel)) (ja_cons (C.bi (by decide +kernel) T.n_len PySem.boot_len o_len j_len (jos_cons (C.ov (by decide +kernel)) jos_nil)) ja_nil)) rfl))
    (jss_cons (js_asg (ix_ (C.ov (by decide +kernel)) (C.ov (by decide +kernel)) (by intro _ _; rfl)) (jg_t C.calm (jgs_cons (C.tg (by decide +kernel)) (jgs_cons (C.tg (by decide +kernel)) jgs_nil))))
    (jss_cons (C.set (by decide +kernel) (je_lst (ja_cons (je_tup (ja_cons (C.v (by decide +kernel)) ja_nil)) (ja_cons (je_tup (ja_cons (C.v (by decide +kernel)) (ja_cons (C.v (by decide +kernel)) (ja_cons (C.v (by decide +kernel)) ja_nil)))) (ja_cons (C.v (by decide +kernel)) (ja_cons je_non (ja_cons (je_tup (ja_cons je_int (ja_cons (C.v (by decide +kernel)) ja_nil))) (ja_cons (je_tup (ja_cons je_non (ja_cons (C.v (by decide +kernel)) ja_nil))) (ja_cons (je_tup (ja_cons je_str (ja_cons (C.v (by decide +kernel)) ja_nil))) (ja_cons (je_tup (ja_cons je_str (ja_cons (C.v (by decide +kernel)) ja_nil))) ja_nil))))))))))
    (jss_cons (C.set (by decide +kernel) (add_ (C.ov (by decide +kernel)) (jo_e (je_lst (ja_cons (je_tup (ja_cons je_str (ja_cons (C.v (by decide +kernel)) ja_nil))) (ja_cons (je_tup (ja_cons je_str (ja_cons (C.v (by decide +kernel)) ja_nil))) (ja_cons (je_tup (ja_cons (C.v (by decide +kernel)) (ja_cons je_str ja_nil))) (ja_cons (je_tup (ja_cons (C.v (by decide +kernel)) (ja_cons je_str ja_nil))) (ja_cons (je_tup (ja_cons (C.v (by decide +kernel)) (ja_cons je_non ja_nil))) (ja_cons (je_tup (ja_cons (C.v (by decide +kernel)) (ja_cons (je_lst (ja_cons je_str ja_nil)) ja_nil))) ja_nil))))))))))
    (jss_cons (C.set (by decide +kernel) (add_ (C.ov (by decide +kernel)) (jo_e (je_lst (ja_cons (je_tup (ja_cons je_str (ja_cons (C.v (by decide +kernel)) ja_nil))) (ja_cons (je_tup (ja_cons (je_tup (ja_cons (C.v (by decide +kernel)) ja_nil)) (ja_cons (C.v (by decide +kernel)) ja_nil))) (ja_cons (je_tup (ja_cons je_bl (ja_cons (C.v (by decide +kernel)) ja_nil))) (ja_cons (je_tup (ja_cons (C.v (by decide +kernel)) (ja_cons je_int ja_nil))) ja_nil))))))))
    (jss_cons (C.set (by decide +kernel) (je_call C.toCs (ok__law_drawn T) (by decide +kernel) (by decide +kernel) (ja_cons (C.v (by decide +kernel)) (ja_cons je_int ja_nil)) rfl))
    (jss_cons (js_if (C.eqT (C.ov (by decide +kernel)) (jo_e je_int)) (jss_one (js_ret (je_call C.toCs (ok__law_drawn_of T) (by decide +kernel) (by decide +kernel) (ja_cons (C.v (by decide +kernel)) (ja_cons (je_lst (ja_cons je_non (ja_cons (je_tup ja_nil) (ja_cons (je_lst ja_nil) (ja_cons (C.v (by decide +kernel)) (ja_cons (je_frz je_dict0) (ja_cons je_str (ja_cons je_int (ja_cons (je_tup (ja_cons (C.v (by decide +kernel)) ja_nil)) (ja_cons (C.bt (by decide +kernel) T.n_tuple (by decide +kernel) o_tuple j_tuple (jos_cons (jo_e (mul_ (C.ov (by decide +kernel)) (jo_e je_int))) jos_nil)) (ja_cons (je_frz (C.toCs.dictP (by decide +kernel) T.n_dict (jos_cons (C.ov (by decide +kernel)) jos_nil))) ja_nil))))))))))) ja_nil)) rfl)))
    jss_nil)
    (jss_cons (js_if (C.eqT (C.ov (by decide +kernel)) (jo_e je_int)) (jss_one (js_ret (C.bt (by decide +kernel) T.n_tuple (by decide +kernel) o_tuple j_tuple (jos_cons (jo_e (add_ (C.ov (by decide +kernel)) (jo_e (je_lst (ja_cons (je_tup (ja_cons (C.v (by decide +kernel)) (ja_cons (je_call C.toCs (ok__law_drawn_of T) (by decide +kernel) (by decide +kernel) (ja_cons (C.v (by decide +kernel)) (ja_cons (je_lst (ja_cons je_str (ja_cons je_str ja_nil))) ja_nil)) rfl) ja_nil))) ja_nil))))) jos_nil))))
    jss_nil)
    (jss_one (js_ret (C.bt (by decide +kernel) T.n_tuple (by decide +kernel) o_tuple j_tuple (jos_cons (jo_e (add_ (jo_e (add_ (jo_e (slice_ (C.ov (by decide +kernel)) jp_none (jp_some (C.v (by decide +kernel))))) (jo_e (je_lst (ja_cons (je_call C.toCs (ok__law_drawn_of T) (by decide +kernel) (by decide +kernel) (ja_cons (C.v (by decide +kernel)) (ja_cons (C.v (by decide +kernel)) ja_nil)) rfl) ja_nil))))) (jo_e (slice_ (C.ov (by decide +kernel)) (jp_some (add_ (C.ov (by decide +kernel)) (jo_e je_int))) jp_none)))) jos_nil))))))))))))
theorem bd__law_schema_spoilt {K : PySem.W.Frag} {f : Addr} {fd : FuncData} (F : Fd K "_law_schema_spoilt" "_law_schema_spoilt" (tp 59) f fd .none) : Binds K fd ["_law_drawer_here", "_law_pairs"] [] :=
  F.binds fun _ _ _ _ _ _ us hl => match us, hl with | [_, _], _ => by kernel_rfl
theorem ok__law_schema_spoilt {tb : Nat → Addr} {P : Program} {w : World} {K : PySem.W.Frag} {mg : Str → Option Value} {base : Heap} (T : Txt tb P w K mg base) : Fu P w K mg base 3 "_law_schema_spoilt" m__law_schema_spoilt 2 [] := by
  obtain ⟨f, fd, F, hm, hk⟩ := T.d__law_schema_spoilt
  exact Fu.mk0 (g__law_schema_spoilt F T) hm hk (bd__law_schema_spoilt F)
def sc__law_error_of : Scope := { kind := .function, names := [("_law_deed", .local), ("_law_caught", .local), ("_law_found", .local), ("error", .local), ("_law_words", .local), ("Invalid", .globalImplicit), ("Unfit", .globalImplicit), ("Excess", .globalImplicit), ("isinstance", .globalImplicit), ("NoDocument", .globalImplicit), ("TooMany", .globalImplicit), ("NoField", .globalImplicit), ("WrongKind", .globalImplicit), ("BadField", .globalImplicit), ("BadQuery", .globalImplicit), ("BadKey", .globalImplicit), ("BadDocument", .globalImplicit), ("BadNumber", .globalImplicit), ("NoSegment", .globalImplicit), ("BadChange", .globalImplicit), ("BadSchema", .globalImplicit), ("len", .globalImplicit)], isGenerator := false, isCoroutine := false, more := [("fast", .str "_law_deed"), ("fast", .str "_law_caught"), ("fast", .str "_law_found"), ("fast", .str "error"), ("fast", .str "_law_words"), ("fast", .str "_law_word"), ("fast", .str "_law_is_so")] }
theorem scf__law_error_of : FnScope ["_law_deed", "_law_caught", "_law_found", "error", "_law_words", "_law_word", "_law_is_so"] ["_law_deed"] sc__law_error_of := ⟨rfl, rfl, rfl, by decide +kernel, rfl, by decide +kernel, by decide +kernel⟩
def q__law_error_of : Nat → Pos := fun i => match i with
  | 0 => ⟨324, 4, 324, 15⟩
  | 1 => ⟨324, 17, 324, 27⟩
  | 2 => ⟨324, 4, 324, 27⟩
  | 3 => ⟨324, 31, 324, 35⟩
  | 4 => ⟨324, 37, 324, 41⟩
  | 5 => ⟨324, 30, 324, 42⟩
  | 6 => ⟨324, 4, 324, 42⟩
  | 7 => ⟨326, 8, 326, 18⟩
  | 8 => ⟨326, 21, 326, 30⟩
  | 9 => ⟨326, 21, 326, 32⟩
  | 10 => ⟨326, 8, 326, 32⟩
  | 11 => ⟨327, 12, 327, 19⟩
  | 12 => ⟨327, 21, 327, 26⟩
  | 13 => ⟨327, 28, 327, 34⟩
  | 14 => ⟨327, 11, 327, 35⟩
  | 15 => ⟨328, 8, 328, 19⟩
  | 16 => ⟨328, 22, 328, 27⟩
  | 17 => ⟨328, 8, 328, 27⟩
  | 18 => ⟨327, 4, 328, 27⟩
  | 19 => ⟨325, 4, 328, 27⟩
  | _ => ⟨0, 0, 0, 0⟩
noncomputable def t1__law_error_of (δ : FL.Loc) (μ : Mem) : Out Bool := (mTb (mV 6)) δ μ
noncomputable def e2__law_error_of (δ : FL.Loc) (μ : Mem) : Out FL.Slot := (mV 5) δ μ
noncomputable def r__law_error_of (δ : FL.Loc) (μ : Mem) : OutS := (mSeq (mIfS (mTb (m2 (gIsN false) (.v 1) (.e (mD .non)))) (mRet (mLst [(mV 2)]))
    mPass)
    (mSeq (mIfS (mTb (mIsXT isX ["NoDocument", "TooMany"] (.v 1))) (mRet (mIf (mTb (mC (gIsX isX) [(.v 1), (.e (mD (.glo "NoDocument")))])) (mTup [(mD (.str (lit "absent"))), (mXat ["NoDocument"] "absent" (.v 1))]) (mTup [(mD (.str (lit "many"))), (mXat ["TooMany"] "most" (.v 1))])))
    mPass)
    (mSeq (mIfS (mTb (mIsXT isX ["NoField", "WrongKind"] (.v 1))) (mRet (mIf (mTb (mC (gIsX isX) [(.v 1), (.e (mD (.glo "NoField")))])) (mTup [(mD (.str (lit "field"))), (mXat ["NoField"] "missing" (.v 1))]) (mTup [(mD (.str (lit "kind"))), (mXat ["WrongKind"] "mistaken" (.v 1))])))
    mPass)
    (mSeq (mSet 4 (mLst [(mTup [(mD (.str (lit "bad field"))), (mC (gIsX isX) [(.v 1), (.e (mD (.glo "BadField")))])]), (mTup [(mD (.str (lit "query"))), (mC (gIsX isX) [(.v 1), (.e (mD (.glo "BadQuery")))])])]))
    (mSeq (mSet 4 (m2 gAdd (.v 4) (.e (mLst [(mTup [(mD (.str (lit "key"))), (mC (gIsX isX) [(.v 1), (.e (mD (.glo "BadKey")))])]), (mTup [(mD (.str (lit "document"))), (mC (gIsX isX) [(.v 1), (.e (mD (.glo "BadDocument")))])])]))))
    (mSeq (mSet 4 (m2 gAdd (.v 4) (.e (mLst [(mTup [(mD (.str (lit "number"))), (mC (gIsX isX) [(.v 1), (.e (mD (.glo "BadNumber")))])]), (mTup [(mD (.str (lit "segment"))), (mC (gIsX isX) [(.v 1), (.e (mD (.glo "NoSegment")))])])]))))
    (mSeq (mSet 4 (m2 gAdd (.v 4) (.e (mLst [(mTup [(mD (.str (lit "change"))), (mC (gIsX isX) [(.v 1), (.e (mD (.glo "BadChange")))])]), (mTup [(mD (.str (lit "schema"))), (mC (gIsX isX) [(.v 1), (.e (mD (.glo "BadSchema")))])])]))))
    (mSeq (mSet 2 (mLc (mIt (mV 4)) (tgT 2 (tgC (tgV 5) (tgC (tgV 6) tgN))) t1__law_error_of e2__law_error_of [5, 6]))
    (mRet (mIf (mTb (m2 (gEq false) (.e (mC gLen [(.v 2)])) (.e (mD (.int 1))))) (mTup [(m2 gIxL (.v 2) (.e (mD (.int 0)))), (mD (.str (lit "")))]) (mTup [(mD (.str (lit "other"))), (mD (.str (lit "")))]))))))))))) δ μ
noncomputable def m__law_error_of : (Mem → OutF) → Mem → OutF := mHelpE sub__law_error_of 3 r__law_error_of
theorem bd__law_error_of {K : PySem.W.Frag} {f : Addr} {fd : FuncData} (F : Fd K "_law_error_of" "_law_error_of" (tp 57) f fd .none) : Binds K fd ["_law_deed"] [] :=
  F.binds fun _ _ _ _ _ _ us hl => match us, hl with | [_], _ => by kernel_rfl
theorem ok__law_error_of {tb : Nat → Addr} {P : Program} {w : World} {K : PySem.W.Frag} {mg : Str → Option Value} {base : Heap} {k : Nat} (T : Txt tb P w K mg base) : Hlp P w K mg base (k + 1) "_law_error_of" m__law_error_of := by
  obtain ⟨f, fd, F, hm, hk⟩ := T.d__law_error_of
  obtain ⟨C1, C2, C3, h1, h2, h3, hS⟩ := T.s__law_error_of
  refine hlpE_of (a := "_law_deed") (caught := "_law_caught") (found := "_law_found") (err := "error") (more := ["_law_words", "_law_word", "_law_is_so"]) (e1 := "Invalid") (e2 := "Unfit") (e3 := "Excess") (j1 := 0) (j2 := 0) (kt := 0) (k2 := 0) (ke := 0) (q := q__law_error_of) (rest := (defBody (tp 57)).drop 2) (sc := sc__law_error_of) F scf__law_error_of (by kernel_rfl) (by kernel_rfl) hm hk (bd__law_error_of F) (by decide +kernel) (by decide +kernel) (by decide +kernel) h1 h2 h3 hS (by decide +kernel) (by decide +kernel) (by decide +kernel) (by decide +kernel) (by decide +kernel) (by intro env he; simp only [swappedStores, Env.blockKind, Env.kindOf, he]; rfl) ?_
  intro X W hP hw hK hM hB C
  subst hP hw hK hM hB
  exact (jss_cons (js_if (isNT (C.ov (by decide +kernel)) (jo_e je_non)) (jss_one (js_ret (je_lst (ja_cons (C.v (by decide +kernel)) ja_nil))))
    jss_nil)
    (jss_cons (js_if (jt_e (C.toCs.isXT (by decide +kernel) T.n_isinstance (by simp) (by decide) (fun d hd => by
      simp only [List.mem_cons, List.not_mem_nil, or_false] at hd
      rcases hd with rfl | rfl
      · exact T.k_NoDocument
      · exact T.k_TooMany) T.i_isa (C.ov (by decide +kernel)) (ja_cons (C.toCs.cls (by decide +kernel) T.k_NoDocument) (ja_cons (C.toCs.cls (by decide +kernel) T.k_TooMany) ja_nil)))) (jss_one (js_ret (je_if (jt_e (C.bi (by decide +kernel) T.n_isinstance (by decide +kernel) call_isX (j_isX T.i_isa T.i_all) (jos_cons (C.ov (by decide +kernel)) (jos_cons (jo_e (C.toCs.cls (by decide +kernel) T.k_NoDocument)) jos_nil)))) (je_tup (ja_cons je_str (ja_cons (je_xat T.xf_absent (C.ov (by decide +kernel))) ja_nil))) (je_tup (ja_cons je_str (ja_cons (je_xat T.xf_most (C.ov (by decide +kernel))) ja_nil))))))
    jss_nil)
    (jss_cons (js_if (jt_e (C.toCs.isXT (by decide +kernel) T.n_isinstance (by simp) (by decide) (fun d hd => by
      simp only [List.mem_cons, List.not_mem_nil, or_false] at hd
      rcases hd with rfl | rfl
      · exact T.k_NoField
      · exact T.k_WrongKind) T.i_isa (C.ov (by decide +kernel)) (ja_cons (C.toCs.cls (by decide +kernel) T.k_NoField) (ja_cons (C.toCs.cls (by decide +kernel) T.k_WrongKind) ja_nil)))) (jss_one (js_ret (je_if (jt_e (C.bi (by decide +kernel) T.n_isinstance (by decide +kernel) call_isX (j_isX T.i_isa T.i_all) (jos_cons (C.ov (by decide +kernel)) (jos_cons (jo_e (C.toCs.cls (by decide +kernel) T.k_NoField)) jos_nil)))) (je_tup (ja_cons je_str (ja_cons (je_xat T.xf_missing (C.ov (by decide +kernel))) ja_nil))) (je_tup (ja_cons je_str (ja_cons (je_xat T.xf_mistaken (C.ov (by decide +kernel))) ja_nil))))))
    jss_nil)
    (jss_cons (C.set (by decide +kernel) (je_lst (ja_cons (je_tup (ja_cons je_str (ja_cons (C.bi (by decide +kernel) T.n_isinstance (by decide +kernel) call_isX (j_isX T.i_isa T.i_all) (jos_cons (C.ov (by decide +kernel)) (jos_cons (jo_e (C.toCs.cls (by decide +kernel) T.k_BadField)) jos_nil))) ja_nil))) (ja_cons (je_tup (ja_cons je_str (ja_cons (C.bi (by decide +kernel) T.n_isinstance (by decide +kernel) call_isX (j_isX T.i_isa T.i_all) (jos_cons (C.ov (by decide +kernel)) (jos_cons (jo_e (C.toCs.cls (by decide +kernel) T.k_BadQuery)) jos_nil))) ja_nil))) ja_nil))))
    (jss_cons (C.set (by decide +kernel) (add_ (C.ov (by decide +kernel)) (jo_e (je_lst (ja_cons (je_tup (ja_cons je_str (ja_cons (C.bi (by decide +kernel) T.n_isinstance (by decide +kernel) call_isX (j_isX T.i_isa T.i_all) (jos_cons (C.ov (by decide +kernel)) (jos_cons (jo_e (C.toCs.cls (by decide +kernel) T.k_BadKey)) jos_nil))) ja_nil))) (ja_cons (je_tup (ja_cons je_str (ja_cons (C.bi (by decide +kernel) T.n_isinstance (by decide +kernel) call_isX (j_isX T.i_isa T.i_all) (jos_cons (C.ov (by decide +kernel)) (jos_cons (jo_e (C.toCs.cls (by decide +kernel) T.k_BadDocument)) jos_nil))) ja_nil))) ja_nil))))))
    (jss_cons (C.set (by decide +kernel) (add_ (C.ov (by decide +kernel)) (jo_e (je_lst (ja_cons (je_tup (ja_cons je_str (ja_cons (C.bi (by decide +kernel) T.n_isinstance (by decide +kernel) call_isX (j_isX T.i_isa T.i_all) (jos_cons (C.ov (by decide +kernel)) (jos_cons (jo_e (C.toCs.cls (by decide +kernel) T.k_BadNumber)) jos_nil))) ja_nil))) (ja_cons (je_tup (ja_cons je_str (ja_cons (C.bi (by decide +kernel) T.n_isinstance (by decide +kernel) call_isX (j_isX T.i_isa T.i_all) (jos_cons (C.ov (by decide +kernel)) (jos_cons (jo_e (C.toCs.cls (by decide +kernel) T.k_NoSegment)) jos_nil))) ja_nil))) ja_nil))))))
    (jss_cons (C.set (by decide +kernel) (add_ (C.ov (by decide +kernel)) (jo_e (je_lst (ja_cons (je_tup (ja_cons je_str (ja_cons (C.bi (by decide +kernel) T.n_isinstance (by decide +kernel) call_isX (j_isX T.i_isa T.i_all) (jos_cons (C.ov (by decide +kernel)) (jos_cons (jo_e (C.toCs.cls (by decide +kernel) T.k_BadChange)) jos_nil))) ja_nil))) (ja_cons (je_tup (ja_cons je_str (ja_cons (C.bi (by decide +kernel) T.n_isinstance (by decide +kernel) call_isX (j_isX T.i_isa T.i_all) (jos_cons (C.ov (by decide +kernel)) (jos_cons (jo_e (C.toCs.cls (by decide +kernel) T.k_BadSchema)) jos_nil))) ja_nil))) ja_nil))))))
    (jss_cons (Cs.setLc (Tx := Txt tb) C.toCs T [("_law_word", 5), ("_law_is_so", 6)] (by decide +kernel) (by rfl) (by rfl) (by rfl) (by decide +kernel) (ji_any (C.v (by decide +kernel))) (by decide +kernel) (fun Y T1 C1 => ⟨(jg_t C1.calm (jgs_cons (C1.tg (by decide +kernel)) (jgs_cons (C1.tg (by decide +kernel)) jgs_nil))), (jts_one (jt_e (C1.v (by decide +kernel)))), (C1.v (by decide +kernel))⟩) (by rfl))
    (jss_one (js_ret (je_if (C.eqT (jo_e (C.bi (by decide +kernel) T.n_len PySem.boot_len o_len j_len (jos_cons (C.ov (by decide +kernel)) jos_nil))) (jo_e je_int)) (je_tup (ja_cons (ix_ (C.ov (by decide +kernel)) (jo_e je_int) (by intro _ _; rfl)) (ja_cons je_str ja_nil))) (je_tup (ja_cons je_str (ja_cons je_str ja_nil))))))))))))))
theorem cl_Index_0_schema {tb : Nat → Addr} {P : Program} {w : World} {K : PySem.W.Frag} {mg : Str → Option Value} {base : Heap} (T : Txt tb P w K mg base) : ClW P w K mg base 5 "Index" 0 ["schema"] [.key 0] m_iIndex 1 [] := by
  obtain ⟨fd, F⟩ := T.f_iIndex
  exact clW_of T.c_Index T.mk_Index (g_iIndex F T) (F.bind1 fun _ _ _ _ _ _ s x us ws _ h1 h2 => match us, ws, h1, h2 with | [], [_], _, _ => .of_eq (by kernel_rfl)) .nil (fun _ _ => .nil) rfl rfl
def sc_law : Scope := { kind := .function, names := [("_law_script", .local), ("_law_k", .local), ("_law_drawer_here", .local), ("_law_pairs", .local), ("_law_index", .local), ("_law_told", .local), ("_law_turn", .local), ("_law_odd", .cell), ("_law_seven", .cell), ("range", .globalImplicit), ("max", .globalImplicit), ("min", .globalImplicit), ("len", .globalImplicit), ("_law_drawer", .globalImplicit), ("_law_fields", .globalImplicit), ("_law_drawn", .globalImplicit), ("Index", .globalImplicit), ("tuple", .globalImplicit), ("_law_schema_spoilt", .globalImplicit), ("_law_error_of", .globalImplicit)], isGenerator := false, isCoroutine := false, more := [("fast", .str "_law_script"), ("fast", .str "_law_k"), ("fast", .str "_law_drawer_here"), ("fast", .str "_law_pairs"), ("fast", .str "_law_index"), ("fast", .str "_law_told"), ("fast", .str "_law_turn"), ("fast", .str "_law_odd"), ("fast", .str "_law_seven")] }
theorem scf_law : FnScope ["_law_script", "_law_k", "_law_drawer_here", "_law_pairs", "_law_index", "_law_told", "_law_turn", "_law_odd", "_law_seven"] ["_law_script"] sc_law := ⟨rfl, rfl, rfl, by decide +kernel, rfl, by decide +kernel, by decide +kernel⟩
noncomputable def f1_law (tb : Nat → Addr) (δ : FL.Loc) (μ : Mem) : OutS := (mSeq (mSet 7 (mCall m__law_schema_spoilt [(mV 2), (mV 3)] []))
    (mIfS (mTb (m2 (gEq true) (.e (mLam m__law_error_of 0 (tb 0) "law.<locals>.<lambda>" (mCallK (mkS "Index" m_iIndex) [.pos 0] [(mV 7)] [] []))) (.e (mTup [(mD (.str (lit "schema"))), (mD (.str (lit "")))])))) (mRet (mD (.bl false)))
    mPass)) δ μ
noncomputable def f2_law (tb : Nat → Addr) (δ : FL.Loc) (μ : Mem) : OutS := (mSeq (mSet 2 (mCall m__law_drawer [(mV 0), (mV 1)] []))
    (mSeq (mSet 3 (mCall m__law_fields [(mV 2), (m2 gAdd (.e (mD (.int 1))) (.e (mCall m__law_drawn [(mV 2), (mD (.int 6))] [])))] []))
    (mSeq (mSet 4 (mCallK (mkS "Index" m_iIndex) [.pos 0] [(mC gTuple [(.v 3)])] [] []))
    (mSeq (mSet 5 (mLst [(mAt at_ "schema" (.v 4)), (mProp pt_size "size" (.v 4)), (mLenO mt___len__ (mV 4)), (mProp pt_all_keys "all_keys" (.v 4)), (mProp pt_segments "segments" (.v 4)), (mProp pt_vocabulary "vocabulary" (.v 4))]))
    (mSeq (mIfS (mTb (m2 (gEq true) (.v 5) (.e (mLst [(mC gTuple [(.v 3)]), (mD (.int 0)), (mD (.int 0)), (mTup []), (mTup []), (mD (.int 0))])))) (mRet (mD (.bl false)))
    mPass)
    (mFor (mRange1 (.e (mD (.int 4)))) (tgV 6) (f1_law tb))))))) δ μ
noncomputable def e3_law (tb : Nat → Addr) (δ : FL.Loc) (μ : Mem) : Out FL.Slot := (mTup [(m2 gIxL (.e (mD (.str (lit "abcdefg")))) (.v 1)), (mD (.str (lit "text")))]) δ μ
noncomputable def b_law (tb : Nat → Addr) (δ : FL.Loc) (μ : Mem) : OutS := (mSeq (mFor (mRange1 (.e (mC gMax2 [(.e (mD (.int 1))), (.e (mC gMin2 [(.e (mD (.int 3))), (.e (mC gLen [(.v 0)]))]))]))) (tgV 1) (f2_law tb))
    (mSeq (mSet 8 (mC gTuple [(.e (mLc (mRange1 (.e (mD (.int 7)))) (tgV 1) mYes (e3_law tb) [1]))]))
    (mSeq (mIfS (mTb (m2 (gEq true) (.e (mLam m__law_error_of 0 (tb 0) "law.<locals>.<lambda>" (mCallK (mkS "Index" m_iIndex) [.pos 0] [(mV 8)] [] []))) (.e (mTup [(mD (.str (lit "schema"))), (mD (.str (lit "")))])))) (mRet (mD (.bl false)))
    mPass)
    (mRet (m2 (gEq false) (.e (mAt at_ "schema" (.e (mCallK (mkS "Index" m_iIndex) [.key 0] [] [(mSl gSl (.v 8) mNoP (mP (mD (.int 6))))] [])))) (.e (mSl gSl (.v 8) mNoP (mP (mD (.int 6)))))))))) δ μ
noncomputable def m_law (tb : Nat → Addr) : MF := mFn 9 (b_law tb)
theorem g_law {tb : Nat → Addr} {P : Program} {w : World} {K : PySem.W.Frag} {mg : Str → Option Value} {base : Heap} {f c : Addr} {fd : FuncData} (F : FdL K "law" "law" (tp 60) f fd .none c) (TB : TabB base mg c (tb 0)) (T : Txt tb P w K mg base) : FnG P w K mg base (L2.CX P w) (8 + 1) f fd ["_law_script"] (spM K mg (mFn 9 (b_law tb)) 1) := by
  refine fnG_l (N := ["_law_script", "_law_k", "_law_drawer_here", "_law_pairs", "_law_index", "_law_told", "_law_turn", "_law_odd", "_law_seven"]) (sc := sc_law) (q := "law.<locals>.<lambda>") F TB scf_law (by kernel_rfl) rfl (fun _ => by kernel_rfl) ?_
  intro X W hP hw hK hM hB C
  subst hP hw hK hM hB
  exact (jss_cons (js_for C.hp C.calm (range1_ C.toCs (by decide +kernel) T.n_range (jos_cons (jo_e (C.bi (by decide +kernel) T.n_max (by decide +kernel) (call_max2 C.calm) j_max2 (jos_cons (jo_e je_int) (jos_cons (jo_e (C.bi (by decide +kernel) T.n_min (by decide +kernel) (call_min2 C.calm) j_min2 (jos_cons (jo_e je_int) (jos_cons (jo_e (C.bi (by decide +kernel) T.n_len PySem.boot_len o_len j_len (jos_cons (C.ov (by decide +kernel)) jos_nil))) jos_nil)))) jos_nil)))) jos_nil)) (C.tg (by decide +kernel)) (jss_cons (C.set (by decide +kernel) (je_call C.toCs (ok__law_drawer T) (by decide +kernel) (by decide +kernel) (ja_cons (C.v (by decide +kernel)) (ja_cons (C.v (by decide +kernel)) ja_nil)) rfl))
    (jss_cons (C.set (by decide +kernel) (je_call C.toCs (ok__law_fields T) (by decide +kernel) (by decide +kernel) (ja_cons (C.v (by decide +kernel)) (ja_cons (add_ (jo_e je_int) (jo_e (je_call C.toCs (ok__law_drawn T) (by decide +kernel) (by decide +kernel) (ja_cons (C.v (by decide +kernel)) (ja_cons je_int ja_nil)) rfl))) ja_nil)) rfl))
    (jss_cons (C.set (by decide +kernel) (clS C.toCs (cl_Index_1 T) (by decide) (by decide +kernel) (ja_cons (C.bt (by decide +kernel) T.n_tuple (by decide +kernel) o_tuple j_tuple (jos_cons (C.ov (by decide +kernel)) jos_nil)) ja_nil) jk_nil rfl rfl))
    (jss_cons (C.set (by decide +kernel) (je_lst (ja_cons (je_at T.atts (C.ov (by decide +kernel))) (ja_cons (C.toCs.prop (PropR.ok (pr_size T)) (by decide) (C.ov (by decide +kernel))) (ja_cons (C.toCs.lenO (by decide +kernel) T.n_len (MethR.ok (mr___len__ T)) (by decide) (C.v (by decide +kernel))) (ja_cons (C.toCs.prop (PropR.ok (pr_all_keys T)) (by decide) (C.ov (by decide +kernel))) (ja_cons (C.toCs.prop (PropR.ok (pr_segments T)) (by decide) (C.ov (by decide +kernel))) (ja_cons (C.toCs.prop (PropR.ok (pr_vocabulary T)) (by decide) (C.ov (by decide +kernel))) ja_nil))))))))
    (jss_cons (js_if (C.neT (C.ov (by decide +kernel)) (jo_e (je_lst (ja_cons (C.bt (by decide +kernel) T.n_tuple (by decide +kernel) o_tuple j_tuple (jos_cons (C.ov (by decide +kernel)) jos_nil)) (ja_cons je_int (ja_cons je_int (ja_cons (je_tup ja_nil) (ja_cons (je_tup ja_nil) (ja_cons je_int ja_nil))))))))) (jss_one (js_ret je_bl))
    jss_nil)
    (jss_one (js_for C.hp C.calm (range1_ C.toCs (by decide +kernel) T.n_range (jos_cons (jo_e je_int) jos_nil)) (C.tg (by decide +kernel)) (jss_cons (C.set (by decide +kernel) (je_call C.toCs (ok__law_schema_spoilt T) (by decide +kernel) (by decide +kernel) (ja_cons (C.v (by decide +kernel)) (ja_cons (C.v (by decide +kernel)) ja_nil)) rfl))
    (jss_one (js_if (C.neT (jo_e (C.lam0 (kh := 6) (ok__law_error_of T) (by decide) (by decide +kernel) (by decide +kernel) (C.body (Tx := (Txt tb)) T (fun Y V TL CL => (clS CL (cl_Index_1 TL) (by decide) (by decide +kernel) (ja_cons (CL.v (by decide +kernel)) ja_nil) jk_nil rfl rfl))))) (jo_e (je_tup (ja_cons je_str (ja_cons je_str ja_nil))))) (jss_one (js_ret je_bl))
    jss_nil)))))))))))
    (jss_cons (C.set (by decide +kernel) (C.bt (by decide +kernel) T.n_tuple (by decide +kernel) o_tuple j_tuple (jos_cons (jo_e (Cs.lc (Tx := Txt tb) C.toCs T [("_law_k", 1)] (range1_ C.toCs (by decide +kernel) T.n_range (jos_cons (jo_e je_int) jos_nil)) (by decide +kernel) (fun Y T1 C1 => ⟨(C1.tg (by decide +kernel)), jts_nil, (je_tup (ja_cons (ix_ (jo_e je_str) (C1.ov (by decide +kernel)) (by intro _ _; rfl)) (ja_cons je_str ja_nil)))⟩) (by rfl))) jos_nil)))
    (jss_cons (js_if (C.neT (jo_e (C.lam0 (kh := 6) (ok__law_error_of T) (by decide) (by decide +kernel) (by decide +kernel) (C.body (Tx := (Txt tb)) T (fun Y V TL CL => (clS CL (cl_Index_1 TL) (by decide) (by decide +kernel) (ja_cons (CL.v (by decide +kernel)) ja_nil) jk_nil rfl rfl))))) (jo_e (je_tup (ja_cons je_str (ja_cons je_str ja_nil))))) (jss_one (js_ret je_bl))
    jss_nil)
    (jss_one (js_ret (C.eq (jo_e (je_at T.atts (jo_e (clS0 C.toCs (cl_Index_0_schema T) (by decide) (by decide +kernel) (jk_cons (slice_ (C.ov (by decide +kernel)) jp_none (jp_some je_int)) jk_nil) rfl)))) (jo_e (slice_ (C.ov (by decide +kernel)) jp_none (jp_some je_int)))))))))
def qs_BadSchema : Nat → Pos := fun i => match i with
  | 0 => ⟨20, 8, 20, 13⟩
  | 1 => ⟨20, 8, 20, 15⟩
  | 2 => ⟨20, 8, 20, 24⟩
  | 3 => ⟨20, 25, 20, 31⟩
  | 4 => ⟨20, 8, 20, 32⟩
  | 5 => ⟨20, 8, 20, 32⟩
  | 6 => ⟨21, 8, 21, 12⟩
  | 7 => ⟨21, 8, 21, 19⟩
  | 8 => ⟨21, 22, 21, 28⟩
  | 9 => ⟨21, 8, 21, 28⟩
  | _ => ⟨0, 0, 0, 0⟩
def ss_BadSchema : Scope := { kind := .function, names := [("self", .local), ("reason", .local), ("__class__", .free), ("super", .globalImplicit)], isGenerator := false, isCoroutine := false, more := [] }
theorem sup_BadSchema : SupS PySem.Challenge.pw_findlang_k31_schemas (clsDef 0 (tp 5)) "self" "reason" "reason" qs_BadSchema ss_BadSchema := ⟨by kernel_rfl, by kernel_rfl, ⟨_, rfl, rfl⟩, by kernel_rfl, fun _ _ _ _ => ⟨_, fun _ => rfl⟩, fun _ _ _ _ _ => rfl, fun _ _ _ _ _ => rfl, rfl, rfl, rfl, by decide +kernel, by decide +kernel, by decide +kernel, by decide +kernel, by decide +kernel, by decide +kernel, ⟨by decide +kernel, by decide +kernel⟩, ⟨by decide +kernel, by decide +kernel⟩⟩
end L31
namespace FL.Ix
open PySem L2 FL
noncomputable def b_is_field_name (δ : FL.Loc) (μ : Mem) : OutS := (mRet (mCall S.m_is_made_of [(mV 0), (mD (.str (lit "abcdefghijklmnopqrstuvwxyz"))), (mD (.int 12))] [])) δ μ
noncomputable def m_is_field_name : MF := mFn 1 (b_is_field_name)
noncomputable def b_is_field_row (δ : FL.Loc) (μ : Mem) : OutS := (mSeq (mIfS (mOr (mNot (mTb (mC gIsi [(.v 0), (.e (mD (.ty "tuple")))]))) (mOr (mTb (m2 (gEq true) (.e (mC gLen [(.v 0)])) (.e (mD (.int 2))))) (mNot (mTb (mCall m_is_field_name [(m2 gIxL (.v 0) (.e (mD (.int 0))))] []))))) (mRet (mD (.bl false)))
    mPass)
    (mRet (mAndV (mC gIsi [(.e (m2 gIxL (.v 0) (.e (mD (.int 1))))), (.e (mD (.ty "str")))]) (m2 (gIn false) (.e (m2 gIxL (.v 0) (.e (mD (.int 1))))) (.e (mD (.tup ([lit "text", lit "number"].map .str)))))))) δ μ
noncomputable def m_is_field_row : MF := mFn 1 (b_is_field_row)
noncomputable def e1_need_schema (δ : FL.Loc) (μ : Mem) : Out FL.Slot := (mCall m_is_field_row [(mV 1)] []) δ μ
noncomputable def e2_need_schema (δ : FL.Loc) (μ : Mem) : Out FL.Slot := (mV 2) δ μ
noncomputable def b_need_schema (δ : FL.Loc) (μ : Mem) : OutS := (mSeq (mIfS (mOr (mNot (mTb (mC gIsi [(.v 0), (.e (mD (.ty "tuple")))]))) (mNot (mTb (mChain gLe gLe (.e (mD (.int 1))) (.e (mC gLen [(.v 0)])) (.e (mD (.int 6))))))) (mRaise "BadSchema" "reason" (mD (.str (lit "not a tuple of 1 to 6 pairs"))))
    mPass)
    (mSeq (mIfS (mNot (mTb (mC gAll [(.e (mLc (mIt (mV 0)) (tgV 1) mYes e1_need_schema [1]))]))) (mRaise "BadSchema" "reason" (mD (.str (lit "not pairs of a field name and a kind"))))
    mPass)
    (mIfS (mTb (m2 gLt (.e (mC gLenS [(.e (mLc (mIt (mV 0)) (tgT 2 (tgC (tgV 2) (tgC (tgV 3) tgN))) mYes e2_need_schema [2, 3]))])) (.e (mC gLen [(.v 0)])))) (mRaise "BadSchema" "reason" (mD (.str (lit "a field name occurs twice"))))
    mPass))) δ μ
noncomputable def m_need_schema : MF := mFn 4 (b_need_schema)
noncomputable def b_iView (at_ : String → String → Att) (δ : FL.Loc) (μ : Mem) : OutS := (mSeq (mStF at_ "schema" (.v 0) (mV 1))
    (mStF at_ "kept" (.v 0) (mFrz mDct0))) δ μ
noncomputable def m_iView (at_ : String → String → Att) : MF := mFn 2 (b_iView at_)
noncomputable def b_iIndex (at_ : String → String → Att) (δ : FL.Loc) (μ : Mem) : OutS := (mSeq (mEx (mCall m_need_schema [(mV 1)] []))
    (mSeq (mSuper "Index" (m_iView at_) [(mV 1)])
    (mStF at_ "pieces" (.v 0) (mLst [])))) δ μ
noncomputable def m_iIndex (at_ : String → String → Att) : MF := mFn 2 (b_iIndex at_)
noncomputable def b_View_all_keys (at_ : String → String → Att) (δ : FL.Loc) (μ : Mem) : OutS := (mRet (mC gTuple [(.e (mC gSortK [(.e (mAt at_ "kept" (.v 0)))]))])) δ μ
noncomputable def m_View_all_keys (at_ : String → String → Att) : MF := mFn 1 (b_View_all_keys at_)
noncomputable def t1_live_entries (at_ : String → String → Att) (δ : FL.Loc) (μ : Mem) : Out Bool := (mTb (mEqI ["Entry"] (mGet1 (.v 1) (.e (mAt at_ "label" (.v 2)))) (mV 2))) δ μ
noncomputable def e2_live_entries (δ : FL.Loc) (μ : Mem) : Out FL.Slot := (mV 2) δ μ
noncomputable def b_live_entries (at_ : String → String → Att) (δ : FL.Loc) (μ : Mem) : OutS := (mRet (mLc (mIt (mAt at_ "added" (.v 0))) (tgV 2) (t1_live_entries at_) e2_live_entries [2])) δ μ
noncomputable def m_live_entries (at_ : String → String → Att) : MF := mFn 3 ((b_live_entries at_))
noncomputable def b_segment_row (at_ : String → String → Att) (δ : FL.Loc) (μ : Mem) : OutS := (mSeq (mSet 2 (mC gLen [(.e (mCall (m_live_entries at_) [(mV 0), (mV 1)] []))]))
    (mRet (mTup [(mV 2), (m2 gSub (.e (mC gLen [(.e (mAt at_ "added" (.v 0)))])) (.v 2)), (mAt at_ "is_open" (.v 0))]))) δ μ
noncomputable def m_segment_row (at_ : String → String → Att) : MF := mFn 3 ((b_segment_row at_))
noncomputable def e1_Index_segments (at_ : String → String → Att) (δ : FL.Loc) (μ : Mem) : Out FL.Slot := (mCall (m_segment_row at_) [(mV 1), (mAt at_ "kept" (.v 0))] []) δ μ
noncomputable def b_Index_segments (at_ : String → String → Att) (δ : FL.Loc) (μ : Mem) : OutS := (mRet (mC gTuple [(.e (mLc (mIt (mAt at_ "pieces" (.v 0))) (tgV 1) mYes (e1_Index_segments at_) [1]))])) δ μ
noncomputable def m_Index_segments (at_ : String → String → Att) : MF := mFn 2 (b_Index_segments at_)
noncomputable def b_sr___len__ (at_ : String → String → Att) (δ : FL.Loc) (μ : Mem) : OutS := (mRet (mC gLenD [(.e (mAt at_ "kept" (.v 0)))])) δ μ
noncomputable def m_sr___len__ (at_ : String → String → Att) : MF := mFn 1 (b_sr___len__ at_)
end FL.Ix
namespace FL
section
variable {δ : FL.Loc} {μ : Mem} {m md mk mv ma mb : ME} {oo ob oc : Opn} {ms : List ME} {ml : MM (List D)} {cs : List String} {i : Nat}
@[simp] theorem ev_Frz : mFrz m δ μ = (m δ μ).bind fun s δ1 μ1 => match s with | .own (.dct ks ds) => if ks.length = ds.length then .ok (.fr (.dcf ks ds)) δ1 μ1 else .bad | _ => .bad := rfl
@[simp] theorem ev_Get1 : mGet1 oo ob δ μ = (oo.ev δ μ).bind fun ra δ1 μ1 => match ra.at δ1 μ1 with
  | some d0 => if isDct d0 = true then (ob.ev δ1 μ1).bind fun rb δ2 μ2 => match ra.at δ2 μ2, rb.at δ2 μ2 with
    | some da, some db => lift (gGet1 da db) δ2 μ2
    | _, _ => .bad
    else .bad
  | none => .bad := rfl
@[simp] theorem ev_EqI : mEqI cs ma mb δ μ = (ma δ μ).bind fun sa δ1 μ1 => (mb δ1 μ1).bind fun sb δ2 μ2 => match idD cs μ2 sa.d sb.d with
  | some r => .ok (.fr (.bl r)) δ2 μ2
  | none => .bad := rfl
@[simp] theorem ev_ValsF : mValsF m δ μ = (m δ μ).bind fun s δ1 μ1 => match s.d with | .fx .df ks ds => if ks.length = ds.length then .ok ds δ1 μ1 else .bad | _ => .bad := rfl
@[simp] theorem ev_LenO {mt : String → String → Nat → Option MF} : mLenO mt m δ μ = (m δ μ).bind fun s δ1 μ1 => match insOf μ1 s.d with
  | some (c, _, _) => (match mt c "__len__" 0 with
    | some m => (match m [s.d] μ1 with
      | .ok (.fr (.int i)) μ2 => if 0 ≤ i ∧ i < 2 ^ 62 then .ok (.fr (.int i)) δ1 μ2 else .bad
      | _ => .bad)
    | none => .bad)
  | none => .bad := rfl
end
theorem mergeA_acc : ∀ (kds acc : List (DK × D)), ((acc ++ kds).map (·.1)).Nodup → FL.mergeA acc kds = acc ++ kds
  | [], acc, _ => by simp [FL.mergeA]
  | p :: r, acc, h => by
    have hn : (acc.any fun q => decide (q.1 = p.1)) = false := by
      rw [List.any_eq_false]
      intro q hq
      simp only [decide_eq_true_eq]
      intro e
      simp only [List.map_append, List.map_cons, List.nodup_append] at h
      exact h.2.2 q.1 (List.mem_map_of_mem hq) p.1 (List.mem_cons_self) e
    have e : FL.mergeA acc (p :: r) = FL.mergeA (acc ++ [p]) r := by
      simp [FL.mergeA, putA, hn]
    rw [e, mergeA_acc r (acc ++ [p]) (by simpa using h)]
    simp
theorem mergeA_nil {kds : List (DK × D)} (h : (kds.map (·.1)).Nodup) : FL.mergeA [] kds = kds := by
  simpa using mergeA_acc kds [] (by simpa using h)
theorem nod_tx {α : Type} {f : α → Tx} {g : α → D} {l : List α} (h : (l.map f).Nodup) : ((l.map fun q => ((.s (f q) : DK), g q)).map (·.1)).Nodup := by
  rw [List.map_map]
  have : ((fun (p : DK × D) => p.1) ∘ fun q : α => ((.s (f q) : DK), g q)) = (fun a : Tx => DK.s a) ∘ f := rfl
  rw [this, ← List.map_map]
  exact List.Pairwise.map _ (fun a b hab z => hab (DK.s.inj z)) h
end FL
namespace FL.Ix
open PySem L2 FL
abbrev LET : Tx := lit "abcdefghijklmnopqrstuvwxyz"
def Ky (k : Tx) : Prop := Made k LET 12
instance {k : Tx} : Decidable (Ky k) := inferInstanceAs (Decidable (Made k LET 12))
section
variable {μ : Mem} {k : Tx}
theorem Ky.len (h : Ky k) : k.length ≤ 12 := by
  obtain ⟨_, h2, _⟩ := h
  omega
theorem made_ky (h : Ky k) : S.m_is_made_of [.str k, .str LET, .int 12] μ = .ok (.fr (.bl true)) μ := by
  have e := made_str (x := k) (s := LET) (n := 12) (μ := μ) (by have := h.len; omega)
  rw [decide_eq_true (show Made k LET 12 from h)] at e
  exact e
theorem fieldName (h : Ky k) : m_is_field_name [.str k] μ = .ok (.fr (.bl true)) μ := by
  simp [m_is_field_name, b_is_field_name, startD, made_ky h]
abbrev Sch := List (Tx × Tx)
def schD (sc : Sch) : D := .rc (sc.map fun p => .tup [.str p.1, .str p.2])
@[simp] theorem look_sch {sc : Sch} {μ : Mem} : look μ (schD sc) = some (schD sc) := rfl
structure SchOk (sc : Sch) : Prop where
  n1 : 1 ≤ sc.length
  n2 : sc.length ≤ 6
  nm : ∀ p ∈ sc, Ky p.1 ∧ (p.2 = lit "text" ∨ p.2 = lit "number")
  nod : (sc.map (·.1)).Nodup
theorem kindIn {b : Tx} (h : b = lit "text" ∨ b = lit "number") : gIn false (.str b) (.tup ([lit "text", lit "number"].map .str)) = some (.fr (.bl true)) := by
  rcases h with rfl | rfl <;> rfl
theorem fieldRow {a b : Tx} (h1 : Ky a) (h2 : b = lit "text" ∨ b = lit "number") : m_is_field_row [.tup [.str a, .str b]] μ = .ok (.fr (.bl true)) μ := by
  have a1 : gIsi [.tup [.str a, .str b], .ty "tuple"] = some (.fr (.bl true)) := by rfl
  have a2 : gLen [.tup [.str a, .str b]] = some (.fr (.int 2)) := by rfl
  have a3 : gEq true (.int 2) (.int 2) = some (.fr (.bl false)) := by rfl
  have a4 : gIxL (.tup [.str a, .str b]) (.int 0) = some (.fr (.str a)) := by rfl
  have a5 : gIxL (.tup [.str a, .str b]) (.int 1) = some (.fr (.str b)) := by rfl
  have a6 : gIsi [.str b, .ty "str"] = some (.fr (.bl true)) := by rfl
  have a7 := kindIn h2
  simp only [List.map_cons, List.map_nil] at a7
  simp [m_is_field_row, b_is_field_row, startD, a1, a2, a3, a4, a5, a6, a7, fieldName h1]
theorem tx_strs (xs : List Tx) : (xs.map D.str).all isTx = true := by
  induction xs with
  | nil => rfl
  | cons x xs ih => rw [List.map_cons, List.all_cons, ih]; rfl
end
end FL.Ix
namespace FL.Ix
open PySem L2 FL
theorem insT_len : ∀ (xs acc : List Tx), (∀ x ∈ xs, x ∉ acc) → xs.Nodup → (xs.foldl insT acc).length = acc.length + xs.length
  | [], acc, _, _ => rfl
  | x :: xs, acc, h, n => by
    have n1 := List.nodup_cons.mp n
    have e : insT acc x = x :: acc := if_neg (h x List.mem_cons_self)
    rw [List.foldl_cons, e, insT_len xs (x :: acc) (fun y hy z => by
      rcases List.mem_cons.mp z with z | z
      · exact n1.1 (z ▸ hy)
      · exact h y (List.mem_cons_of_mem _ hy) z) n1.2, List.length_cons, List.length_cons]
    omega
section
variable {μ : Mem} {k : Tx} {sc : Sch}
theorem sch_pairs : ∀ sc : Sch, pairsD (sc.map fun p => .tup [.str p.1, .str p.2]) = some (sc.map fun p => (.s p.1, .str p.2))
  | [] => rfl
  | p :: r => by
    rw [List.map_cons]
    unfold pairsD
    rw [sch_pairs r]
    rfl
inductive VOk : Tx → D → Prop
  | t {x : Tx} (a : ∀ c ∈ x, c < 128) (l : x.length ≤ 400) : VOk (lit "text") (.str x)
  | n {i : Int} (a : -1000000000 ≤ i) (b : i ≤ 1000000000) : VOk (lit "number") (.int i)
abbrev Doc := List (Tx × D)
abbrev docK (dc : Doc) : List DK := dc.map fun p => .s p.1
abbrev docV (dc : Doc) : List D := dc.map (·.2)
def docD (dc : Doc) : D := .dcf (docK dc) (docV dc)
@[simp] theorem look_doc {dc : Doc} : look μ (docD dc) = some (docD dc) := rfl
structure DocOk (sc : Sch) (dc : Doc) : Prop where
  ok : ∀ p ∈ dc, ∃ q, (p.1, q) ∈ sc ∧ VOk q p.2
  nod : (dc.map (·.1)).Nodup
  len : dc.length ≤ 6
def txV : D → Option Tx
  | .str x => some x
  | _ => none
def txF (dc : Doc) : List (Tx × Tx) := dc.filterMap fun p => (txV p.2).map fun x => (p.1, x)
def wdP (dc : Doc) : List (DK × D) := (txF dc).map fun p => (.s p.1, .tup ((wordsT p.2).map .str))
abbrev wdO (dc : Doc) : Own := dctO (wdP dc)
abbrev ksE : List String := ["label", "kept_document", "field_words"]
end
end FL.Ix
namespace FL.Ix
open PySem L2 FL
section
variable {at_ : String → String → Att} {μ : Mem} {k : Tx} {sc : Sch} {dc : Doc}
abbrev ksI : List String := ["schema", "kept", "pieces"]
abbrev ksS : List String := ["added", "is_open"]
abbrev sgD (es : List D) (o : Bool) : D := .ins "Segment" ksS [.lst es, .bl o]
end
end FL.Ix
namespace FL.Ix
open PySem L2 FL
abbrev Pc := List (Tx × Nat) × Bool
abbrev obs (l : List (Tx × Nat)) : List D := l.map fun p => .obj p.2
abbrev pcD (q : Pc) : D := sgD (obs q.1) q.2
structure En where
  k : Tx
  n : Nat
  d : Doc
def kpP (es : List En) : List (DK × D) := es.map fun e => (.s e.k, .obj e.n)
@[simp] theorem kp_len {es : List En} : (kpP es).length = es.length := by simp [kpP]
def kpD (es : List En) : D := .dcf ((kpP es).map (·.1)) ((kpP es).map (·.2))
@[simp] theorem look_kp {es : List En} {μ : Mem} : look μ (kpD es) = some (kpD es) := rfl
@[simp] theorem kp_fold {es : List En} : D.fx .df ((kpP es).map (·.1)) ((kpP es).map (·.2)) = kpD es := rfl
structure St where
  sc : Sch
  es : List En
  ps : List Pc
abbrev idxO (S : St) (kd : Nat) : Own := .ins "Index" kd ksI [schD S.sc, kpD S.es, .lst (S.ps.map pcD)]
def EntAt (μ : Mem) (n : Nat) (k : Tx) (d : Doc) : Prop := ∃ kd w, μ[n]? = some (.ins "Entry" kd ksE [.str k, docD d, .obj w]) ∧ μ[w]? = some (wdO d)
structure IxAt (N : Nat) (μ : Mem) (ix : Nat) (S : St) : Prop where
  cell : ∃ kd, μ[ix]? = some (idxO S kd)
  sch : SchOk S.sc
  ent : ∀ e ∈ S.es, EntAt μ e.n e.k e.d ∧ Ky e.k ∧ DocOk S.sc e.d
  seg : ∀ q ∈ S.ps, ∀ p ∈ q.1, ∃ d, EntAt μ p.2 p.1 d
  nod : (S.es.map (·.k)).Nodup
  l1 : S.es.length ≤ N
  l2 : S.ps.length ≤ N
  l3 : ∀ q ∈ S.ps, q.1.length ≤ N
def Soft (μ : Mem) (i : Nat) : Prop := (∃ kd ks vs, μ[i]? = some (.ins "Index" kd ks vs)) ∨ ∃ xs, μ[i]? = some (.lst xs)
theorem Soft.ne_ent {μ : Mem} {i n kd : Nat} {ks : List String} {vs : List D} (h : Soft μ i) (e : μ[n]? = some (.ins "Entry" kd ks vs)) : n ≠ i := by
  rcases h with ⟨_, _, _, h⟩ | ⟨_, h⟩
  · exact ne_of e h (by simp)
  · exact ne_of e h (by simp)
theorem Soft.ne_dct {μ : Mem} {i n : Nat} {ks : List DK} {vs : List D} (h : Soft μ i) (e : μ[n]? = some (.dct ks vs)) : n ≠ i := by
  rcases h with ⟨_, _, _, h⟩ | ⟨_, h⟩
  · exact ne_of e h (by simp)
  · exact ne_of e h (by simp)
theorem EntAt.agr {μ μ' : Mem} {n : Nat} {k : Tx} {d : Doc} {A : List Nat} (h : EntAt μ n k d) (a : Agr A μ μ') (hA : ∀ i ∈ A, Soft μ i) : EntAt μ' n k d := by
  obtain ⟨kd, w, h1, h2⟩ := h
  exact ⟨kd, w, a.at_ _ _ h1 fun z => (hA _ z).ne_ent h1 rfl, a.at_ _ _ h2 fun z => (hA _ z).ne_dct h2 rfl⟩
theorem IxAt.agr {N ix : Nat} {μ μ' : Mem} {S : St} {A : List Nat} (h : IxAt N μ ix S) (a : Agr A μ μ') (hA : ∀ i ∈ A, Soft μ i) (hx : ix ∉ A) : IxAt N μ' ix S := by
  obtain ⟨kd, hc⟩ := h.cell
  exact ⟨⟨kd, a.at_ _ _ hc hx⟩, h.sch, fun e he => ⟨(h.ent e he).1.agr a hA, (h.ent e he).2⟩, fun q hq p hp => let ⟨d, z⟩ := h.seg q hq p hp; ⟨d, z.agr a hA⟩, h.nod, h.l1, h.l2, h.l3⟩
theorem IxAt.mono {N M ix : Nat} {μ : Mem} {S : St} (h : IxAt N μ ix S) (hN : N ≤ M) : IxAt M μ ix S := ⟨h.cell, h.sch, h.ent, h.seg, h.nod, by have := h.l1; omega, by have := h.l2; omega, fun q hq => by have := h.l3 q hq; omega⟩
section
variable {at_ : String → String → Att} {r1 : MS} {N ix : Nat} {μ : Mem} {S : St} {k : Tx}
abbrev St.keys (S : St) : List Tx := ordT (S.es.map (·.k))
end
end FL.Ix
namespace FL
section
variable {δ : FL.Loc} {μ : Mem} {md mk mv m : ME} {mi : MM (List D)} {f : TgF} {t : MT} {vs : List Nat}
@[simp] theorem ev_Dc : mDc mi f t mk mv vs δ μ = (mi δ μ).bind fun ds δ1 μ1 => dcD f t mk mv vs ds [] (wipeD δ1 vs) μ1 := rfl
end
end FL
namespace FL.Ix
open PySem L2 FL
def St.drop (S : St) (k : Tx) : St := { S with es := S.es.filter fun e => decide (e.k ≠ k) }
end FL.Ix
namespace FL.Ix
open PySem L2 FL
def vEq : D → D → Bool
  | .str x, .str y => decide (x = y)
  | .int i, .int j => decide (i = j)
  | _, _ => false
def docIn (b : Doc) (p : Tx × D) : Bool := match b.find? fun q => decide (q.1 = p.1) with
  | some q => vEq p.2 q.2
  | none => false
def docEq (a b : Doc) : Bool := decide (a.length = b.length) && a.all (docIn b)
def enIn (T : St) (e : En) : Bool := match T.es.find? fun x => decide (x.k = e.k) with
  | some x => docEq e.d x.d
  | none => false
def same (S T : St) : Bool := decide (S.keys = T.keys) && S.es.all (enIn T)
theorem Ky.ascii {k : Tx} (h : Ky k) : ∀ c ∈ k, c < 128 := fun c hc => by
  have := h.2.2 c hc
  have a : ∀ c ∈ LET, c < 128 := by decide
  exact a c this
end FL.Ix
namespace FL.Ix
open PySem L2 FL
section
variable {at_ : String → String → Att} {μ : Mem} {j : Nat} {B : Int}
theorem pick_tx {xs : List Tx} (h : Src μ j B) (hB : B ≤ 2 ^ 40) (h0 : xs ≠ []) (hn : xs.length ≤ 2 ^ 24) :
    ∃ x μ', x ∈ xs ∧ mPick [.obj j, .lst (xs.map .str)] μ = .ok (.fr (.str x)) μ' ∧ Src μ' j (B + 1) ∧ Fr j μ μ' := by
  obtain ⟨x, μ', hx, e, s, f⟩ := pick_lst (xs := xs.map D.str) h hB (by simpa using h0) (by simpa using hn)
  obtain ⟨y, hy, rfl⟩ := List.mem_map.mp hx
  exact ⟨y, μ', hy, e, s, f⟩
end
end FL.Ix
namespace FL.Ix
open PySem L2 FL
abbrev sc3 : Sch := [(lit "t", lit "text"), (lit "b", lit "text"), (lit "n", lit "number")]
section
variable {μ : Mem} {j : Nat} {B : Int}
inductive D3 : List Tx → Doc → Prop
  | nil : D3 [] []
  | skip {fs : List Tx} {f : Tx} {dc : Doc} : D3 fs dc → D3 (fs ++ [f]) dc
  | t {fs : List Tx} {f : Tx} {dc : Doc} {x : Tx} : D3 fs dc → (f, lit "text") ∈ sc3 → (∀ c ∈ x, c < 128) → x.length ≤ 400 → D3 (fs ++ [f]) (dc ++ [(f, .str x)])
  | n {fs : List Tx} {f : Tx} {dc : Doc} {i : Int} : D3 fs dc → (f, lit "number") ∈ sc3 → -10 ≤ i → i ≤ 10 → D3 (fs ++ [f]) (dc ++ [(f, .int i)])
theorem D3.sub {fs : List Tx} {dc : Doc} (h : D3 fs dc) : (dc.map (·.1)).Sublist fs ∧ ∀ p ∈ dc, ∃ q, (p.1, q) ∈ sc3 ∧ VOk q p.2 := by
  induction h with
  | nil => exact ⟨List.nil_sublist _, fun p hp => by cases hp⟩
  | skip h ih => exact ⟨ih.1.trans (List.sublist_append_left ..), ih.2⟩
  | t h h1 h2 h3 ih =>
    refine ⟨by rw [List.map_append]; exact ih.1.append (List.Sublist.refl _), fun p hp => ?_⟩
    rcases List.mem_append.mp hp with hp | hp
    · exact ih.2 p hp
    · rw [List.mem_singleton] at hp
      subst hp
      exact ⟨_, h1, .t h2 h3⟩
  | n h h1 h2 h3 ih =>
    refine ⟨by rw [List.map_append]; exact ih.1.append (List.Sublist.refl _), fun p hp => ?_⟩
    rcases List.mem_append.mp hp with hp | hp
    · exact ih.2 p hp
    · rw [List.mem_singleton] at hp
      subst hp
      exact ⟨_, h1, .n (by omega) (by omega)⟩
theorem D3.ok {fs : List Tx} {dc : Doc} (h : D3 fs dc) (hf : fs.Nodup) (hl : fs.length ≤ 6) : DocOk sc3 dc := by
  refine ⟨h.sub.2, hf.sublist h.sub.1, ?_⟩
  have := h.sub.1.length_le
  rw [List.length_map] at this
  omega
theorem ifS_t {t : MT} {a b : MS} {δ δ1 : FL.Loc} {μ1 : Mem} (h : t δ μ = .ok true δ1 μ1) : mIfS t a b δ μ = a δ1 μ1 := by rw [ev_IfS, h]; rfl
theorem ifS_f {t : MT} {a b : MS} {δ δ1 : FL.Loc} {μ1 : Mem} (h : t δ μ = .ok false δ1 μ1) : mIfS t a b δ μ = b δ1 μ1 := by rw [ev_IfS, h]; rfl
end
end FL.Ix
namespace FL.Ix
open PySem L2 FL
theorem _root_.FL.Agr.sub {A B : List Nat} {μ μ' : Mem} (a : Agr A μ μ') (h : ∀ i ∈ A, i ∈ B ∨ μ.length ≤ i) : Agr B μ μ' := ⟨a.len, fun i o e n => a.at_ i o e fun z => by
  rcases h i z with h | h
  · exact n h
  · have := (List.getElem?_eq_some_iff.mp e).1
    omega⟩
section
variable {N ix i : Nat} {S : St} {δ : FL.Loc} {μ : Mem} {mt : String → String → Nat → Option MF} {f : String} {ms : List ME} {m : MF} {pt : String → String → Option MF}
theorem IxAt.ins (h : IxAt N μ ix S) : ∃ vs, vs.length = 3 ∧ insOf μ (.obj ix) = some ("Index", ksI, vs) := by
  obtain ⟨kd, hc⟩ := h.cell
  exact ⟨_, rfl, by simp [hc]; rfl⟩
end
end FL.Ix
namespace FL
section
variable {δ : FL.Loc} {μ : Mem} {ma mb : ME} {eqm : String → Option MF} {cs ts : List String} {neg : Bool}
variable {δ1 δ2 : FL.Loc} {μ1 μ2 : Mem} {t u : MT} {m n : ME} {b c : Bool}
theorem tb_b (h : m δ μ = .ok (.fr (.bl b)) δ1 μ1) : mTb m δ μ = .ok b δ1 μ1 := by rw [ev_Tb, h]; rfl
theorem ret_m {s : FL.Slot} (h : m δ μ = .ok s δ1 μ1) : mRet m δ μ = .rt s μ1 := by rw [ev_Ret, h]; rfl
theorem set_m {s : FL.Slot} {i : Nat} (h : m δ μ = .ok s δ1 μ1) : mSet i m δ μ = .nx (δ1.set i (some s)) μ1 := by rw [ev_Set, h]; rfl
theorem set_self' {a : Nat} {d : D} (h : δ[a]? = some (some (.fr d))) : δ.set a (some (.fr d)) = δ := by
  refine List.ext_getElem? fun i => ?_
  by_cases c : a = i
  · subst c
    rw [List.getElem?_set_self (List.getElem?_eq_some_iff.mp h).1, h]
  · rw [List.getElem?_set_ne c]
theorem v_fr {a : Nat} {d : D} (h : δ[a]? = some (some (.fr d))) : mV a δ μ = .ok (.fr d) δ μ := by
  simp [h, set_self' h]
end
end FL
namespace FL.Ix
open PySem L2 FL
theorem SchOk.ascii {sc : Sch} (h : SchOk sc) : ∀ p ∈ sc, (∀ c ∈ p.1, c < 128) ∧ ∀ c ∈ p.2, c < 128 := fun p hp => by
  obtain ⟨h1, h2⟩ := h.nm p hp
  refine ⟨fun c hc => ?_, ?_⟩
  · have a : ∀ c ∈ LET, c < 128 := by decide
    exact a c (h1.2.2 c hc)
  · rcases h2 with h2 | h2 <;> rw [h2] <;> decide
end FL.Ix
namespace FL
section
variable {δ : FL.Loc} {μ : Mem} {o : Opn} {cs ds : List String} {f : String} {isa : String → String → Option Bool}
@[simp] theorem ev_Xat : mXat cs f o δ μ = (o.ev δ μ).bind fun r δ1 μ1 => match r.self δ1 with
  | some (.exn c a d) => if c ∈ cs ∧ a = f then .ok (.fr d) δ1 μ1 else .bad
  | _ => .bad := rfl
@[simp] theorem ev_IsXT : mIsXT isa ds o δ μ = (o.ev δ μ).bind fun r δ1 μ1 => match r.self δ1 with
  | some (.exn c _ _) => (match anyO (ds.map fun d => isa c d) with
    | some b => .ok (.fr (.bl b)) δ1 μ1
    | none => .bad)
  | _ => .bad := rfl
@[simp] theorem ev_isNX {n : Bool} {c a : String} {d : D} : gIsN n (.exn c a d) .non = some (.fr (.bl (false != n))) := rfl
end
end FL
namespace FL.Ix
open PySem L2 FL
noncomputable def t1_error_of (δ : FL.Loc) (μ : Mem) : Out Bool := (mTb (mV 6)) δ μ
noncomputable def e2_error_of (δ : FL.Loc) (μ : Mem) : Out FL.Slot := (mV 5) δ μ
noncomputable def r_error_of (isX : String → String → Option Bool) (δ : FL.Loc) (μ : Mem) : OutS := (mSeq (mIfS (mTb (m2 (gIsN false) (.v 1) (.e (mD .non)))) (mRet (mLst [(mV 2)]))
    mPass)
    (mSeq (mIfS (mTb (mIsXT isX ["NoDocument", "TooMany"] (.v 1))) (mRet (mIf (mTb (mC (gIsX isX) [(.v 1), (.e (mD (.glo "NoDocument")))])) (mTup [(mD (.str (lit "absent"))), (mXat ["NoDocument"] "absent" (.v 1))]) (mTup [(mD (.str (lit "many"))), (mXat ["TooMany"] "most" (.v 1))])))
    mPass)
    (mSeq (mIfS (mTb (mIsXT isX ["NoField", "WrongKind"] (.v 1))) (mRet (mIf (mTb (mC (gIsX isX) [(.v 1), (.e (mD (.glo "NoField")))])) (mTup [(mD (.str (lit "field"))), (mXat ["NoField"] "missing" (.v 1))]) (mTup [(mD (.str (lit "kind"))), (mXat ["WrongKind"] "mistaken" (.v 1))])))
    mPass)
    (mSeq (mSet 4 (mLst [(mTup [(mD (.str (lit "bad field"))), (mC (gIsX isX) [(.v 1), (.e (mD (.glo "BadField")))])]), (mTup [(mD (.str (lit "query"))), (mC (gIsX isX) [(.v 1), (.e (mD (.glo "BadQuery")))])])]))
    (mSeq (mSet 4 (m2 gAdd (.v 4) (.e (mLst [(mTup [(mD (.str (lit "key"))), (mC (gIsX isX) [(.v 1), (.e (mD (.glo "BadKey")))])]), (mTup [(mD (.str (lit "document"))), (mC (gIsX isX) [(.v 1), (.e (mD (.glo "BadDocument")))])])]))))
    (mSeq (mSet 4 (m2 gAdd (.v 4) (.e (mLst [(mTup [(mD (.str (lit "number"))), (mC (gIsX isX) [(.v 1), (.e (mD (.glo "BadNumber")))])]), (mTup [(mD (.str (lit "segment"))), (mC (gIsX isX) [(.v 1), (.e (mD (.glo "NoSegment")))])])]))))
    (mSeq (mSet 4 (m2 gAdd (.v 4) (.e (mLst [(mTup [(mD (.str (lit "change"))), (mC (gIsX isX) [(.v 1), (.e (mD (.glo "BadChange")))])]), (mTup [(mD (.str (lit "schema"))), (mC (gIsX isX) [(.v 1), (.e (mD (.glo "BadSchema")))])])]))))
    (mSeq (mSet 2 (mLc (mIt (mV 4)) (tgT 2 (tgC (tgV 5) (tgC (tgV 6) tgN))) t1_error_of e2_error_of [5, 6]))
    (mRet (mIf (mTb (m2 (gEq false) (.e (mC gLen [(.v 2)])) (.e (mD (.int 1))))) (mTup [(m2 gIxL (.v 2) (.e (mD (.int 0)))), (mD (.str (lit "")))]) (mTup [(mD (.str (lit "other"))), (mD (.str (lit "")))]))))))))))) δ μ
abbrev rl (x : D) : FL.Loc := [some (.fr .unk), some (.fr x), some (.fr .non), none, none, none, none]
section
variable {isX : String → String → Option Bool} {μ : Mem} {at_ : String} {v : D}
theorem isx {c d : String} {b : Bool} (h : isX c d = some b) : gIsX isX [.exn c at_ v, .glo d] = some (.fr (.bl b)) := by
  show (isX c d).map _ = _
  rw [h]; rfl
def wF (d : D) : Option D := match d with
  | .tup [.str w, .bl true] => some (.str w)
  | _ => none
theorem words_fm : ∀ ws : List (Tx × Bool), (ws.map fun p => D.tup [.str p.1, .bl p.2]).filterMap wF = (ws.filter (·.2)).map fun p => .str p.1
  | [] => rfl
  | (w, false) :: r => by
    rw [List.filter_cons_of_neg (by simp), ← words_fm r]
    rfl
  | (w, true) :: r => by
    rw [List.filter_cons_of_pos rfl, List.map_cons, List.map_cons, ← words_fm r]
    rfl
theorem words_lc (ws : List (Tx × Bool)) (hl : ws.length < 1000) {x1 x2 x3 : Option FL.Slot} {a0 : Option FL.Slot} {x4 : Option FL.Slot} :
    lcD (tgT 2 (tgC (tgV 5) (tgC (tgV 6) tgN))) t1_error_of e2_error_of [5, 6] (ws.map fun p => .tup [.str p.1, .bl p.2]) [] [a0, x1, x2, x3, x4, none, none] μ = .ok (.own (.lst ((ws.filter (·.2)).map fun p => .str p.1))) [a0, x1, x2, x3, x4, none, none] μ := by
  have h := lcD_pure (f := tgT 2 (tgC (tgV 5) (tgC (tgV 6) tgN))) (t := t1_error_of) (m := e2_error_of) (vs := [5, 6]) (δ := [a0, x1, x2, x3, x4, none, none]) (μ := μ) wF (ds := ws.map fun p => .tup [.str p.1, .bl p.2]) (acc := []) (fun d hd => by
    obtain ⟨⟨w, b⟩, _, rfl⟩ := List.mem_map.mp hd
    cases b <;> simp [lc1, t1_error_of, e2_error_of, wF, tgT, tgC, tgN, tgV]) (by simpa using by omega)
  rw [h, List.nil_append]
  congr 2
  congr 1
  exact words_fm ws
end
section
variable {isX : String → String → Option Bool} {μ : Mem} {at_ : String} {v : D}
def wds (b5 b6 b7 b8 b9 b10 b11 b12 : Bool) : List (Tx × Bool) := [(lit "bad field", b5), (lit "query", b6), (lit "key", b7), (lit "document", b8), (lit "number", b9), (lit "segment", b10), (lit "change", b11), (lit "schema", b12)]
theorem err_gen {c : String} {b5 b6 b7 b8 b9 b10 b11 b12 : Bool} (a1 : isX c "NoDocument" = some false) (a2 : isX c "TooMany" = some false) (a3 : isX c "NoField" = some false) (a4 : isX c "WrongKind" = some false)
    (g5 : isX c "BadField" = some b5) (g6 : isX c "BadQuery" = some b6) (g7 : isX c "BadKey" = some b7) (g8 : isX c "BadDocument" = some b8) (g9 : isX c "BadNumber" = some b9) (g10 : isX c "NoSegment" = some b10) (g11 : isX c "BadChange" = some b11) (g12 : isX c "BadSchema" = some b12)
    {w : Tx} (hw : (wds b5 b6 b7 b8 b9 b10 b11 b12).filter (·.2) = [(w, true)]) : r_error_of isX (rl (.exn c at_ v)) μ = .rt (.fr (.tup [.str w, .str []])) μ := by
  have le : lit "" = [] := by decide
  have g5 := isx (at_ := at_) (v := v) g5
  have g6 := isx (at_ := at_) (v := v) g6
  have g7 := isx (at_ := at_) (v := v) g7
  have g8 := isx (at_ := at_) (v := v) g8
  have g9 := isx (at_ := at_) (v := v) g9
  have g10 := isx (at_ := at_) (v := v) g10
  have g11 := isx (at_ := at_) (v := v) g11
  have g12 := isx (at_ := at_) (v := v) g12
  have lc := words_lc (μ := μ) (wds b5 b6 b7 b8 b9 b10 b11 b12) (by simp [wds]) (a0 := some (.fr .unk)) (x1 := some (.fr (.exn c at_ v))) (x2 := some (.fr .non)) (x3 := none) (x4 := some (.fr (.lst ((wds b5 b6 b7 b8 b9 b10 b11 b12).map fun p => .tup [.str p.1, .bl p.2]))))
  rw [hw] at lc
  have s1 : ∀ (p : MS), mIfS (mTb (m2 (gIsN false) (.v 1) (.e (mD .non)))) p mPass (rl (.exn c at_ v)) μ = .nx (rl (.exn c at_ v)) μ := fun p => by simp [rl]
  have s2 : ∀ (p : MS), mIfS (mTb (mIsXT isX ["NoDocument", "TooMany"] (.v 1))) p mPass (rl (.exn c at_ v)) μ = .nx (rl (.exn c at_ v)) μ := fun p => by simp [rl, anyO, a1, a2]
  have s3 : ∀ (p : MS), mIfS (mTb (mIsXT isX ["NoField", "WrongKind"] (.v 1))) p mPass (rl (.exn c at_ v)) μ = .nx (rl (.exn c at_ v)) μ := fun p => by simp [rl, anyO, a3, a4]
  have ix : ∀ (d : String) (b : Bool) (x4 : Option FL.Slot), gIsX isX [.exn c at_ v, .glo d] = some (.fr (.bl b)) → mC (gIsX isX) [(.v 1), (.e (mD (.glo d)))] [some (.fr .unk), some (.fr (.exn c at_ v)), some (.fr .non), none, x4, none, none] μ = .ok (.fr (.bl b)) [some (.fr .unk), some (.fr (.exn c at_ v)), some (.fr .non), none, x4, none, none] μ := fun d b x4 h => by simp [h]
  let L2 : List D := [.tup [.str (lit "bad field"), .bl b5], .tup [.str (lit "query"), .bl b6]]
  let L4 : List D := L2 ++ [.tup [.str (lit "key"), .bl b7], .tup [.str (lit "document"), .bl b8]]
  let L6 : List D := L4 ++ [.tup [.str (lit "number"), .bl b9], .tup [.str (lit "segment"), .bl b10]]
  let L8 : List D := L6 ++ [.tup [.str (lit "change"), .bl b11], .tup [.str (lit "schema"), .bl b12]]
  have r8 : L8 = (wds b5 b6 b7 b8 b9 b10 b11 b12).map fun p => .tup [.str p.1, .bl p.2] := rfl
  have q : ∀ (x4 : Option FL.Slot) (w1 w2 : Tx) (d1 d2 : String) (b1 b2 : Bool), gIsX isX [.exn c at_ v, .glo d1] = some (.fr (.bl b1)) → gIsX isX [.exn c at_ v, .glo d2] = some (.fr (.bl b2)) →
      mLst [(mTup [(mD (.str w1)), (mC (gIsX isX) [(.v 1), (.e (mD (.glo d1)))])]), (mTup [(mD (.str w2)), (mC (gIsX isX) [(.v 1), (.e (mD (.glo d2)))])])] [some (.fr .unk), some (.fr (.exn c at_ v)), some (.fr .non), none, x4, none, none] μ = .ok (.own (.lst [.tup [.str w1, .bl b1], .tup [.str w2, .bl b2]])) [some (.fr .unk), some (.fr (.exn c at_ v)), some (.fr .non), none, x4, none, none] μ := fun x4 w1 w2 d1 d2 b1 b2 h1 h2 => by
    have e1 := ix d1 b1 x4 h1
    have e2 := ix d2 b2 x4 h2
    generalize mC (gIsX isX) [(.v 1), (.e (mD (.glo d1)))] = Q1 at *
    generalize mC (gIsX isX) [(.v 1), (.e (mD (.glo d2)))] = Q2 at *
    simp [e1, e2]
  have add : ∀ (L : List D) (w1 w2 : Tx) (d1 d2 : String) (b1 b2 : Bool), L.length < 1000 → gIsX isX [.exn c at_ v, .glo d1] = some (.fr (.bl b1)) → gIsX isX [.exn c at_ v, .glo d2] = some (.fr (.bl b2)) →
      mSet 4 (m2 gAdd (.v 4) (.e (mLst [(mTup [(mD (.str w1)), (mC (gIsX isX) [(.v 1), (.e (mD (.glo d1)))])]), (mTup [(mD (.str w2)), (mC (gIsX isX) [(.v 1), (.e (mD (.glo d2)))])])]))) [some (.fr .unk), some (.fr (.exn c at_ v)), some (.fr .non), none, some (.own (.lst L)), none, none] μ = .nx [some (.fr .unk), some (.fr (.exn c at_ v)), some (.fr .non), none, some (.own (.lst (L ++ [.tup [.str w1, .bl b1], .tup [.str w2, .bl b2]]))), none, none] μ := fun L w1 w2 d1 d2 b1 b2 hL h1 h2 => by
    have e := q (some (.own (.lst L))) w1 w2 d1 d2 b1 b2 h1 h2
    generalize mLst [(mTup [(mD (.str w1)), (mC (gIsX isX) [(.v 1), (.e (mD (.glo d1)))])]), (mTup [(mD (.str w2)), (mC (gIsX isX) [(.v 1), (.e (mD (.glo d2)))])])] = Q at *
    have l1 : L.length + 2 ≤ 16777216 := by omega
    simp [e, l1]
  have t4 : mSet 4 (mLst [(mTup [(mD (.str (lit "bad field"))), (mC (gIsX isX) [(.v 1), (.e (mD (.glo "BadField")))])]), (mTup [(mD (.str (lit "query"))), (mC (gIsX isX) [(.v 1), (.e (mD (.glo "BadQuery")))])])]) (rl (.exn c at_ v)) μ = .nx [some (.fr .unk), some (.fr (.exn c at_ v)), some (.fr .non), none, some (.own (.lst L2)), none, none] μ := set_m (q none _ _ _ _ _ _ g5 g6)
  have t5 := add L2 (lit "key") (lit "document") "BadKey" "BadDocument" b7 b8 (by simp [L2]) g7 g8
  have t6 := add L4 (lit "number") (lit "segment") "BadNumber" "NoSegment" b9 b10 (by simp [L4, L2]) g9 g10
  have t7 := add L6 (lit "change") (lit "schema") "BadChange" "BadSchema" b11 b12 (by simp [L6, L4, L2]) g11 g12
  have t8 : mSet 2 (mLc (mIt (mV 4)) (tgT 2 (tgC (tgV 5) (tgC (tgV 6) tgN))) t1_error_of e2_error_of [5, 6]) [some (.fr .unk), some (.fr (.exn c at_ v)), some (.fr .non), none, some (.own (.lst L8)), none, none] μ = .nx [some (.fr .unk), some (.fr (.exn c at_ v)), some (.own (.lst [.str w])), none, some (.fr (.lst L8)), none, none] μ := by
    refine set_m (δ1 := [some (.fr .unk), some (.fr (.exn c at_ v)), some (.fr .non), none, some (.fr (.lst L8)), none, none]) ?_
    rw [ev_Lc]
    have it : mIt (mV 4) [some (.fr .unk), some (.fr (.exn c at_ v)), some (.fr .non), none, some (.own (.lst L8)), none, none] μ = .ok L8 [some (.fr .unk), some (.fr (.exn c at_ v)), some (.fr .non), none, some (.fr (.lst L8)), none, none] μ := by
      generalize L8 = Z
      simp
    rw [it, ev_b1, r8]
    exact lc
  unfold r_error_of
  rw [seq_nx (s1 _), seq_nx (s2 _), seq_nx (s3 _), seq_nx t4, seq_nx t5, seq_nx t6, seq_nx t7, seq_nx t8, le]
  have i1 : gIxL (.lst [.str w]) (.int 0) = some (.fr (.str w)) := by rfl
  have i2 : gLen [.lst [.str w]] = some (.fr (.int 1)) := by rfl
  simp [i1, i2]
end
end FL.Ix
namespace FL.Ix
open PySem L2 FL
section
variable {at_ : String → String → Att} {isX : String → String → Option Bool} {sub : String → Option Bool} {δ δ' : FL.Loc} {μ μ' : Mem} {j : Nat} {P : Addr} {q : Str} {m : ME} {c a : String} {v : D} {s : FL.Slot}
theorem lam_err (h : μ[j]? = some (.tab P q)) (hm : m (hide δ) μ = .exc ⟨c, a, v⟩ δ' μ') (hs : sub c = some true) (hr : r_error_of isX (rl (.exn c a v)) μ' = .rt s μ') : mLam (mHelpE sub 3 (r_error_of isX)) j P q m δ μ = .ok s δ μ' := by
  unfold mLam
  rw [h]
  simp only [and_self, if_true]
  have e1 : actOf m δ μ = .exc ⟨c, a, v⟩ μ' := by
    unfold actOf
    rw [hm]
  have e2 : mHelpE sub 3 (r_error_of isX) (actOf m δ) μ = .ok s μ' := by
    unfold mHelpE
    rw [e1]
    simp only [hs]
    have : ([some (FL.Slot.fr .unk), some (FL.Slot.fr (.exn c a v)), some (FL.Slot.fr .non), none] ++ List.replicate 3 none : FL.Loc) = rl (.exn c a v) := rfl
    rw [this, hr]
    rfl
  rw [e2]
end
section
variable {at_ : String → String → Att} {μ : Mem}
theorem nameNo {d : D} (h : noStr d = true) : m_is_field_name [d] μ = .ok (.fr (.bl false)) μ := by
  have e := made_no (μ := μ) (s := LET) (n := 12) h
  simp [m_is_field_name, b_is_field_name, startD, e]
theorem nameStr {x : Tx} (h : x.length < 1000) : m_is_field_name [.str x] μ = .ok (.fr (.bl (decide (Ky x)))) μ := by
  have e := made_str (x := x) (s := LET) (n := 12) (μ := μ) (by omega)
  have e' : decide (Made x LET 12) = decide (Ky x) := by
    by_cases c : Ky x
    · rw [decide_eq_true c, decide_eq_true (show Made x LET 12 from c)]
    · rw [decide_eq_false c, decide_eq_false (show ¬ Made x LET 12 from c)]
  rw [e'] at e
  simp [m_is_field_name, b_is_field_name, startD, e]
theorem rowNo {d : D} (hl : look μ d = some d) (h : gIsi [d, .ty "tuple"] = some (.fr (.bl false))) : m_is_field_row [d] μ = .ok (.fr (.bl false)) μ := by
  simp [m_is_field_row, b_is_field_row, startD, hl, h]
theorem rowLen {xs : List D} (h : xs.length ≠ 2) : m_is_field_row [.tup xs] μ = .ok (.fr (.bl false)) μ := by
  have a1 : gIsi [.tup xs, .ty "tuple"] = some (.fr (.bl true)) := by rfl
  have a2 : gLen [.tup xs] = some (.fr (.int xs.length)) := by rfl
  have a3 : ¬ ((xs.length : Int) = 2) := by omega
  simp [m_is_field_row, b_is_field_row, startD, a1, a2, a3]
theorem rowName {a b : D} (h : m_is_field_name [a] μ = .ok (.fr (.bl false)) μ) : m_is_field_row [.tup [a, b]] μ = .ok (.fr (.bl false)) μ := by
  have a1 : gIsi [.tup [a, b], .ty "tuple"] = some (.fr (.bl true)) := by rfl
  have a2 : gLen [.tup [a, b]] = some (.fr (.int 2)) := by rfl
  have a4 : gIxL (.tup [a, b]) (.int 0) = some (.fr a) := by rfl
  simp [m_is_field_row, b_is_field_row, startD, a1, a2, a4, h]
theorem rowKind {k : Tx} {b : D} (h : Ky k) (hl : look μ b = some b) (hb : gIsi [b, .ty "str"] = some (.fr (.bl false))) : m_is_field_row [.tup [.str k, b]] μ = .ok (.fr (.bl false)) μ := by
  have a1 : gIsi [.tup [.str k, b], .ty "tuple"] = some (.fr (.bl true)) := by rfl
  have a2 : gLen [.tup [.str k, b]] = some (.fr (.int 2)) := by rfl
  have a4 : gIxL (.tup [.str k, b]) (.int 0) = some (.fr (.str k)) := by rfl
  have a5 : gIxL (.tup [.str k, b]) (.int 1) = some (.fr b) := by rfl
  simp [m_is_field_row, b_is_field_row, startD, a1, a2, a4, a5, fieldName h, hl, hb]
theorem rowKindT {k b : Tx} (h : Ky k) (hb : gIn false (.str b) (.tup ([lit "text", lit "number"].map .str)) = some (.fr (.bl false))) : m_is_field_row [.tup [.str k, .str b]] μ = .ok (.fr (.bl false)) μ := by
  have a1 : gIsi [.tup [.str k, .str b], .ty "tuple"] = some (.fr (.bl true)) := by rfl
  have a2 : gLen [.tup [.str k, .str b]] = some (.fr (.int 2)) := by rfl
  have a4 : gIxL (.tup [.str k, .str b]) (.int 0) = some (.fr (.str k)) := by rfl
  have a5 : gIxL (.tup [.str k, .str b]) (.int 1) = some (.fr (.str b)) := by rfl
  simp only [List.map_cons, List.map_nil] at hb
  simp [m_is_field_row, b_is_field_row, startD, a1, a2, a4, a5, fieldName h, isi_str, hb]
def BadS (d : D) : Prop := ∀ μ, ∃ v, m_need_schema [d] μ = .exc ⟨"BadSchema", "reason", v⟩ μ
theorem badNo {d : D} (hl : ∀ μ, look μ d = some d) (h : gIsi [d, .ty "tuple"] = some (.fr (.bl false))) : BadS d := fun μ => by
  refine ⟨.str (lit "not a tuple of 1 to 6 pairs"), ?_⟩
  simp [m_need_schema, b_need_schema, startD, hl, h]
theorem badLen {xs : List D} (h : xs.length = 0 ∨ 6 < xs.length) : BadS (.tup xs) := fun μ => by
  have a1 : gIsi [.tup xs, .ty "tuple"] = some (.fr (.bl true)) := by rfl
  have a2 : gLen [.tup xs] = some (.fr (.int xs.length)) := by rfl
  refine ⟨.str (lit "not a tuple of 1 to 6 pairs"), ?_⟩
  rcases h with h | h
  · simp [m_need_schema, b_need_schema, startD, a1, a2, h]
  · have i1 : (1 : Int) ≤ xs.length := by omega
    have i2 : ¬ ((xs.length : Int) ≤ 6) := by omega
    simp [m_need_schema, b_need_schema, startD, a1, a2, i1, i2]
theorem rows_lc {xs : List D} (hl : xs.length ≤ 6) (f : D → Bool) (h : ∀ d ∈ xs, m_is_field_row [d] μ = .ok (.fr (.bl (f d))) μ) :
    lcD (tgV 1) mYes e1_need_schema [1] xs [] [some (.fr (.tup xs)), none, none, none] μ = .ok (.own (.lst ((xs.map f).map .bl))) [some (.fr (.tup xs)), none, none, none] μ := by
  have c1 := lcD_pure (f := tgV 1) (t := mYes) (m := e1_need_schema) (vs := [1]) (δ := [some (.fr (.tup xs)), none, none, none]) (μ := μ) (fun d => some (.bl (f d))) (ds := xs) (acc := []) (fun d hd => by
    simp [lc1, e1_need_schema, h d hd]) (by simp; omega)
  rw [c1, List.nil_append, List.map_map, ← List.filterMap_eq_map]
  rfl
theorem badRow {xs : List D} (h1 : 1 ≤ xs.length) (hl : xs.length ≤ 6) (f : D → Bool) (h : ∀ μ, ∀ d ∈ xs, m_is_field_row [d] μ = .ok (.fr (.bl (f d))) μ) (hb : xs.all f = false) : BadS (.tup xs) := fun μ => by
  have a1 : gIsi [.tup xs, .ty "tuple"] = some (.fr (.bl true)) := by rfl
  have a2 : gLen [.tup xs] = some (.fr (.int xs.length)) := by rfl
  have c := rows_lc hl f (h μ)
  have a5 : gAll [.lst ((xs.map f).map .bl)] = some (.fr (.bl false)) := by
    simp only [gAll, blsD_of, Option.map_some]
    rw [List.all_map]
    show some (FL.Slot.fr (D.bl (xs.all f))) = _
    rw [hb]
  have i1 : (1 : Int) ≤ xs.length := by omega
  have i2 : (xs.length : Int) ≤ 6 := by omega
  refine ⟨.str (lit "not pairs of a field name and a kind"), ?_⟩
  generalize List.map D.bl (List.map f xs) = L at *
  simp [m_need_schema, b_need_schema, startD, a1, a2, i1, i2, c, a5]
abbrev schT (sc : Sch) : D := .tup (sc.map fun p => .tup [.str p.1, .str p.2])
theorem ins_le : ∀ (xs acc : List Tx), (xs.foldl insT acc).length ≤ acc.length + xs.length
  | [], acc => Nat.le_refl _
  | x :: xs, acc => by
    rw [List.foldl_cons]
    have := ins_le xs (insT acc x)
    have h2 : (insT acc x).length ≤ acc.length + 1 := by
      unfold insT
      split <;> simp
    rw [List.length_cons]
    omega
theorem insT_mem : ∀ (xs acc : List Tx) (y : Tx), y ∈ acc → y ∈ xs.foldl insT acc
  | [], acc, y, h => h
  | x :: xs, acc, y, h => by
    rw [List.foldl_cons]
    refine insT_mem xs _ y ?_
    unfold insT
    split
    · exact h
    · exact List.mem_cons_of_mem _ h
theorem insT_dup {xs : List Tx} {x : Tx} (h : x ∈ xs) : ((xs ++ [x]).foldl insT []).length < (xs ++ [x]).length := by
  rw [List.foldl_append]
  have hm : x ∈ xs.foldl insT [] := by
    have key : ∀ (xs acc : List Tx), x ∈ xs → x ∈ xs.foldl insT acc := by
      intro xs
      induction xs with
      | nil => intro acc h; cases h
      | cons y ys ih =>
        intro acc h
        rw [List.foldl_cons]
        rcases List.mem_cons.mp h with rfl | h
        · refine insT_mem ys _ x ?_
          unfold insT
          split
          · assumption
          · exact List.mem_cons_self
        · exact ih _ h
    exact key xs [] h
  have e : List.foldl insT (List.foldl insT [] xs) [x] = List.foldl insT [] xs := if_pos hm
  rw [e]
  have := ins_le xs []
  simp at this ⊢
  omega
theorem badDup {sc : Sch} {p : Tx × Tx} (h1 : sc.length ≤ 5) (hn : ∀ p ∈ sc, Ky p.1 ∧ (p.2 = lit "text" ∨ p.2 = lit "number")) (hp : Ky p.1 ∧ (p.2 = lit "text" ∨ p.2 = lit "number")) (hm : p.1 ∈ sc.map (·.1)) : BadS (schT (sc ++ [p])) := fun μ => by
  have all : ∀ q ∈ sc ++ [p], Ky q.1 ∧ (q.2 = lit "text" ∨ q.2 = lit "number") := fun q hq => by
    rcases List.mem_append.mp hq with hq | hq
    · exact hn q hq
    · rw [List.mem_singleton.mp hq]; exact hp
  have dup := insT_dup hm
  generalize hS : sc ++ [p] = S at all
  have hl : S.length ≤ 6 := by rw [← hS, List.length_append, List.length_singleton]; omega
  have hl1 : 1 ≤ S.length := by rw [← hS, List.length_append, List.length_singleton]; omega
  have a1 : gIsi [schT S, .ty "tuple"] = some (.fr (.bl true)) := by rfl
  have a2 : gLen [schT S] = some (.fr (.int S.length)) := by simp [gLen, gLen1]
  have c1 : lcD (tgV 1) mYes e1_need_schema [1] (S.map fun p => .tup [.str p.1, .str p.2]) [] [some (.fr (schT S)), none, none, none] μ = .ok (.own (.lst (((S.map fun p => D.tup [.str p.1, .str p.2]).map fun _ => true).map .bl))) [some (.fr (schT S)), none, none, none] μ := rows_lc (μ := μ) (xs := S.map fun p => .tup [.str p.1, .str p.2]) (by simpa using hl) (fun _ => true) (fun d hd => by
    obtain ⟨q, hq, rfl⟩ := List.mem_map.mp hd
    exact fieldRow (all q hq).1 (all q hq).2)
  have a5 : gAll [.lst (((S.map fun p => D.tup [.str p.1, .str p.2]).map fun _ => true).map .bl)] = some (.fr (.bl true)) := by
    simp only [gAll, blsD_of, Option.map_some]
    have : ((S.map fun p => D.tup [.str p.1, .str p.2]).map fun _ => true).all id = true := by simp
    rw [this]
  have c2 := lcD_pure (f := tgT 2 (tgC (tgV 2) (tgC (tgV 3) tgN))) (t := mYes) (m := e2_need_schema) (vs := [2, 3]) (δ := [some (.fr (schT S)), none, none, none]) (μ := μ) (fun d => match d with | .tup [.str a, _] => some (.str a) | _ => none) (ds := S.map fun p => .tup [.str p.1, .str p.2]) (acc := []) (fun d hd => by
    obtain ⟨p, hp, rfl⟩ := List.mem_map.mp hd
    simp [lc1, e2_need_schema]) (by simp; omega)
  have r2 : (S.map fun p => D.tup [.str p.1, .str p.2]).filterMap (fun d => match d with | .tup [.str a, _] => some (D.str a) | _ => none) = (S.map (·.1)).map .str := by
    rw [List.filterMap_map, List.map_map, ← List.filterMap_eq_map]; rfl
  rw [r2, List.nil_append] at c2
  have n6 : ((S.map (·.1)).foldl insT []).length < S.length := by
    rw [← hS, List.map_append, List.map_cons, List.map_nil]
    simpa using dup
  have a6 : gLenS [.lst ((S.map (·.1)).map .str)] = some (.fr (.int ((S.map (·.1)).foldl insT []).length)) := by
    have e : ((S.map (·.1)).map D.str).map txOf = S.map (·.1) := by rw [List.map_map]; exact List.map_congr_left (fun _ _ => rfl) |>.trans (List.map_id _)
    show (if _ then _ else _) = _
    rw [if_pos ⟨tx_strs _, by simp; omega⟩, e]
  have i1 : (1 : Int) ≤ S.length := by omega
  have i2 : (S.length : Int) ≤ 6 := by omega
  have i7 : (((S.map (·.1)).foldl insT []).length : Int) < S.length := by omega
  refine ⟨.str (lit "a field name occurs twice"), ?_⟩
  have it : itA (schT S) = some (S.map fun p => .tup [.str p.1, .str p.2]) := rfl
  have lk : look μ (schT S) = some (schT S) := rfl
  generalize List.map D.bl (List.map (fun _ => true) (S.map fun p => D.tup [.str p.1, .str p.2])) = L1 at *
  generalize List.map D.str (S.map (·.1)) = L2 at *
  generalize (List.foldl insT [] (S.map (·.1))).length = n at *
  generalize (S.map fun p => D.tup [.str p.1, .str p.2]) = R at it c1 c2
  generalize schT S = SS at *
  simp [m_need_schema, b_need_schema, startD, a1, a2, lk, it, i1, i2, c1, a5, c2, a6, i7]
end
end FL.Ix
namespace FL.Ix
open PySem L2 FL
theorem lc_draw {f : TgF} {t : MT} {m : ME} {vs : List Nat} {δ : FL.Loc} (I : Nat → Mem → Prop) (R : Nat → D → Prop) : ∀ (ds : List D) (i : Nat) (acc : List D) (μ : Mem), I i μ → (∀ (k : Nat) (d : D) (μ : Mem), ds[k]? = some d → I (i + k) μ → ∃ e μ', lc1 f t m vs d δ μ = .ok (some e) δ μ' ∧ R (i + k) e ∧ I (i + k + 1) μ') → acc.length + ds.length < 16777216 →
    ∃ es μ', lcD f t m vs ds acc δ μ = .ok (.own (.lst (acc ++ es))) δ μ' ∧ es.length = ds.length ∧ (∀ k e, es[k]? = some e → R (i + k) e) ∧ I (i + ds.length) μ'
  | [], i, acc, μ, h0, _, _ => ⟨[], μ, by simp [lcD], rfl, fun k e h => (by simp at h), h0⟩
  | d :: ds, i, acc, μ, h0, hs, hl => by
    rw [List.length_cons] at hl
    obtain ⟨e, μ1, e1, r1, h1⟩ := hs 0 d μ rfl h0
    obtain ⟨es, μ2, e2, l2, r2, h2⟩ := lc_draw I R ds (i + 1) (acc ++ [e]) μ1 h1 (fun k d μ hd hi => by
      have := hs (k + 1) d μ hd (by rw [show i + (k + 1) = i + 1 + k by omega]; exact hi)
      rw [show i + (k + 1) = i + 1 + k by omega] at this
      exact this) (by rw [List.length_append, List.length_singleton]; omega)
    refine ⟨e :: es, μ2, ?_, by rw [List.length_cons, List.length_cons, l2], fun k e' h => ?_, by rw [List.length_cons, show i + (ds.length + 1) = i + 1 + ds.length by omega]; exact h2⟩
    · rw [lcD_one, e1, ev_b1]
      simp only [show acc.length < 16777216 by omega, if_true]
      rw [e2]
      simp
    · cases k with
      | zero => cases h; exact r1
      | succ k =>
        have := r2 k e' h
        rw [show i + (k + 1) = i + 1 + k by omega]
        exact this
end FL.Ix
namespace L31
open PySem L2 FL FL.Ix
theorem aS : at_ "Index" "schema" = .fld := by kernel_rfl
theorem aK : at_ "Index" "kept" = .fld := by kernel_rfl
theorem aP : at_ "Index" "pieces" = .fld := by kernel_rfl
theorem es : m__law_drawer = mSource := rfl
theorem en : m__law_drawn = mNext := rfl
theorem ep : m__law_drawn_of = mPick := rfl
theorem x_ns : m_need_schema = Ix.m_need_schema := rfl
theorem x_er : m__law_error_of = mHelpE sub__law_error_of 3 (Ix.r_error_of isX) := rfl
theorem pSize : pt_size "Index" "size" = some m_View_size := by kernel_rfl
theorem pKeys : pt_all_keys "Index" "all_keys" = some m_View_all_keys := by kernel_rfl
theorem pSegs : pt_segments "Index" "segments" = some m_Index_segments := by kernel_rfl
theorem pVoc : pt_vocabulary "Index" "vocabulary" = some m_View_vocabulary := by kernel_rfl
theorem err {a : String} {v : D} {μ : Mem} : Ix.r_error_of isX (rl (.exn "BadSchema" a v)) μ = .rt (.fr (.tup [.str (lit "schema"), .str []])) μ :=
  err_gen (b5 := false) (b6 := false) (b7 := false) (b8 := false) (b9 := false) (b10 := false) (b11 := false) (b12 := true) (by kernel_rfl) (by kernel_rfl) (by kernel_rfl) (by kernel_rfl) (by kernel_rfl) (by kernel_rfl) (by kernel_rfl) (by kernel_rfl) (by kernel_rfl) (by kernel_rfl) (by kernel_rfl) (by kernel_rfl) (by decide)
section
variable {μ : Mem} {d : D} {sc : Sch} {j : Nat} {B : Int}
abbrev pairD (p : Tx × Tx) : D := .tup [.str p.1, .str p.2]
theorem needT (h : SchOk sc) : m_need_schema [schT sc] μ = .ok (.fr .non) μ := by
  rw [x_ns]
  have h1 := h.n1
  have h2 := h.n2
  have a1 : gIsi [schT sc, .ty "tuple"] = some (.fr (.bl true)) := by rfl
  have a2 : gLen [schT sc] = some (.fr (.int sc.length)) := by simp [gLen, gLen1]
  have c1 : lcD (tgV 1) mYes Ix.e1_need_schema [1] (sc.map fun p => .tup [.str p.1, .str p.2]) [] [some (.fr (schT sc)), none, none, none] μ = .ok (.own (.lst (((sc.map fun p => D.tup [.str p.1, .str p.2]).map fun _ => true).map .bl))) [some (.fr (schT sc)), none, none, none] μ := rows_lc (μ := μ) (xs := sc.map fun p => .tup [.str p.1, .str p.2]) (by simpa using h2) (fun _ => true) (fun d hd => by
    obtain ⟨q, hq, rfl⟩ := List.mem_map.mp hd
    exact fieldRow (h.nm q hq).1 (h.nm q hq).2)
  have a5 : gAll [.lst (((sc.map fun p => D.tup [.str p.1, .str p.2]).map fun _ => true).map .bl)] = some (.fr (.bl true)) := by
    simp only [gAll, blsD_of, Option.map_some]
    have : ((sc.map fun p => D.tup [.str p.1, .str p.2]).map fun _ => true).all id = true := by simp
    rw [this]
  have c2 := lcD_pure (f := tgT 2 (tgC (tgV 2) (tgC (tgV 3) tgN))) (t := mYes) (m := Ix.e2_need_schema) (vs := [2, 3]) (δ := [some (.fr (schT sc)), none, none, none]) (μ := μ) (fun d => match d with | .tup [.str a, _] => some (.str a) | _ => none) (ds := sc.map fun p => .tup [.str p.1, .str p.2]) (acc := []) (fun d hd => by
    obtain ⟨p, hp, rfl⟩ := List.mem_map.mp hd
    simp [lc1, Ix.e2_need_schema]) (by simp; omega)
  have r2 : (sc.map fun p => D.tup [.str p.1, .str p.2]).filterMap (fun d => match d with | .tup [.str a, _] => some (D.str a) | _ => none) = (sc.map (·.1)).map .str := by
    rw [List.filterMap_map, List.map_map, ← List.filterMap_eq_map]; rfl
  rw [r2, List.nil_append] at c2
  have a6 : gLenS [.lst ((sc.map (·.1)).map .str)] = some (.fr (.int sc.length)) := by
    have e : ((sc.map (·.1)).map D.str).map txOf = sc.map (·.1) := by rw [List.map_map]; exact List.map_congr_left (fun _ _ => rfl) |>.trans (List.map_id _)
    show (if _ then _ else _) = _
    rw [if_pos ⟨tx_strs _, by simp; omega⟩, e, insT_len _ [] (by simp) h.nod]
    simp
  have i1 : (1 : Int) ≤ sc.length := by omega
  have i2 : (sc.length : Int) ≤ 6 := by omega
  have it : itA (schT sc) = some (sc.map fun p => .tup [.str p.1, .str p.2]) := rfl
  have lk : look μ (schT sc) = some (schT sc) := rfl
  generalize List.map D.bl (List.map (fun _ => true) (sc.map fun p => D.tup [.str p.1, .str p.2])) = L1 at *
  generalize List.map D.str (sc.map (·.1)) = L2 at *
  generalize (sc.map fun p => D.tup [.str p.1, .str p.2]) = R at it c1 c2
  generalize schT sc = SS at *
  simp [Ix.m_need_schema, Ix.b_need_schema, startD, a1, a2, lk, it, i1, i2, c1, a5, c2, a6]
theorem iIdx (h : m_need_schema [d] (μ ++ [.ins "Index" (μ.length + 1) [] [], .idc μ.length]) = .ok (.fr .non) (μ ++ [.ins "Index" (μ.length + 1) [] [], .idc μ.length])) : mkS "Index" m_iIndex [d] μ = .ok (.fr (.obj μ.length)) (μ ++ [.ins "Index" (μ.length + 1) ksI [d, .dcf [] [], .lst []], .idc μ.length]) := by
  have v0 : m_iView [.obj μ.length, d] (μ ++ [.ins "Index" (μ.length + 1) [] [], .idc μ.length]) = .ok (.fr .non) (μ ++ [.ins "Index" (μ.length + 1) ["schema", "kept"] [d, .dcf [] []], .idc μ.length]) := by
    rw [show m_iView = mFn 2 b_iView from rfl, ev_Fn]
    unfold b_iView
    simp [startD, aS, aK]
  rw [mkS_eq]
  unfold mkS0
  rw [show m_iIndex = mFn 2 b_iIndex from rfl, ev_Fn]
  unfold b_iIndex
  simp [startD, h, v0, aP]
theorem badIdx (h : BadS d) : ∃ v, mkS "Index" m_iIndex [d] μ = .exc ⟨"BadSchema", "reason", v⟩ (μ ++ [.ins "Index" (μ.length + 1) [] [], .idc μ.length]) := by
  obtain ⟨v, e⟩ := h (μ ++ [.ins "Index" (μ.length + 1) [] [], .idc μ.length])
  rw [← x_ns] at e
  refine ⟨v, ?_⟩
  rw [mkS_eq]
  unfold mkS0
  rw [show m_iIndex = mFn 2 b_iIndex from rfl, ev_Fn]
  unfold b_iIndex
  simp [startD, e]
end
end L31
namespace L31
open PySem L2 FL FL.Ix
abbrev NM : List Tx := [lit "t", lit "title", lit "abcdefghijkl", lit "year", lit "z", lit "body", lit "x", lit "yy"]
abbrev KN : List Tx := [lit "text", lit "number"]
def nmAt (a k : Nat) : Tx := (NM[(a + k) % 8]?).getD []
theorem nm_get {a k : Nat} : NM[(a + k) % 8]? = some (nmAt a k) := by
  have h : (a + k) % 8 < NM.length := Nat.mod_lt _ (by decide)
  unfold nmAt
  rw [List.getElem?_eq_getElem h]
  rfl
theorem nm_ky {a k : Nat} : Ky (nmAt a k) := by
  have all : ∀ x ∈ NM, Ky x := by decide
  exact all _ (List.mem_of_getElem? (nm_get (a := a) (k := k)))
theorem nm_nod : ∀ a < 8, ∀ n ≤ 6, ((List.range n).map (nmAt a)).Nodup := by decide +kernel
section
variable {μ : Mem} {d : D} {sc : Sch} {j : Nat} {B : Int}
theorem sch_of {es : List D} {g : Nat → Tx} (h : ∀ k e, es[k]? = some e → ∃ t ∈ KN, e = pairD (g k, t)) : ∃ sc : Sch, es = sc.map pairD ∧ sc.map (·.1) = (List.range es.length).map g ∧ ∀ p ∈ sc, p.2 = lit "text" ∨ p.2 = lit "number" := by
  have key : ∀ (es : List D) (i : Nat), (∀ k e, es[k]? = some e → ∃ t ∈ KN, e = pairD (g (i + k), t)) → ∃ sc : Sch, es = sc.map pairD ∧ sc.map (·.1) = (List.range es.length).map (fun k => g (i + k)) ∧ ∀ p ∈ sc, p.2 = lit "text" ∨ p.2 = lit "number" := by
    intro es
    induction es with
    | nil => intro i _; exact ⟨[], rfl, rfl, fun p hp => (by cases hp)⟩
    | cons e r ih =>
      intro i h
      obtain ⟨t, ht, e1⟩ := h 0 e rfl
      obtain ⟨sc, e2, e3, e4⟩ := ih (i + 1) fun k e hk => by
        have := h (k + 1) e hk
        rw [show i + (k + 1) = i + 1 + k by omega] at this
        exact this
      refine ⟨(g i, t) :: sc, by rw [e1, e2]; rfl, ?_, fun p hp => ?_⟩
      · rw [List.map_cons, e3, List.length_cons, List.range_succ_eq_map, List.map_cons, List.map_map]
        congr 1
        apply List.map_congr_left
        intro k _
        show g (i + 1 + k) = g (i + (k + 1))
        rw [show i + 1 + k = i + (k + 1) by omega]
      · rcases List.mem_cons.mp hp with rfl | hp
        · simpa using ht
        · exact e4 p hp
  have := key es 0 (by simpa using h)
  simpa using this
theorem fields_ok {n : Nat} (hs : Src μ j B) (hB : B ≤ 2 ^ 38) (h1 : 1 ≤ n) (h6 : n ≤ 6) : ∃ sc μ', m__law_fields [.obj j, .int n] μ = .ok (.own (.lst (sc.map pairD))) μ' ∧ SchOk sc ∧ sc.length = n ∧ Src μ' j (B + 7) ∧ Fr j μ μ' := by
  obtain ⟨r, μ1, e1, r0, r1, s1, f1⟩ := next_spec (n := 8) hs (by omega) (by omega) (by omega)
  obtain ⟨a, rfl⟩ : ∃ a : Nat, r = a := ⟨r.toNat, by omega⟩
  let δ0 : FL.Loc := [some (.fr (.obj j)), some (.fr (.int n)), some (.own (.lst (NM.map .str))), some (.fr (.int a)), none]
  obtain ⟨es, μ2, e2, l2, r2, s2, f2⟩ := lc_draw (f := tgV 4) (t := mYes) (m := e1__law_fields) (vs := [4]) (δ := δ0) (fun i μ' => Src μ' j (B + 1 + i) ∧ Fr j μ μ') (fun k e => ∃ t ∈ KN, e = pairD (nmAt a k, t)) (rangeD 0 n) 0 [] μ1 ⟨by simpa using s1, f1⟩ (fun k d μ' hd ⟨hs', hf'⟩ => by
    obtain ⟨rfl, hk⟩ := range_at hd
    rw [Nat.zero_add] at hs'
    obtain ⟨t, μ3, ht, e3, s3, f3⟩ := pick_tx (xs := KN) hs' (by omega) (by simp) (by simp)
    have g : L2.atI (NM.map D.str) (((a : Int) + (k : Int)) % 8) = some (.str (nmAt a k)) := by
      have h8 : ((a : Int) + (k : Int)) % 8 = (((a + k) % 8 : Nat) : Int) := by omega
      have hl : (a + k) % 8 < 8 := Nat.mod_lt _ (by decide)
      rw [h8]
      unfold L2.atI L2.ixN
      have c : (0 : Int) ≤ (((a + k) % 8 : Nat) : Int) := by omega
      have c2 : (((a + k) % 8 : Nat) : Int) < ((NM.map D.str).length : Int) := by simp; omega
      rw [if_pos c, if_pos c2]
      show (NM.map D.str)[((((a + k) % 8 : Nat) : Int)).toNat]? = _
      rw [Int.toNat_natCast, List.getElem?_map, nm_get]
      rfl
    refine ⟨pairD (nmAt a k, t), μ3, ?_, ⟨t, ht, by rw [Nat.zero_add]⟩, ?_, hf'.trans f3⟩
    · have l8 : (8 : Int).natAbs.log2 < 9000 := by decide +kernel
      have gm : FL.gMod (.int ((a : Int) + (k : Int))) (.int 8) = some (.fr (.int (((a : Int) + (k : Int)) % 8))) := by simp [FL.gMod, gInt]
      simp only [List.map_cons, List.map_nil] at e3 g
      rw [← ep] at e3
      unfold lc1 e1__law_fields
      generalize lit "text" = c1 at *
      generalize lit "number" = c2 at *
      simp [tgV, δ0, e3, g, gm]
    · rw [Nat.zero_add, show B + 1 + ((k + 1 : Nat) : Int) = B + 1 + k + 1 by omega]
      exact s3) (by simp [rangeD]; omega)
  rw [range_len] at l2
  obtain ⟨sc, rfl, k1, k2⟩ := sch_of (g := nmAt a) (by simpa using r2)
  rw [List.length_map] at l2 k1
  have nod : (sc.map (·.1)).Nodup := by rw [k1, l2]; exact nm_nod a (by omega) n h6
  refine ⟨sc, μ2, ?_, ⟨by omega, by omega, fun p hp => ⟨?_, k2 p hp⟩, nod⟩, l2, s2.mono (by simp [rangeD]; omega), f2⟩
  · rw [List.nil_append] at e2
    have n1 : -1000000000 ≤ (n : Int) := by omega
    have n2 : (n : Int) ≤ 1000000000 := by omega
    rw [show m__law_fields = mFn 5 b__law_fields from rfl, ev_Fn]
    unfold b__law_fields
    have s0 : mSet 2 (mLst [(mD (.str (lit "t"))), (mD (.str (lit "title"))), (mD (.str (lit "abcdefghijkl"))), (mD (.str (lit "year"))), (mD (.str (lit "z"))), (mD (.str (lit "body"))), (mD (.str (lit "x"))), (mD (.str (lit "yy")))]) (startD 5 [.obj j, .int n]) μ = .nx [some (.fr (.obj j)), some (.fr (.int n)), some (.own (.lst (NM.map .str))), none, none] μ := by simp [startD]
    have s1' : mSet 3 (mCall m__law_drawn [(mV 0), (mD (.int 8))] []) [some (.fr (.obj j)), some (.fr (.int n)), some (.own (.lst (NM.map .str))), none, none] μ = .nx δ0 μ1 := by
      rw [en]
      simp [δ0, e1]
    rw [seq_nx s0, seq_nx s1']
    have lc : mLc (mRange1 (.v 1)) (tgV 4) mYes e1__law_fields [4] δ0 μ1 = .ok (.own (.lst (sc.map pairD))) δ0 μ2 := by
      rw [ev_Lc]
      have it : mRange1 (.v 1) δ0 μ1 = .ok (rangeD 0 n) δ0 μ1 := by
        have := r1K_ok (j := (n : Int)) (δ := δ0) (μ := μ1) n1 n2
        rw [Int.toNat_natCast] at this
        rw [ev_R1]
        simpa [δ0] using this
      rw [it, ev_b1]
      exact e2
    rw [ret_m lc]
    rfl
  · have : p.1 ∈ sc.map (·.1) := List.mem_map_of_mem hp
    rw [k1] at this
    obtain ⟨k, _, e⟩ := List.mem_map.mp this
    rw [← e]
    exact nm_ky
end
end L31
namespace L31
open PySem L2 FL FL.Ix
theorem cut_take {α : Type} {xs : List α} {a : Nat} (h : a ≤ xs.length) : cutD xs none (some (a : Int)) = xs.take a := by
  unfold cutD
  rw [HT.sIx_none, HT.sIx_nat]
  simp [Nat.min_eq_left h]
theorem cut_drop {α : Type} {xs : List α} {a : Nat} (h : a ≤ xs.length) : cutD xs (some (a : Int)) none = xs.drop a := by
  unfold cutD
  rw [HT.sIx_none, HT.sIx_nat, Nat.min_eq_left h]
  exact List.take_of_length_le (by rw [List.length_drop]; exact Nat.le_refl _)
section
variable {μ : Mem} {d : D} {sc : Sch} {j : Nat} {B : Int} {n k : Tx}
abbrev ODD (n k : Tx) : List D := [.tup [.str n], .tup [.str n, .str k, .str k], .str n, .non, .tup [.int 5, .str k], .tup [.non, .str k], .tup [.str (lit ""), .str k], .tup [.str (lit "T"), .str k],
  .tup [.str (lit "a1"), .str k], .tup [.str (lit "abcdefghijklm"), .str k], .tup [.str n, .str (lit "Text")], .tup [.str n, .str (lit "")], .tup [.str n, .non], .tup [.str n, .lst [.str (lit "text")]],
  .tup [.str (lit "a b"), .str k], .tup [.tup [.str n], .str k], .tup [.bl true, .str k], .tup [.str n, .int 5]]
theorem badName {x : Tx} {b : D} (h : ¬ Ky x) (hl : x.length < 1000) : ∀ μ, Ix.m_is_field_row [.tup [.str x, b]] μ = .ok (.fr (.bl false)) μ := fun μ => rowName (by rw [nameStr hl, decide_eq_false h])
theorem odd_no (hn : Ky n) : ∀ d ∈ ODD n k, ∀ μ, Ix.m_is_field_row [d] μ = .ok (.fr (.bl false)) μ := by
  intro d hd μ
  simp only [List.mem_cons, List.not_mem_nil, or_false] at hd
  rcases hd with rfl | rfl | rfl | rfl | rfl | rfl | rfl | rfl | rfl | rfl | rfl | rfl | rfl | rfl | rfl | rfl | rfl | rfl
  · exact rowLen (by simp)
  · exact rowLen (by simp)
  · exact rowNo rfl rfl
  · exact rowNo rfl rfl
  · exact rowName (nameNo rfl)
  · exact rowName (nameNo rfl)
  · exact badName (by decide) (by decide) μ
  · exact badName (by decide) (by decide) μ
  · exact badName (by decide) (by decide) μ
  · exact badName (by decide) (by decide) μ
  · exact rowKindT hn (by rfl)
  · exact rowKindT hn (by rfl)
  · exact rowKind hn rfl rfl
  · exact rowKind hn rfl rfl
  · exact badName (by decide) (by decide) μ
  · exact rowName (nameNo rfl)
  · exact rowName (nameNo rfl)
  · exact rowKind hn rfl rfl
abbrev sl (j : Nat) (sc : Sch) (a : Int) (n k : Tx) (x5 x6 : Option FL.Slot) : FL.Loc := [some (.fr (.obj j)), some (.fr (.lst (sc.map pairD))), some (.fr (.int a)), some (.fr (.str n)), some (.fr (.str k)), x5, x6]
theorem odd1 {a : Int} : mSet 5 (mLst [(mTup [(mV 3)]), (mTup [(mV 3), (mV 4), (mV 4)]), (mV 3), (mD .non), (mTup [(mD (.int 5)), (mV 4)]), (mTup [(mD .non), (mV 4)]), (mTup [(mD (.str (lit ""))), (mV 4)]), (mTup [(mD (.str (lit "T"))), (mV 4)])]) (sl j sc a n k none none) μ = .nx (sl j sc a n k (some (.own (.lst ((ODD n k).take 8)))) none) μ := by
  unfold sl
  generalize sc.map pairD = Z
  simp
theorem odd2 {a : Int} : mSet 5 (m2 gAdd (.v 5) (.e (mLst [(mTup [(mD (.str (lit "a1"))), (mV 4)]), (mTup [(mD (.str (lit "abcdefghijklm"))), (mV 4)]), (mTup [(mV 3), (mD (.str (lit "Text")))]), (mTup [(mV 3), (mD (.str (lit "")))]), (mTup [(mV 3), (mD .non)]), (mTup [(mV 3), (mLst [(mD (.str (lit "text")))])])]))) (sl j sc a n k (some (.own (.lst ((ODD n k).take 8)))) none) μ = .nx (sl j sc a n k (some (.own (.lst ((ODD n k).take 14)))) none) μ := by
  unfold sl
  generalize sc.map pairD = Z
  simp
theorem odd3 {a : Int} : mSet 5 (m2 gAdd (.v 5) (.e (mLst [(mTup [(mD (.str (lit "a b"))), (mV 4)]), (mTup [(mTup [(mV 3)]), (mV 4)]), (mTup [(mD (.bl true)), (mV 4)]), (mTup [(mV 3), (mD (.int 5))])]))) (sl j sc a n k (some (.own (.lst ((ODD n k).take 14)))) none) μ = .nx (sl j sc a n k (some (.own (.lst (ODD n k)))) none) μ := by
  unfold sl
  generalize sc.map pairD = Z
  simp
theorem pick_d {xs : List D} (h : Src μ j B) (hB : B ≤ 2 ^ 38) (h0 : xs ≠ []) (hn : xs.length ≤ 1000) : ∃ x μ', x ∈ xs ∧ m__law_drawn_of [.obj j, .lst xs] μ = .ok (.fr x) μ' ∧ Src μ' j (B + 1) ∧ Fr j μ μ' := by
  rw [ep]
  exact pick_lst h (by omega) h0 (by omega)
theorem spoilt_ok (h : SchOk sc) (hs : Src μ j B) (hB : B ≤ 2 ^ 30) : ∃ d μ', m__law_schema_spoilt [.obj j, .lst (sc.map pairD)] μ = .ok (.fr d) μ' ∧ BadS d ∧ Src μ' j (B + 4) ∧ Fr j μ μ' := by
  have h1 := h.n1
  have h2 := h.n2
  obtain ⟨r, μ1, e1, r0, r1, s1, f1⟩ := next_spec (n := (sc.length : Int)) hs (by omega) (by omega) (by omega)
  obtain ⟨a, rfl⟩ : ∃ a : Nat, r = a := ⟨r.toNat, by omega⟩
  have ha : a < sc.length := by omega
  obtain ⟨p, hp⟩ : ∃ p, sc[a]? = some p := ⟨sc[a], List.getElem?_eq_getElem ha⟩
  have hpm := List.mem_of_getElem? hp
  have hk := (h.nm p hpm).1
  have g : L2.atI (sc.map pairD) (a : Int) = some (pairD p) := by
    unfold L2.atI L2.ixN
    have c : (0 : Int) ≤ (a : Int) := by omega
    have c2 : (a : Int) < ((sc.map pairD).length : Int) := by simp; omega
    rw [if_pos c, if_pos c2]
    show (sc.map pairD)[((a : Int)).toNat]? = _
    rw [Int.toNat_natCast, List.getElem?_map, hp]
    rfl
  obtain ⟨w, μ2, e2, w0, w1, s2, f2⟩ := next_spec (n := 4) s1 (by omega) (by omega) (by omega)
  let δ5 := sl j sc (a : Int) p.1 p.2 (some (.own (.lst (ODD p.1 p.2)))) none
  let δ6 := sl j sc (a : Int) p.1 p.2 (some (.own (.lst (ODD p.1 p.2)))) (some (.fr (.int w)))
  have q1 : mSet 2 (mCall m__law_drawn [(mV 0), (mC gLen [(.v 1)])] []) (startD 7 [.obj j, .lst (sc.map pairD)]) μ = .nx [some (.fr (.obj j)), some (.fr (.lst (sc.map pairD))), some (.fr (.int (a : Int))), none, none, none, none] μ1 := by
    have e : gLen [.lst (sc.map pairD)] = some (.fr (.int sc.length)) := by simp [gLen, gLen1]
    rw [en]
    generalize sc.map pairD = Z at *
    simp [startD, e, e1]
  have q2 : mAsg (tgT 2 (tgC (tgV 3) (tgC (tgV 4) tgN))) (m2 gIxL (.v 1) (.v 2)) [some (.fr (.obj j)), some (.fr (.lst (sc.map pairD))), some (.fr (.int (a : Int))), none, none, none, none] μ1 = .nx (sl j sc (a : Int) p.1 p.2 none none) μ1 := by
    unfold sl
    generalize sc.map pairD = Z at *
    simp [g, tgT, tgC, tgN, tgV]
  have q6 : mSet 6 (mCall m__law_drawn [(mV 0), (mD (.int 4))] []) δ5 μ1 = .nx δ6 μ2 := by
    rw [en]
    show mSet 6 _ (sl j sc (a : Int) p.1 p.2 (some (.own (.lst (ODD p.1 p.2)))) none) μ1 = .nx (sl j sc (a : Int) p.1 p.2 (some (.own (.lst (ODD p.1 p.2)))) (some (.fr (.int w)))) μ2
    unfold sl
    generalize ODD p.1 p.2 = O
    generalize sc.map pairD = Z
    simp [e2]
  have pre : ∀ (rest : MS) (s : FL.Slot) (μ3 : Mem), rest δ6 μ2 = .rt s μ3 → m__law_schema_spoilt [.obj j, .lst (sc.map pairD)] μ = .ok s μ3 → True := fun _ _ _ _ _ => trivial
  have run : ∀ (s : FL.Slot) (μ3 : Mem), (mSeq (mIfS (mTb (m2 (gEq false) (.v 6) (.e (mD (.int 0))))) (mRet (mCall m__law_drawn_of [(mV 0), (mLst [(mD .non), (mTup []), (mLst []), (mV 1), (mFrz mDct0), (mD (.str (lit "text"))), (mD (.int 5)), (mTup [(mV 1)]), (mC gTuple [(.e (m2 gMulA (.v 1) (.e (mD (.int 7)))))]), (mFrz (mC gDictP [(.v 1)]))])] []))
    mPass)
    (mSeq (mIfS (mTb (m2 (gEq false) (.v 6) (.e (mD (.int 1))))) (mRet (mC gTuple [(.e (m2 gAdd (.v 1) (.e (mLst [(mTup [(mV 3), (mCall m__law_drawn_of [(mV 0), (mLst [(mD (.str (lit "text"))), (mD (.str (lit "number")))])] [])])]))))]))
    mPass)
    (mRet (mC gTuple [(.e (m2 gAdd (.e (m2 gAdd (.e (mSl gSl (.v 1) mNoP (mP (mV 2)))) (.e (mLst [(mCall m__law_drawn_of [(mV 0), (mV 5)] [])])))) (.e (mSl gSl (.v 1) (mP (m2 gAdd (.v 2) (.e (mD (.int 1))))) mNoP))))])))) δ6 μ2 = .rt s μ3 → m__law_schema_spoilt [.obj j, .lst (sc.map pairD)] μ = .ok s μ3 := fun s μ3 e => by
    rw [show m__law_schema_spoilt = mFn 7 b__law_schema_spoilt from rfl, ev_Fn]
    unfold b__law_schema_spoilt
    rw [seq_nx q1, seq_nx q2, seq_nx odd1, seq_nx odd2, seq_nx odd3, seq_nx q6, e]
    rfl
  have t6 : ∀ (i : Int), mTb (m2 (gEq false) (.v 6) (.e (mD (.int i)))) δ6 μ2 = .ok (decide (w = i)) δ6 μ2 := fun i => by
    refine tb_b ?_
    rw [ev_2]
    show lift (gEq false (.int w) (.int i)) δ6 μ2 = _
    simp
  by_cases c0 : w = 0
  · let L10 : List D := [.non, .tup [], .lst [], .lst (sc.map pairD), .dcf [] [], .str (lit "text"), .int 5, .tup [.lst (sc.map pairD)], .tup (List.replicate 7 (sc.map pairD)).flatten, .dcf ((sc.map fun p => ((.s p.1 : DK), D.str p.2)).map (·.1)) ((sc.map fun p => ((.s p.1 : DK), D.str p.2)).map (·.2))]
    obtain ⟨x, μ3, hx, e3, s3, f3⟩ := pick_d (xs := L10) s2 (by omega) (by simp [L10]) (by simp [L10])
    refine ⟨x, μ3, run _ _ ?_, ?_, s3.mono (by omega), f1.trans (f2.trans f3)⟩
    · have m1 : gMulA (.lst (sc.map pairD)) (.int 7) = some (.own (.lst (List.replicate 7 (sc.map pairD)).flatten)) := by
        have c : (decide (-(2 ^ 63) ≤ (7 : Int)) && decide ((7 : Int) < 2 ^ 63) && decide ((sc.map pairD).length * (7 : Int).toNat ≤ 16777216)) = true := by
          have : (sc.map pairD).length * 7 ≤ 16777216 := by rw [List.length_map]; omega
          simpa using this
        show (gMul _ _).or (gRep _ _) = _
        show (none : Option FL.Slot).or _ = _
        rw [Option.none_or]
        show (if _ then _ else _) = _
        rw [if_pos c]
        rfl
      have m2' : gDictP [.lst (sc.map pairD)] = some (.own (dctO (sc.map fun p => ((.s p.1 : DK), D.str p.2)))) := by
        show (pairsD _).map _ = _
        rw [sch_pairs, Option.map_some, mergeA_nil (nod_tx h.nod)]
      have m3 : gTuple [.lst (List.replicate 7 (sc.map pairD)).flatten] = some (.fr (.tup (List.replicate 7 (sc.map pairD)).flatten)) := rfl
      have ll : mLst [(mD .non), (mTup []), (mLst []), (mV 1), (mFrz mDct0), (mD (.str (lit "text"))), (mD (.int 5)), (mTup [(mV 1)]), (mC gTuple [(.e (m2 gMulA (.v 1) (.e (mD (.int 7)))))]), (mFrz (mC gDictP [(.v 1)]))] δ6 μ2 = .ok (.own (.lst L10)) δ6 μ2 := by
        show mLst _ (sl j sc (a : Int) p.1 p.2 (some (.own (.lst (ODD p.1 p.2)))) (some (.fr (.int w)))) μ2 = .ok (.own (.lst [.non, .tup [], .lst [], .lst (sc.map pairD), .dcf [] [], .str (lit "text"), .int 5, .tup [.lst (sc.map pairD)], .tup (List.replicate 7 (sc.map pairD)).flatten, .dcf ((sc.map fun p => ((.s p.1 : DK), D.str p.2)).map (·.1)) ((sc.map fun p => ((.s p.1 : DK), D.str p.2)).map (·.2))])) (sl j sc (a : Int) p.1 p.2 (some (.own (.lst (ODD p.1 p.2)))) (some (.fr (.int w)))) μ2
        unfold sl
        have gl : ((sc.map fun p => ((.s p.1 : DK), D.str p.2)).map (·.1)).length = ((sc.map fun p => ((.s p.1 : DK), D.str p.2)).map (·.2)).length := by simp
        unfold dctO at m2'
        generalize (sc.map fun p => ((.s p.1 : DK), D.str p.2)).map (·.1) = K1 at *
        generalize (sc.map fun p => ((.s p.1 : DK), D.str p.2)).map (·.2) = K2 at *
        generalize (List.replicate 7 (sc.map pairD)).flatten = R7 at *
        generalize ODD p.1 p.2 = O at *
        generalize sc.map pairD = Z at *
        simp [m1, m2', m3, gl]
      rw [ev_Seq, ifS_t (δ1 := δ6) (μ1 := μ2) (by rw [t6, decide_eq_true c0])]
      have v0 : evA [(mV 0), mLst [(mD .non), (mTup []), (mLst []), (mV 1), (mFrz mDct0), (mD (.str (lit "text"))), (mD (.int 5)), (mTup [(mV 1)]), (mC gTuple [(.e (m2 gMulA (.v 1) (.e (mD (.int 7)))))]), (mFrz (mC gDictP [(.v 1)]))]] δ6 μ2 = .ok [.obj j, .lst L10] δ6 μ2 := by
        rw [ev_evA1, v_fr (a := 0) (d := .obj j) rfl, ev_b1, ev_evA1, ll]
        rfl
      have cl : mCall m__law_drawn_of [(mV 0), mLst [(mD .non), (mTup []), (mLst []), (mV 1), (mFrz mDct0), (mD (.str (lit "text"))), (mD (.int 5)), (mTup [(mV 1)]), (mC gTuple [(.e (m2 gMulA (.v 1) (.e (mD (.int 7)))))]), (mFrz (mC gDictP [(.v 1)]))]] [] δ6 μ2 = .ok (.fr x) δ6 μ3 := by
        simp only [ev_Call, v0, ev_b1, List.append_nil, e3]
      rw [ret_m cl]
      rfl
    · simp only [L10, List.mem_cons, List.not_mem_nil, or_false] at hx
      rcases hx with rfl | rfl | rfl | rfl | rfl | rfl | rfl | rfl | rfl | rfl
      · exact badNo (fun _ => rfl) rfl
      · exact badLen (.inl rfl)
      · exact badNo (fun _ => rfl) rfl
      · exact badNo (fun _ => rfl) rfl
      · exact badNo (fun _ => rfl) rfl
      · exact badNo (fun _ => rfl) rfl
      · exact badNo (fun _ => rfl) rfl
      · exact badRow (by simp) (by simp) (fun _ => false) (fun μ d hd => by
          rw [List.mem_singleton.mp hd]
          exact rowNo rfl rfl) rfl
      · exact badLen (.inr (by simp; omega))
      · exact badNo (fun _ => rfl) rfl
  · have st0 : ∀ (q : MS), mIfS (mTb (m2 (gEq false) (.v 6) (.e (mD (.int 0))))) q mPass δ6 μ2 = .nx δ6 μ2 := fun q => by
      rw [ifS_f (δ1 := δ6) (μ1 := μ2) (by rw [t6, decide_eq_false c0])]
      rfl
    by_cases c1 : w = 1
    · obtain ⟨x, μ3, hx, e3, s3, f3⟩ := pick_d (xs := [.str (lit "text"), .str (lit "number")]) s2 (by omega) (by simp) (by simp)
      obtain ⟨k, hk2, rfl⟩ : ∃ k, (k = lit "text" ∨ k = lit "number") ∧ x = .str k := by
        simp only [List.mem_cons, List.not_mem_nil, or_false] at hx
        rcases hx with rfl | rfl
        · exact ⟨_, .inl rfl, rfl⟩
        · exact ⟨_, .inr rfl, rfl⟩
      refine ⟨schT (sc ++ [(p.1, k)]), μ3, run _ _ ?_, ?_, s3.mono (by omega), f1.trans (f2.trans f3)⟩
      · rw [seq_nx (st0 _), ev_Seq, ifS_t (δ1 := δ6) (μ1 := μ2) (by rw [t6, decide_eq_true c1])]
        have eq : schT (sc ++ [(p.1, k)]) = .tup (sc.map pairD ++ [.tup [.str p.1, .str k]]) := by simp
        rw [eq]
        show (mRet _ (sl j sc (a : Int) p.1 p.2 (some (.own (.lst (ODD p.1 p.2)))) (some (.fr (.int w)))) μ2).seq _ = _
        unfold sl
        have l1 : (sc.map pairD).length + 1 ≤ 16777216 := by rw [List.length_map]; omega
        have m3 : ∀ zs : List D, gTuple [.lst zs] = some (.fr (.tup zs)) := fun _ => rfl
        generalize ODD p.1 p.2 = O at *
        generalize sc.map pairD = Z at *
        simp [e3, l1, m3]
      · by_cases l5 : sc.length ≤ 5
        · exact badDup l5 h.nm ⟨hk, hk2⟩ (List.mem_map_of_mem (f := (·.1)) hpm)
        · exact badLen (.inr (by simp; omega))
    · obtain ⟨x, μ3, hx, e3, s3, f3⟩ := pick_d (xs := ODD p.1 p.2) s2 (by omega) (by simp) (by simp)
      refine ⟨.tup ((sc.map pairD).take a ++ [x] ++ (sc.map pairD).drop (a + 1)), μ3, run _ _ ?_, ?_, s3.mono (by omega), f1.trans (f2.trans f3)⟩
      · have st1 : ∀ (q : MS), mIfS (mTb (m2 (gEq false) (.v 6) (.e (mD (.int 1))))) q mPass δ6 μ2 = .nx δ6 μ2 := fun q => by
          rw [ifS_f (δ1 := δ6) (μ1 := μ2) (by rw [t6, decide_eq_false c1])]
          rfl
        rw [seq_nx (st0 _), seq_nx (st1 _)]
        show mRet _ (sl j sc (a : Int) p.1 p.2 (some (.own (.lst (ODD p.1 p.2)))) (some (.fr (.int w)))) μ2 = _
        unfold sl
        have k1 : cutD (sc.map pairD) none (some (a : Int)) = (sc.map pairD).take a := cut_take (by rw [List.length_map]; omega)
        have k2 : cutD (sc.map pairD) (some ((a : Int) + 1)) none = (sc.map pairD).drop (a + 1) := by
          have := cut_drop (xs := sc.map pairD) (a := a + 1) (by rw [List.length_map]; omega)
          simpa using this
        have m3 : ∀ zs : List D, gTuple [.lst zs] = some (.fr (.tup zs)) := fun _ => rfl
        have l1 : ((sc.map pairD).take a).length + 1 ≤ 16777216 := by rw [List.length_take, List.length_map]; omega
        have l2 : (((sc.map pairD).take a) ++ [x]).length + ((sc.map pairD).drop (a + 1)).length ≤ 16777216 := by simp; omega
        generalize ODD p.1 p.2 = O at *
        generalize (sc.map pairD).take a = T1 at *
        generalize (sc.map pairD).drop (a + 1) = T2 at *
        generalize sc.map pairD = Z at *
        simp only [List.length_append, List.length_singleton] at l2
        simp [e3, k1, k2, l1, l2, m3]
      · have hn := odd_no (k := p.2) hk x hx
        have hlen : ((sc.map pairD).take a ++ [x] ++ (sc.map pairD).drop (a + 1)).length = sc.length := by simp; omega
        refine badRow (by omega) (by omega) (fun d => @decide (d ≠ x) (Classical.propDecidable _)) (fun μ d hd => ?_) ?_
        · by_cases c : d = x
          · subst c
            rw [hn μ]
            simp
          · have : d ∈ sc.map pairD := by
              rcases List.mem_append.mp hd with hd | hd
              · rcases List.mem_append.mp hd with hd | hd
                · exact List.mem_of_mem_take hd
                · exact absurd (List.mem_singleton.mp hd) c
              · exact List.mem_of_mem_drop hd
            obtain ⟨q, hq, rfl⟩ := List.mem_map.mp this
            rw [fieldRow (h.nm q hq).1 (h.nm q hq).2]
            simp [c]
        · rw [Bool.eq_false_iff]
          intro z
          have := List.all_eq_true.mp z x (by simp)
          simp at this
end
end L31
namespace L31
open PySem L2 FL FL.Ix
abbrev tab0 (tb : Nat → Addr) : Own := .tab (tb 0) (Str.ofString "law.<locals>.<lambda>")
theorem hide_at {δ : FL.Loc} {i : Nat} {d : D} (h : δ[i]? = some (some (.fr d))) : (hide δ)[i]? = some (some (.fr d)) := by
  unfold hide
  rw [List.getElem?_map, h]
  rfl
section
variable {tb : Nat → Addr} {μ : Mem} {d : D} {sc : Sch} {j : Nat} {B : Int} {δ : FL.Loc}
theorem lam_bad {i : Nat} (ht : μ[0]? = some (tab0 tb)) (hb : BadS d) (hd : δ[i]? = some (some (.fr d))) : mLam m__law_error_of 0 (tb 0) "law.<locals>.<lambda>" (mCallK (mkS "Index" m_iIndex) [.pos 0] [(mV i)] [] []) δ μ = .ok (.fr (.tup [.str (lit "schema"), .str []])) δ (μ ++ [.ins "Index" (μ.length + 1) [] [], .idc μ.length]) := by
  obtain ⟨v, e⟩ := badIdx (μ := μ) hb
  rw [x_er]
  refine lam_err (c := "BadSchema") (a := "reason") (v := v) (δ' := hide δ) ht ?_ (by kernel_rfl) err
  have ev := v_fr (μ := μ) (hide_at hd)
  simp only [ec_CallK, ev_evA1, ev_evA0, ev, ev_b1, ec_pick1, ec_sel1, List.getElem?_cons_zero, ec_pick0, ev_dfr, e]
theorem due_same : gEq true (.tup [.str (lit "schema"), .str []]) (.tup [.str (lit "schema"), .str []]) = some (FL.tb false) := by
  refine Lay.same (d := 1) true (Lay.tup (d := 0) fun x hx => ?_) (by decide) (by rfl)
  simp only [List.mem_cons, List.not_mem_nil, or_false] at hx
  rcases hx with rfl | rfl
  · exact Lay.str (by decide)
  · exact Lay.str (by decide)
theorem refused {i : Nat} (ht : μ[0]? = some (tab0 tb)) (hb : BadS d) (hd : δ[i]? = some (some (.fr d))) (p : MS) : mIfS (mTb (m2 (gEq true) (.e (mLam m__law_error_of 0 (tb 0) "law.<locals>.<lambda>" (mCallK (mkS "Index" m_iIndex) [.pos 0] [(mV i)] [] []))) (.e (mTup [(mD (.str (lit "schema"))), (mD (.str (lit "")))])))) p mPass δ μ = .nx δ (μ ++ [.ins "Index" (μ.length + 1) [] [], .idc μ.length]) := by
  have e := lam_bad ht hb hd
  have le : lit "" = [] := by decide
  have ds := due_same
  rw [ifS_f (δ1 := δ) (μ1 := μ ++ [.ins "Index" (μ.length + 1) [] [], .idc μ.length]) (by
    refine tb_b ?_
    rw [ev_2, ev_e, e, le]
    simp [ds])]
  rfl
theorem tab_app {ν : Mem} (ht : μ[0]? = some (tab0 tb)) : (μ ++ ν)[0]? = some (tab0 tb) := by
  rw [List.getElem?_append_left (List.getElem?_eq_some_iff.mp ht).1]; exact ht
theorem tab_fr {μ' : Mem} (ht : μ[0]? = some (tab0 tb)) (f : Fr j μ μ') (h0 : j ≠ 0) : μ'[0]? = some (tab0 tb) := by
  rw [f.2 0 (Ne.symm h0)]; exact ht
abbrev lc9 (x0 x1 : Option FL.Slot) (j : Nat) (s3 : FL.Slot) (x4 x5 x6 x7 x8 : Option FL.Slot) : FL.Loc := [x0, x1, some (.fr (.obj j)), some s3, x4, x5, x6, x7, x8]
theorem turn_ok {x0 x1 x4 x5 x6 x7 x8 : Option FL.Slot} {i : Int} {s3 : FL.Slot} (h3 : s3.d = .lst (sc.map pairD)) (ht : μ[0]? = some (tab0 tb)) (h0 : j ≠ 0) (hj : j < μ.length) (h : SchOk sc) (hs : Src μ j B) (hB : B ≤ 2 ^ 30) :
    ∃ d μ', (turnD (tgV 6) (f1_law tb)) (.int i) (lc9 x0 x1 j s3 x4 x5 x6 x7 x8) μ = .nx (lc9 x0 x1 j (.fr (.lst (sc.map pairD))) x4 x5 (some (.fr (.int i))) (some (.fr d)) x8) μ' ∧ μ'[0]? = some (tab0 tb) ∧ j < μ'.length ∧ Src μ' j (B + 4) := by
  obtain ⟨d, μ1, e1, hb, s1, f1⟩ := spoilt_ok h hs hB
  have t1 := tab_fr ht f1 h0
  refine ⟨d, _, ?_, tab_app t1 (ν := [.ins "Index" (μ1.length + 1) [] [], .idc μ1.length]), by rw [List.length_append, f1.1]; omega, FL.Src.agr s1 Agr.app (by simp)⟩
  rw [ev_turn]
  show f1_law tb (lc9 x0 x1 j s3 x4 x5 (some (.fr (.int i))) x7 x8) μ = _
  unfold f1_law
  have q : mSet 7 (mCall m__law_schema_spoilt [(mV 2), (mV 3)] []) (lc9 x0 x1 j s3 x4 x5 (some (.fr (.int i))) x7 x8) μ = .nx (lc9 x0 x1 j (.fr (.lst (sc.map pairD))) x4 x5 (some (.fr (.int i))) (some (.fr d)) x8) μ1 := by
    unfold lc9
    generalize sc.map pairD = Z at *
    simp [h3, e1]
  rw [seq_nx q]
  exact refused (i := 7) t1 hb rfl _
theorem told_same : gEq true (.lst [schT sc, .int 0, .int 0, .tup [], .tup [], .int 0]) (.lst [schT sc, .int 0, .int 0, .tup [], .tup [], .int 0]) = some (FL.tb false) ∨ ¬ SchOk sc := by
  by_cases h : SchOk sc
  · left
    refine Lay.same (d := 3) true (Lay.lst fun x hx => ?_) (by decide) (by rfl)
    simp only [List.mem_cons, List.not_mem_nil, or_false] at hx
    rcases hx with rfl | rfl | rfl | rfl | rfl | rfl
    · refine Lay.tup (d := 1) fun y hy => ?_
      obtain ⟨p, hp, rfl⟩ := List.mem_map.mp hy
      obtain ⟨a1, a2⟩ := h.ascii p hp
      refine Lay.tup (d := 0) fun z hz => ?_
      simp only [List.mem_cons, List.not_mem_nil, or_false] at hz
      rcases hz with rfl | rfl
      · exact Lay.str a1
      · exact Lay.str a2
    · exact Lay.int.mono (by decide)
    · exact Lay.int.mono (by decide)
    · exact (Lay.tup (d := 0) fun x hx => (by cases hx)).mono (by decide)
    · exact (Lay.tup (d := 0) fun x hx => (by cases hx)).mono (by decide)
    · exact Lay.int.mono (by decide)
  · exact .inr h
end
end L31
namespace FL
open PySem L2
def Fw (j : Nat) (μ μ' : Mem) : Prop := μ.length ≤ μ'.length ∧ ∀ k : Nat, k < μ.length → k ≠ j → μ'[k]? = μ[k]?
theorem Fr.w {j : Nat} {μ μ' : Mem} (h : Fr j μ μ') : Fw j μ μ' := ⟨Nat.le_of_eq h.1.symm, fun k _ hk => h.2 k hk⟩
theorem Fw.trans {j : Nat} {μ μ1 μ2 : Mem} (a : Fw j μ μ1) (b : Fw j μ1 μ2) : Fw j μ μ2 := ⟨Nat.le_trans a.1 b.1, fun k hk hj => (b.2 k (by have := a.1; omega) hj).trans (a.2 k hk hj)⟩
theorem Fw.at0 {j : Nat} {μ μ' : Mem} {o : Own} (h : Fw j μ μ') (hj : j ≠ 0) (e : μ[0]? = some o) : μ'[0]? = some o := by
  rw [h.2 0 (List.getElem?_eq_some_iff.mp e).1 (Ne.symm hj)]; exact e
end FL
namespace L31
open PySem L2 FL FL.Ix
section
variable {tb : Nat → Addr} {μ : Mem} {d : D} {sc : Sch} {j ix kd : Nat} {B : Int} {δ : FL.Loc} {ns : List Int}
abbrev emp (d : D) (kd : Nat) : Own := .ins "Index" kd ksI [d, .dcf [] [], .lst []]
theorem t_size (h : μ[ix]? = some (emp d kd)) : m_View_size [.obj ix] μ = .ok (.fr (.int 0)) μ := by
  have g : gLenD [.dcf [] []] = some (.fr (.int 0)) := by rfl
  rw [show m_View_size = mFn 1 b_View_size from rfl, ev_Fn]
  unfold b_View_size
  simp [startD, h, aK, g]
theorem t_len (h : μ[ix]? = some (emp d kd)) : m_sr___len__ [.obj ix] μ = .ok (.fr (.int 0)) μ := by
  have g : gLenD [.dcf [] []] = some (.fr (.int 0)) := by rfl
  rw [show m_sr___len__ = mFn 1 b_sr___len__ from rfl, ev_Fn]
  unfold b_sr___len__
  simp [startD, h, aK, g]
theorem t_keys (h : μ[ix]? = some (emp d kd)) : m_View_all_keys [.obj ix] μ = .ok (.fr (.tup [])) μ := by
  have g : gSortK [.dcf [] []] = some (.own (.lst [])) := by
    show gSortK1 _ = _
    unfold gSortK1
    simp [dctOf, ordT]
  have g2 : gTuple [.lst []] = some (.fr (.tup [])) := rfl
  rw [show m_View_all_keys = mFn 1 b_View_all_keys from rfl, ev_Fn]
  unfold b_View_all_keys
  simp [startD, h, aK, g, g2]
theorem t_segs (h : μ[ix]? = some (emp d kd)) : m_Index_segments [.obj ix] μ = .ok (.fr (.tup [])) μ := by
  have g2 : gTuple [.lst []] = some (.fr (.tup [])) := rfl
  rw [show m_Index_segments = mFn 2 b_Index_segments from rfl, ev_Fn]
  unfold b_Index_segments
  simp [startD, h, aP, lcD, g2]
theorem t_voc (h : μ[ix]? = some (emp d kd)) : m_View_vocabulary [.obj ix] μ = .ok (.fr (.int 0)) μ := by
  have g : gLenD [.dct [] []] = some (.fr (.int 0)) := by rfl
  rw [show m_View_vocabulary = mFn 6 b_View_vocabulary from rfl, ev_Fn]
  unfold b_View_vocabulary
  simp [startD, h, aK, g, forD]
theorem prop_v {pt : String → String → Option MF} {f : String} {m : MF} {i : Nat} {s : FL.Slot} (h : μ[ix]? = some (emp d kd)) (hp : pt "Index" f = some m) (hm : m [.obj ix] μ = .ok s μ) (hv : δ[i]? = some (some (.fr (.obj ix)))) : mProp pt f (.v i) δ μ = .ok s δ μ := by
  have hi : insOf μ (.obj ix) = some ("Index", ksI, [d, .dcf [] [], .lst []]) := by simp [h]
  rw [ec_Prop]
  have e0 : (Opn.v i).ev δ μ = .ok (.i i) δ μ := by rw [ev_v, hv]
  have e1 : (OR.i i).self δ = some (.obj ix) := by rw [ec_sf2, hv]
  rw [e0, ev_b1]
  simp only [e1, hi, hp, hm]
theorem told_v (h : μ[ix]? = some (emp d kd)) (hv : δ[4]? = some (some (.fr (.obj ix)))) : mLst [(mAt at_ "schema" (.v 4)), (mProp pt_size "size" (.v 4)), (mLenO mt___len__ (mV 4)), (mProp pt_all_keys "all_keys" (.v 4)), (mProp pt_segments "segments" (.v 4)), (mProp pt_vocabulary "vocabulary" (.v 4))] δ μ = .ok (.own (.lst [d, .int 0, .int 0, .tup [], .tup [], .int 0])) δ μ := by
  have hi : insOf μ (.obj ix) = some ("Index", ksI, [d, .dcf [] [], .lst []]) := by simp [h]
  have e0 : (Opn.v 4).ev δ μ = .ok (.i 4) δ μ := by rw [ev_v, hv]
  have e1 : (OR.i 4).self δ = some (.obj ix) := by rw [ec_sf2, hv]
  have p1 : mAt at_ "schema" (.v 4) δ μ = .ok (.fr d) δ μ := by
    rw [ec_At, e0, ev_b1]
    simp [e1, h, aS]
  have p2 := prop_v h pSize (t_size h) hv
  have p3 : mLenO mt___len__ (mV 4) δ μ = .ok (.fr (.int 0)) δ μ := by
    have hm : mt___len__ "Index" "__len__" 0 = some m_sr___len__ := rfl
    rw [ev_LenO, v_fr hv, ev_b1]
    simp only [ev_dfr, hi, hm, t_len h]
    simp
  have p4 := prop_v h pKeys (t_keys h) hv
  have p5 := prop_v h pSegs (t_segs h) hv
  have p6 := prop_v h pVoc (t_voc h) hv
  generalize mAt at_ "schema" (.v 4) = Q1 at *
  generalize mProp pt_size "size" (.v 4) = Q2 at *
  generalize mLenO mt___len__ (mV 4) = Q3 at *
  generalize mProp pt_all_keys "all_keys" (.v 4) = Q4 at *
  generalize mProp pt_segments "segments" (.v 4) = Q5 at *
  generalize mProp pt_vocabulary "vocabulary" (.v 4) = Q6 at *
  simp [p1, p2, p3, p4, p5, p6]
theorem cell_ok {k : Nat} (hl : ns.length ≤ 63) (hk : k < 3) (ht : μ[0]? = some (tab0 tb)) {r : FL.Loc} (hr : r.length = 8) : ∃ r' μ', (turnD (tgV 1) (f2_law tb)) (.int (k : Nat)) (some (.fr (.ro (ns.map .int))) :: r) μ = .nx (some (.fr (.ro (ns.map .int))) :: r') μ' ∧ r'.length = 8 ∧ μ'[0]? = some (tab0 tb) := by
  match r, hr with
  | [a1, a2, a3, a4, a5, a6, a7, a8], _ =>
  obtain ⟨μ1, e1, s1, o1⟩ := source_src (ns := ns) (k := (k : Int)) (μ := μ) hl (by omega) (by omega)
  have lt0 := (List.getElem?_eq_some_iff.mp ht).1
  have t1 : μ1[0]? = some (tab0 tb) := by rw [o1 0 lt0]; exact ht
  have j0 : μ.length ≠ 0 := by omega
  have jl : μ.length < μ1.length := by
    obtain ⟨xs, e⟩ := s1.cell
    exact (List.getElem?_eq_some_iff.mp e).1
  generalize hj : μ.length = j at *
  obtain ⟨n, μ2, e2, n0, n6, s2, f2⟩ := next_spec (n := 6) s1 (by omega) (by omega) (by omega)
  obtain ⟨m, rfl⟩ : ∃ m : Nat, n = m := ⟨n.toNat, by omega⟩
  obtain ⟨sc, μ3, e3, hsc, hlen, s3, f3⟩ := fields_ok (n := 1 + m) s2 (by omega) (by omega) (by omega)
  have t3 := tab_fr (tab_fr t1 f2 j0) f3 j0
  have jl3 : j < μ3.length := by rw [f3.1, f2.1]; exact jl
  let X : D := .ro (ns.map .int)
  have ei := iIdx (μ := μ3) (d := schT sc) (needT hsc)
  generalize hM : μ3 ++ [.ins "Index" (μ3.length + 1) ksI [schT sc, .dcf [] [], .lst []], .idc μ3.length] = M at ei
  have hx : M[μ3.length]? = some (emp (schT sc) (μ3.length + 1)) := by rw [← hM]; simp
  have t4 : M[0]? = some (tab0 tb) := by rw [← hM]; exact tab_app t3
  have s4 : Src M j (3 * (k : Int) + 1 + 7) := by rw [← hM]; exact FL.Src.agr s3 Agr.app (by simp)
  have jl4 : j < M.length := by rw [← hM, List.length_append]; omega
  let δ3 : FL.Loc := [some (.fr X), some (.fr (.int (k : Nat))), some (.fr (.obj j)), some (.own (.lst (sc.map pairD))), a4, a5, a6, a7, a8]
  let δ4 : FL.Loc := [some (.fr X), some (.fr (.int (k : Nat))), some (.fr (.obj j)), some (.own (.lst (sc.map pairD))), some (.fr (.obj μ3.length)), a5, a6, a7, a8]
  let δ5 : FL.Loc := [some (.fr X), some (.fr (.int (k : Nat))), some (.fr (.obj j)), some (.own (.lst (sc.map pairD))), some (.fr (.obj μ3.length)), some (.own (.lst [schT sc, .int 0, .int 0, .tup [], .tup [], .int 0])), a6, a7, a8]
  have q2 : mSet 2 (mCall m__law_drawer [(mV 0), (mV 1)] []) [some (.fr X), some (.fr (.int (k : Nat))), a2, a3, a4, a5, a6, a7, a8] μ = .nx [some (.fr X), some (.fr (.int (k : Nat))), some (.fr (.obj j)), a3, a4, a5, a6, a7, a8] μ1 := by
    rw [es]
    show mSet 2 _ [some (.fr (.ro (ns.map .int))), some (.fr (.int (k : Nat))), a2, a3, a4, a5, a6, a7, a8] μ = .nx [some (.fr (.ro (ns.map .int))), some (.fr (.int (k : Nat))), some (.fr (.obj j)), a3, a4, a5, a6, a7, a8] μ1
    generalize ns.map D.int = NS at *
    simp [e1]
  have q3 : mSet 3 (mCall m__law_fields [(mV 2), (m2 gAdd (.e (mD (.int 1))) (.e (mCall m__law_drawn [(mV 2), (mD (.int 6))] [])))] []) [some (.fr X), some (.fr (.int (k : Nat))), some (.fr (.obj j)), a3, a4, a5, a6, a7, a8] μ1 = .nx δ3 μ3 := by
    rw [en]
    have e3' : m__law_fields [.obj j, .int (1 + (m : Int))] μ2 = .ok (.own (.lst (sc.map pairD))) μ3 := by
      have : ((1 + m : Nat) : Int) = 1 + (m : Int) := by omega
      rw [← this]; exact e3
    show mSet 3 _ [some (.fr X), some (.fr (.int (k : Nat))), some (.fr (.obj j)), a3, a4, a5, a6, a7, a8] μ1 = .nx [some (.fr X), some (.fr (.int (k : Nat))), some (.fr (.obj j)), some (.own (.lst (sc.map pairD))), a4, a5, a6, a7, a8] μ3
    generalize sc.map pairD = Z at *
    clear_value X
    simp [e2, e3']
  have q4 : mSet 4 (mCallK (mkS "Index" m_iIndex) [.pos 0] [(mC gTuple [(.v 3)])] [] []) δ3 μ3 = .nx δ4 M := by
    have g : gTuple [.lst (sc.map pairD)] = some (.fr (schT sc)) := rfl
    show mSet 4 _ [some (.fr X), some (.fr (.int (k : Nat))), some (.fr (.obj j)), some (.own (.lst (sc.map pairD))), a4, a5, a6, a7, a8] μ3 = .nx [some (.fr X), some (.fr (.int (k : Nat))), some (.fr (.obj j)), some (.own (.lst (sc.map pairD))), some (.fr (.obj μ3.length)), a5, a6, a7, a8] M
    generalize schT sc = SS at *
    generalize sc.map pairD = Z at *
    clear_value X
    simp [g, ei]
  have q5 : mSet 5 (mLst [(mAt at_ "schema" (.v 4)), (mProp pt_size "size" (.v 4)), (mLenO mt___len__ (mV 4)), (mProp pt_all_keys "all_keys" (.v 4)), (mProp pt_segments "segments" (.v 4)), (mProp pt_vocabulary "vocabulary" (.v 4))]) δ4 M = .nx δ5 M := set_m (told_v (δ := δ4) hx rfl)
  have q6 : ∀ p : MS, mIfS (mTb (m2 (gEq true) (.v 5) (.e (mLst [(mC gTuple [(.v 3)]), (mD (.int 0)), (mD (.int 0)), (mTup []), (mTup []), (mD (.int 0))])))) p mPass δ5 M = .nx δ5 M := fun p => by
    have g : gTuple [.lst (sc.map pairD)] = some (.fr (schT sc)) := rfl
    have sm := (told_same (sc := sc)).resolve_right (fun z => z hsc)
    show mIfS _ p mPass [some (.fr X), some (.fr (.int (k : Nat))), some (.fr (.obj j)), some (.own (.lst (sc.map pairD))), some (.fr (.obj μ3.length)), some (.own (.lst [schT sc, .int 0, .int 0, .tup [], .tup [], .int 0])), a6, a7, a8] M = .nx [some (.fr X), some (.fr (.int (k : Nat))), some (.fr (.obj j)), some (.own (.lst (sc.map pairD))), some (.fr (.obj μ3.length)), some (.own (.lst [schT sc, .int 0, .int 0, .tup [], .tup [], .int 0])), a6, a7, a8] M
    generalize schT sc = SS at *
    generalize sc.map pairD = Z at *
    clear_value X
    simp [g, sm]
  have lp := forNx (g := turnD (tgV 6) (f1_law tb)) (fun i δ' μ' => ∃ s3 y6 y7, s3.d = .lst (sc.map pairD) ∧ δ' = lc9 (some (.fr X)) (some (.fr (.int (k : Nat)))) j s3 (some (.fr (.obj μ3.length))) (some (.own (.lst [schT sc, .int 0, .int 0, .tup [], .tup [], .int 0]))) y6 y7 a8 ∧ μ'[0]? = some (tab0 tb) ∧ j < μ'.length ∧ Src μ' j (3 * (k : Int) + 1 + 7 + 4 * i)) (ds := rangeD 0 4) (δ := δ5) (μ := M)
    ⟨.own (.lst (sc.map pairD)), a6, a7, rfl, rfl, t4, jl4, by simpa using s4⟩ (fun i d δ μ' hd ⟨s3, y6, y7, h3, hδ, ht', hj', hs'⟩ => by
      subst hδ
      obtain ⟨rfl, hi⟩ := range_at hd
      obtain ⟨d', μ5, e5, t5, jl5, s5⟩ := turn_ok (x0 := some (.fr X)) (x1 := some (.fr (.int (k : Nat)))) (x4 := some (.fr (.obj μ3.length))) (x5 := some (.own (.lst [schT sc, .int 0, .int 0, .tup [], .tup [], .int 0]))) (x6 := y6) (x7 := y7) (x8 := a8) (i := (i : Int)) h3 ht' j0 hj' hsc hs' (by omega)
      exact ⟨_, _, e5, _, _, _, rfl, rfl, t5, jl5, by rw [show 3 * (k : Int) + 1 + 7 + 4 * ((i + 1 : Nat) : Int) = 3 * (k : Int) + 1 + 7 + 4 * i + 4 by omega]; exact s5⟩)
  obtain ⟨δ7, μ7, e7, s3, y6, y7, h3, rfl, t7, _, _⟩ := lp
  refine ⟨[some (.fr (.int (k : Nat))), some (.fr (.obj j)), some s3, some (.fr (.obj μ3.length)), some (.own (.lst [schT sc, .int 0, .int 0, .tup [], .tup [], .int 0])), y6, y7, a8], μ7, ?_, rfl, t7⟩
  · rw [ev_turn]
    show f2_law tb [some (.fr X), some (.fr (.int (k : Nat))), a2, a3, a4, a5, a6, a7, a8] μ = _
    unfold f2_law
    rw [seq_nx q2, seq_nx q3, seq_nx q4, seq_nx q5, seq_nx (q6 _), ev_For]
    have r4 : mRange1 (.e (mD (.int 4))) δ5 M = .ok (rangeD 0 4) δ5 M := by
      rw [ev_R1]
      have := r1K_ok (j := 4) (δ := δ5) (μ := M) (by decide) (by decide)
      simpa using this
    rw [r4, ev_t1, e7]
theorem loops_ok (hl : ns.length ≤ 63) (ht : μ[0]? = some (tab0 tb)) {rest : FL.Loc} (hr : rest.length = 8) : Nx (mFor (mRange1 (.e (mC gMax2 [(.e (mD (.int 1))), (.e (mC gMin2 [(.e (mD (.int 3))), (.e (mC gLen [(.v 0)]))]))]))) (tgV 1) (f2_law tb) (some (.fr (.ro (ns.map .int))) :: rest) μ) fun δ' μ' => ∃ r', r'.length = 8 ∧ δ' = some (.fr (.ro (ns.map .int))) :: r' ∧ μ'[0]? = some (tab0 tb) := by
  refine cells_rangeN (N := 3) (by decide) (by decide) rfl fun K k1 k3 => ?_
  have := forNx (g := turnD (tgV 1) (f2_law tb)) (fun i δ' μ' => ∃ r', r'.length = 8 ∧ δ' = some (.fr (.ro (ns.map .int))) :: r' ∧ μ'[0]? = some (tab0 tb)) (ds := rangeD 0 K.toNat) (δ := some (.fr (.ro (ns.map .int))) :: rest) (μ := μ) ⟨rest, hr, rfl, ht⟩
    (fun i d δ μ' hd ⟨r', hr', e0, ht'⟩ => by
      obtain ⟨rfl, hi⟩ := range_at hd
      subst e0
      obtain ⟨r2, μ2, e, h2, t2⟩ := cell_ok (μ := μ') (k := i) hl (by omega) ht' hr'
      exact ⟨_, _, e, r2, h2, rfl, t2⟩)
  exact this
end
end L31
namespace L31
open PySem L2 FL FL.Ix
abbrev sc7 : Sch := [([97], lit "text"), ([98], lit "text"), ([99], lit "text"), ([100], lit "text"), ([101], lit "text"), ([102], lit "text"), ([103], lit "text")]
abbrev sc6 : Sch := [([97], lit "text"), ([98], lit "text"), ([99], lit "text"), ([100], lit "text"), ([101], lit "text"), ([102], lit "text")]
theorem sc6_ok : SchOk sc6 := by
  refine ⟨by decide, by decide, ?_, by decide⟩
  have : ∀ p ∈ sc6, Ky p.1 ∧ (p.2 = lit "text" ∨ p.2 = lit "number") := by decide
  exact this
theorem abc : lit "abcdefg" = [97, 98, 99, 100, 101, 102, 103] := by decide
section
variable {tb : Nat → Addr} {μ : Mem} {ns : List Int}
theorem seven_lc {x1 : Option FL.Slot} {x0 x2 x3 x4 x5 x6 x7 x8 : Option FL.Slot} : lcD (tgV 1) mYes (e3_law tb) [1] (rangeD 0 7) [] [x0, none, x2, x3, x4, x5, x6, x7, x8] μ = .ok (.own (.lst (sc7.map pairD))) [x0, none, x2, x3, x4, x5, x6, x7, x8] μ := by
  have r7 : rangeD 0 7 = [.int 0, .int 1, .int 2, .int 3, .int 4, .int 5, .int 6] := by rfl
  have g : ∀ i : Int, gIxL (.str [97, 98, 99, 100, 101, 102, 103]) (.int i) = (L2.atI [97, 98, 99, 100, 101, 102, 103] i).map fun c => .fr (.str [c]) := fun i => by
    simp [gIxL]
    try rfl
  have at0 : ∀ (i : Int) (c : Nat), L2.atI [97, 98, 99, 100, 101, 102, 103] i = some c → gIxL (.str [97, 98, 99, 100, 101, 102, 103]) (.int i) = some (.fr (.str [c])) := fun i c h => by rw [g, h]; rfl
  have g0 := at0 0 97 rfl
  have g1 := at0 1 98 rfl
  have g2 := at0 2 99 rfl
  have g3 := at0 3 100 rfl
  have g4 := at0 4 101 rfl
  have g5 := at0 5 102 rfl
  have g6 := at0 6 103 rfl
  rw [r7]
  have one : ∀ (i : Int) (c : Nat), gIxL (.str [97, 98, 99, 100, 101, 102, 103]) (.int i) = some (.fr (.str [c])) → lc1 (tgV 1) mYes (e3_law tb) [1] (.int i) [x0, none, x2, x3, x4, x5, x6, x7, x8] μ = .ok (some (pairD ([c], lit "text"))) [x0, none, x2, x3, x4, x5, x6, x7, x8] μ := fun i c h => by
    unfold lc1 e3_law
    rw [abc]
    simp [tgV, h]
  simp only [lcD_one, one 0 97 g0, one 1 98 g1, one 2 99 g2, one 3 100 g3, one 4 101 g4, one 5 102 g5, one 6 103 g6, ev_b1, List.length_nil, List.length_cons, List.length_append, List.nil_append, List.cons_append]
  simp [lcD]
theorem law_ok (tb : Nat → Addr) (ns : List Int) (hl : ns.length ≤ 63) : ∃ μ, m_law tb [.ro (ns.map .int)] [.tab (tb 0) (Str.ofString "law.<locals>.<lambda>")] = .ok (.fr (.bl true)) μ := by
  obtain ⟨δ1, μ0, e0, r', hr', rfl, t0⟩ := loops_ok (tb := tb) (ns := ns) (μ := [tab0 tb]) hl rfl (rest := List.replicate 8 none) (by rfl)
  match r', hr' with
  | [a1, a2, a3, a4, a5, a6, a7, a8], _ =>
  let X : D := .ro (ns.map .int)
  let δ8 : FL.Loc := [some (.fr X), none, a2, a3, a4, a5, a6, a7, some (.fr (schT sc7))]
  have q8 : mSet 8 (mC gTuple [(.e (mLc (mRange1 (.e (mD (.int 7)))) (tgV 1) mYes (e3_law tb) [1]))]) [some (.fr X), a1, a2, a3, a4, a5, a6, a7, a8] μ0 = .nx δ8 μ0 := by
    have lc : mLc (mRange1 (.e (mD (.int 7)))) (tgV 1) mYes (e3_law tb) [1] [some (.fr X), a1, a2, a3, a4, a5, a6, a7, a8] μ0 = .ok (.own (.lst (sc7.map pairD))) [some (.fr X), none, a2, a3, a4, a5, a6, a7, a8] μ0 := by
      rw [ev_Lc]
      have r4 : mRange1 (.e (mD (.int 7))) [some (.fr X), a1, a2, a3, a4, a5, a6, a7, a8] μ0 = .ok (rangeD 0 7) [some (.fr X), a1, a2, a3, a4, a5, a6, a7, a8] μ0 := by
        rw [ev_R1]
        have := r1K_ok (j := 7) (δ := [some (.fr X), a1, a2, a3, a4, a5, a6, a7, a8]) (μ := μ0) (by decide) (by decide)
        simpa using this
      rw [r4, ev_b1]
      exact seven_lc (x1 := none)
    have g : gTuple [.lst (sc7.map pairD)] = some (.fr (schT sc7)) := rfl
    refine (set_m (s := .fr (schT sc7)) (δ1 := [some (.fr X), none, a2, a3, a4, a5, a6, a7, a8]) (μ1 := μ0) ?_).trans rfl
    generalize schT sc7 = S7 at *
    generalize sc7.map pairD = L7 at *
    clear_value X
    generalize mLc (mRange1 (.e (mD (.int 7)))) (tgV 1) mYes (e3_law tb) [1] = Q at *
    simp [lc, g]
  have q9 := refused (δ := δ8) (i := 8) t0 (badLen (xs := sc7.map fun p => .tup [.str p.1, .str p.2]) (.inr (by decide))) rfl (mRet (mD (.bl false)))
  generalize hM : μ0 ++ [Own.ins "Index" (μ0.length + 1) [] [], Own.idc μ0.length] = M at q9
  have sl : mSl gSl (.v 8) mNoP (mP (mD (.int 6))) δ8 M = .ok (.fr (schT sc6)) δ8 M := by
    have c : cutD (sc7.map pairD) none (some (6 : Int)) = sc6.map pairD := by rfl
    have e : gSl (schT sc7) none (some 6) = some (.fr (schT sc6)) := by
      show some (FL.Slot.fr (D.tup (cutD (sc7.map pairD) none (some (6 : Int))))) = _
      rw [c]
    have l8 : look M (schT sc7) = some (schT sc7) := rfl
    show mSl gSl (.v 8) mNoP (mP (mD (.int 6))) [some (.fr X), none, a2, a3, a4, a5, a6, a7, some (.fr (schT sc7))] M = .ok (.fr (schT sc6)) [some (.fr X), none, a2, a3, a4, a5, a6, a7, some (.fr (schT sc7))] M
    generalize schT sc7 = S7 at *
    generalize schT sc6 = S6 at *
    clear_value X
    simp [e, l8]
  have ei := iIdx (μ := M) (d := schT sc6) (needT sc6_ok)
  generalize hN : M ++ [.ins "Index" (M.length + 1) ksI [schT sc6, .dcf [] [], .lst []], .idc M.length] = N at ei
  have hx : N[M.length]? = some (emp (schT sc6) (M.length + 1)) := by rw [← hN]; simp
  have sl' : mSl gSl (.v 8) mNoP (mP (mD (.int 6))) δ8 N = .ok (.fr (schT sc6)) δ8 N := by
    have c : cutD (sc7.map pairD) none (some (6 : Int)) = sc6.map pairD := by rfl
    have e : gSl (schT sc7) none (some 6) = some (.fr (schT sc6)) := by
      show some (FL.Slot.fr (D.tup (cutD (sc7.map pairD) none (some (6 : Int))))) = _
      rw [c]
    have l8 : look N (schT sc7) = some (schT sc7) := rfl
    show mSl gSl (.v 8) mNoP (mP (mD (.int 6))) [some (.fr X), none, a2, a3, a4, a5, a6, a7, some (.fr (schT sc7))] N = .ok (.fr (schT sc6)) [some (.fr X), none, a2, a3, a4, a5, a6, a7, some (.fr (schT sc7))] N
    generalize schT sc7 = S7 at *
    generalize schT sc6 = S6 at *
    clear_value X
    simp [e, l8]
  have same : gEq false (schT sc6) (schT sc6) = some (FL.tb true) := by
    refine Lay.same (d := 2) false (Lay.tup fun y hy => ?_) (by decide) (by rfl)
    obtain ⟨p, hp, rfl⟩ := List.mem_map.mp hy
    obtain ⟨a1, a2⟩ := sc6_ok.ascii p hp
    refine Lay.tup (d := 0) fun z hz => ?_
    simp only [List.mem_cons, List.not_mem_nil, or_false] at hz
    rcases hz with rfl | rfl
    · exact Lay.str a1
    · exact Lay.str a2
  have fin : mRet (m2 (gEq false) (.e (mAt at_ "schema" (.e (mCallK (mkS "Index" m_iIndex) [.key 0] [] [(mSl gSl (.v 8) mNoP (mP (mD (.int 6))))] [])))) (.e (mSl gSl (.v 8) mNoP (mP (mD (.int 6)))))) δ8 M = .rt (.fr (.bl true)) N := by
    have ck : mCallK (mkS "Index" m_iIndex) [.key 0] [] [(mSl gSl (.v 8) mNoP (mP (mD (.int 6))))] [] δ8 M = .ok (.fr (.obj M.length)) δ8 N := by
      simp only [ec_CallK, ev_evA0, ev_b1, ev_evA1, sl, ec_pick1, ec_sel2, List.getElem?_cons_zero, ec_pick0, ev_dfr, ei]
    have at1 : mAt at_ "schema" (.e (mCallK (mkS "Index" m_iIndex) [.key 0] [] [(mSl gSl (.v 8) mNoP (mP (mD (.int 6))))] [])) δ8 M = .ok (.fr (schT sc6)) δ8 N := by
      rw [ec_At, ev_e, ck]
      generalize schT sc6 = S6 at *
      simp [hx, aS]
    refine ret_m (δ1 := δ8) ?_
    rw [ev_2, ev_e, at1, ev_b1, ev_b1, ev_e, sl']
    have l6 : look N (schT sc6) = some (schT sc6) := rfl
    generalize schT sc6 = S6 at *
    simp [same, l6]
  refine ⟨N, ?_⟩
  rw [show m_law tb = mFn 9 (b_law tb) from rfl, ev_Fn]
  unfold b_law
  rw [show startD 9 [.ro (ns.map .int)] = some (.fr (.ro (ns.map .int))) :: List.replicate 8 none from rfl, seq_nx e0, seq_nx q8, seq_nx q9, fin]
  rfl
end
end L31
namespace L31
open PySem PySem.Spec PyProof.Rows L2 FL LamX
theorem txt {w : World} {mg : Str → Option Value} {h base : Heap} {K : PySem.W.Frag} (X : K.In h) (G : h.Ns mainGlobals mg) (c : HkSays fs ds ts K) (_ : K.In base) (_ : base.Ns mainGlobals mg) (TB : ∀ p ∈ csOf K ts, TabB base mg p.1 p.2.1) : Txt (tbOf K ts) PySem.Challenge.pw_findlang_k31_schemas w K mg base where
  n_all := He.free_ok X G (c.fact 0 rfl)
  n_dict := He.free_ok X G (c.fact 1 rfl)
  n_isinstance := He.free_ok X G (c.fact 2 rfl)
  n_len := He.free_ok X G (c.fact 3 rfl)
  n_max := He.free_ok X G (c.fact 4 rfl)
  n_min := He.free_ok X G (c.fact 5 rfl)
  n_range := He.free_ok X G (c.fact 6 rfl)
  n_set := He.free_ok X G (c.fact 7 rfl)
  n_sorted := He.free_ok X G (c.fact 8 rfl)
  n_str := He.free_ok X G (c.fact 9 rfl)
  n_super := He.free_ok X G (c.fact 10 rfl)
  n_tuple := He.free_ok X G (c.fact 11 rfl)
  c_LETTERS := He.str_ok X G (c.fact 12 rfl)
  c_MAX_FIELDS := He.int_ok X G (c.fact 13 rfl)
  c_MAX_NAME := He.int_ok X G (c.fact 14 rfl)
  t_FIELD_KINDS := tTup_ok X G (c.fact 15 rfl)
  x_BadSchema := (let ⟨_, Fx⟩ := c.fk 0 rfl rfl; xcH (h := h) sup_BadSchema (He.glo_ok X G (c.fact 16 rfl)) (He.free_ok X G (c.fact 10 rfl)) (c.fact 17 rfl) Fx (tCell_ok (c.fact 18 rfl)) (fun _ _ _ _ _ _ _ us hl => match us, hl with | [_, _], _ => by kernel_rfl))
  s__law_error_of := ⟨_, _, _, He.glo_ok X G (c.fact 19 rfl), He.glo_ok X G (c.fact 20 rfl), He.glo_ok X G (c.fact 21 rfl), subs3_of X G subl__law_error_of (c.fact 22 rfl)⟩
  c_BadChange := He.glo_ok X G (c.fact 23 rfl)
  c_BadDocument := He.glo_ok X G (c.fact 24 rfl)
  c_BadField := He.glo_ok X G (c.fact 25 rfl)
  c_BadKey := He.glo_ok X G (c.fact 26 rfl)
  c_BadNumber := He.glo_ok X G (c.fact 27 rfl)
  c_BadQuery := He.glo_ok X G (c.fact 28 rfl)
  c_BadSchema := He.glo_ok X G (c.fact 16 rfl)
  c_Index := He.glo_ok X G (c.fact 29 rfl)
  c_NoDocument := He.glo_ok X G (c.fact 30 rfl)
  c_NoField := He.glo_ok X G (c.fact 31 rfl)
  c_NoSegment := He.glo_ok X G (c.fact 32 rfl)
  c_TooMany := He.glo_ok X G (c.fact 33 rfl)
  c_WrongKind := He.glo_ok X G (c.fact 34 rfl)
  atts := attsOk_of X G attl (c.fact 35 rfl)
  prp := prpB_of X G prps (c.fact 36 rfl)
  k_BadChange := ⟨_, He.glo_ok X G (c.fact 23 rfl)⟩
  k_BadDocument := ⟨_, He.glo_ok X G (c.fact 24 rfl)⟩
  k_BadField := ⟨_, He.glo_ok X G (c.fact 25 rfl)⟩
  k_BadKey := ⟨_, He.glo_ok X G (c.fact 26 rfl)⟩
  k_BadNumber := ⟨_, He.glo_ok X G (c.fact 27 rfl)⟩
  k_BadQuery := ⟨_, He.glo_ok X G (c.fact 28 rfl)⟩
  k_BadSchema := ⟨_, He.glo_ok X G (c.fact 16 rfl)⟩
  k_NoDocument := ⟨_, He.glo_ok X G (c.fact 30 rfl)⟩
  k_NoField := ⟨_, He.glo_ok X G (c.fact 31 rfl)⟩
  k_NoSegment := ⟨_, He.glo_ok X G (c.fact 32 rfl)⟩
  k_TooMany := ⟨_, He.glo_ok X G (c.fact 33 rfl)⟩
  k_WrongKind := ⟨_, He.glo_ok X G (c.fact 34 rfl)⟩
  i_isa := isxE_of X G isxl (c.fact 37 rfl)
  i_all := isxA_of X G isxl (c.fact 37 rfl)
  mk_Index := (by have e : fAdF K (pM "Index" "__init__") = _ := tInit_ok (c.fact 38 rfl); rw [e]; exact He.mkr_ok (c.fact 39 rfl))
  f_iView := c.fd 1 rfl rfl
  f_iIndex := c.fk 2 rfl rfl
  ce_iIndex := (tCell_ok (c.fact 40 rfl))
  s_iIndex := (let ⟨_, Fx⟩ := c.fk 2 rfl rfl; supP_of (sc := sc_iIndex) Fx (tCell_ok (c.fact 40 rfl)) (He.free_ok X G (c.fact 10 rfl)) (by kernel_rfl) ⟨_, rfl, rfl⟩ (by kernel_rfl) (by decide +kernel) (by decide +kernel) (by decide +kernel) rfl)
  f_View_size := c.fd 3 rfl rfl
  f_sr___len__ := c.fd 4 rfl rfl
  f_View_all_keys := c.fd 5 rfl rfl
  f_Index_segments := c.fd 6 rfl rfl
  f_View_vocabulary := c.fd 7 rfl rfl
  sb_Index := supB_of (He.glo_ok X G (c.fact 29 rfl)) (c.fact 41 rfl)
  d__law_drawer := (let ⟨_, Fx⟩ := c.fd 8 rfl rfl; ⟨_, _, Fx, (tFn_ok X G (c.fact 42 rfl)).1, (tFn_ok X G (c.fact 42 rfl)).2⟩)
  d__law_drawn := (let ⟨_, Fx⟩ := c.fd 9 rfl rfl; ⟨_, _, Fx, (tFn_ok X G (c.fact 43 rfl)).1, (tFn_ok X G (c.fact 43 rfl)).2⟩)
  d__law_drawn_of := (let ⟨_, Fx⟩ := c.fd 10 rfl rfl; ⟨_, _, Fx, (tFn_ok X G (c.fact 44 rfl)).1, (tFn_ok X G (c.fact 44 rfl)).2⟩)
  d__law_fields := (let ⟨_, Fx⟩ := c.fd 11 rfl rfl; ⟨_, _, Fx, (tFn_ok X G (c.fact 45 rfl)).1, (tFn_ok X G (c.fact 45 rfl)).2⟩)
  d_is_made_of := (let ⟨_, Fx⟩ := c.fd 12 rfl rfl; ⟨_, _, Fx, (tFn_ok X G (c.fact 46 rfl)).1, (tFn_ok X G (c.fact 46 rfl)).2⟩)
  d_is_field_name := (let ⟨_, Fx⟩ := c.fd 13 rfl rfl; ⟨_, _, Fx, (tFn_ok X G (c.fact 47 rfl)).1, (tFn_ok X G (c.fact 47 rfl)).2⟩)
  d_is_field_row := (let ⟨_, Fx⟩ := c.fd 14 rfl rfl; ⟨_, _, Fx, (tFn_ok X G (c.fact 48 rfl)).1, (tFn_ok X G (c.fact 48 rfl)).2⟩)
  d_need_schema := (let ⟨_, Fx⟩ := c.fd 15 rfl rfl; ⟨_, _, Fx, (tFn_ok X G (c.fact 49 rfl)).1, (tFn_ok X G (c.fact 49 rfl)).2⟩)
  d_live_entries := (let ⟨_, Fx⟩ := c.fd 16 rfl rfl; ⟨_, _, Fx, (tFn_ok X G (c.fact 50 rfl)).1, (tFn_ok X G (c.fact 50 rfl)).2⟩)
  d_segment_row := (let ⟨_, Fx⟩ := c.fd 17 rfl rfl; ⟨_, _, Fx, (tFn_ok X G (c.fact 51 rfl)).1, (tFn_ok X G (c.fact 51 rfl)).2⟩)
  d__law_schema_spoilt := (let ⟨_, Fx⟩ := c.fd 18 rfl rfl; ⟨_, _, Fx, (tFn_ok X G (c.fact 52 rfl)).1, (tFn_ok X G (c.fact 52 rfl)).2⟩)
  d__law_error_of := (let ⟨_, Fx⟩ := c.fd 19 rfl rfl; ⟨_, _, Fx, (tFn_ok X G (c.fact 53 rfl)).1, (tFn_ok X G (c.fact 53 rfl)).2⟩)
  mth___len__ := mthB_of X G (c.fact 54 rfl)
  idc := idc_of X G (c.fact 55 rfl)
  xf_absent := xfT_of X G (c.fact 56 rfl)
  xf_most := xfT_of X G (c.fact 57 rfl)
  xf_missing := xfT_of X G (c.fact 58 rfl)
  xf_mistaken := xfT_of X G (c.fact 59 rfl)
theorem lawF (w : World) (mg : Str → Option Value) (fa : Addr) (h : Heap) (K : PySem.W.Frag) (X : K.In h) (c : HkSays fs ds ts K) (G : h.Ns mainGlobals mg) (hfa : mg "law" = some (.ref fa)) :
    ∃ fd : FuncData, (∀ (s : Shared) (u : Value), BindsTo s fd ⟨[u], []⟩ [("_law_script", u)]) ∧
      ∀ base : Heap, K.In base → base.Ns mainGlobals mg → (∀ p ∈ csOf K ts, TabB base mg p.1 p.2.1) → FnG PySem.Challenge.pw_findlang_k31_schemas w K mg base (L2.CX PySem.Challenge.pw_findlang_k31_schemas w) 200 fa fd ["_law_script"] (spM K mg (m_law (tbOf K ts)) 1) := by
  have e := hfa.symm.trans (tFn_ok X G (c.fact 60 rfl)).1
  cases e
  obtain ⟨fd, Fx⟩ := c.fl 20 rfl rfl
  refine ⟨fd, fun s u => ?_, fun base hb hg TB => (g_law Fx (TB _ (List.mem_of_getElem? (i := 0) rfl)) (txt X G c hb hg TB)).mono (by decide)⟩
  obtain ⟨_, _, _, _, _, _, _, _, rfl, _, _⟩ := Fx.ex
  exact .of_eq (by kernel_rfl)
theorem lawM (K : PySem.W.Frag) (ns : List Int) (hl : ns.length ≤ 63) : ∃ μ', m_law (tbOf K ts) [.ro (ns.map .int)] (memT (csOf K ts)) = .ok (.fr (.bl true)) μ' := law_ok (tbOf K ts) ns hl
end L31
open PySem PySem.Spec PySem.W PySem.Calls PyProof.Rows in
set_option maxRecDepth 100000 in
set_option maxHeartbeats 0 in
theorem PySem.Challenge.cw_findlang_k31_schemas_holds : PySem.Challenge.rw_findlang_k31_schemas.Holds := by
  w_on; o_law
  refine HandSHeadRun.head_any (r := OpenLaw.row PySem.Challenge.rw_findlang_k31_schemas) (q := view (OpenLaw.row PySem.Challenge.rw_findlang_k31_schemas).prog [60]) (H := L31.hk) (ob := L31.ob) (M := 30000) (loose := L31.names) (d := HandSHeadRun.topDef (OpenLaw.row PySem.Challenge.rw_findlang_k31_schemas).prog 60) (kwd := []) L31.ob_eq
    (by kernel_rfl) (fun s => by kernel_rfl) L31.run (by kernel_rfl) (by kernel_rfl) (by kernel_rfl) (by rfl) (by first | assumption | decide +kernel) (by decide +kernel) ⟨rfl, rfl, rfl, rfl, rfl, by decide +kernel⟩ ?hw ?hc
  case hw => w_witness2
  case hc => exact FL.walkH (l := PySem.Challenge.rw_findlang_k31_schemas) (k := 200) (n := 5) (m := L31.m_law) rfl (by kernel_rfl) FL.room_caller L31.lawF L31.lawM
