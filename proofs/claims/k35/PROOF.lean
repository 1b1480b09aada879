import PyProof.Rows.All
import PySem.Challenge.RW_findlang_k35_segments
import Wide.All
import OpenK.AllK
import Wide.FinOn
import HandS.ForMost
import HandS.ForExc
import HandS.CallSlots
import HandS.ExcInit
import HandS.Wide
import HandS.IsInst
import HandS.Flow
import HandS.Lambda
import HandS.EndTab
import HandS.TupAny
import KE.KExcSuper
import KE.KDflt
import HandS.Style
import KE.KExcIs
import HandS.Property
import HandS.MakeKwOnly
import HandS.ClsMeth
import HandS.Nested
import HandS.HeadHook1
import HandS.Head2
import HandS.More
import HandS.SortRule
import HandS.Iter
import HandS.Deep
import HandS.DictComp
import KE.GoesEnum
import HandS.FStr
import HandS.SetTxt0
import HandS.SetFor
import HandS.SortOrd
import HandS.Strs
import HandS.Conv
import HandS.SortInts
import HandS.Star
import HandS.OwnEq
import HandS.ListEq
import HandS.Text
import HandS.GenList
import KE.KUnpackStar
import KE.KOpsOwn
import HandS.NoneIn
import PyProof.RulesMatch
import PyProof.WalksMore
import HandS.WordsDict
set_option Elab.async false
set_option linter.all false
set_option maxRecDepth 100000
set_option maxHeartbeats 4000000
namespace FL
open PySem L2 LamX
abbrev Tx := List Nat
def toS (x : Tx) : Str := ⟨x.toArray⟩
theorem toS_inj {x y : Tx} (h : toS x = toS y) : x = y := by
  have := congrArg (fun z => z.cps.toList) h
  simpa [toS] using this
def lit (s : String) : Tx := s.toList.map Char.toNat
inductive DK where
  | i (n : Int) | s (x : Tx)
  deriving DecidableEq
def DK.key : DK → Key
  | .i n => .inl n
  | .s x => .inr (toS x)
inductive FxM where
  | ro | rc | df
inductive D where
  | non | bl (b : Bool) | int (i : Int) | str (x : Tx)
  | lst (xs : List D) | tup (xs : List D)
  | fx (b : FxM) (ks : List DK) (vs : List D)
  | dct (ks : List DK) (vs : List D)
  | obj (k : Nat)
  | glo (x : String)
  | ty (n : String)
  | exn (c attr : String) (v : D)
  | ins (c : String) (ks : List String) (vs : List D)
  | unk
abbrev D.ro (xs : List D) : D := .fx .ro [] xs
abbrev D.rc (xs : List D) : D := .fx .rc [] xs
abbrev D.dcf (ks : List DK) (vs : List D) : D := .fx .df ks vs
inductive Own where
  | lst (xs : List D)
  | dct (ks : List DK) (vs : List D)
  | tab (P : Addr) (q : Str)
  | ins (c : String) (kd : Nat) (ks : List String) (vs : List D)
  | idc (k : Nat)
def Own.d : Own → D
  | .lst xs => .lst xs
  | .dct ks vs => .dct ks vs
  | .tab _ _ => .unk
  | .ins _ _ _ _ => .unk
  | .idc _ => .unk
inductive Slot where
  | fr (d : D) | own (o : Own)
def Slot.d : Slot → D
  | .fr d => d
  | .own o => o.d
def ErrO (a : Addr) (cls : Value) (d : Option Addr) : HO := .ext fun h => ∃ oe vs, h.get? a = some oe ∧ oe.cls = cls ∧ oe.dict = d ∧ oe.data = .fields vs
section
variable (K : PySem.W.Frag) (mg : Str → Option Value) (F : Hp) (ρ : List Addr)
mutual
inductive Rep : V → D → Prop where
  | non : Rep .non .non
  | bl {b} : Rep (.bl b) (.bl b)
  | int {i} : Rep (.int i) (.int i)
  | str {x} : Rep (.str (toS x)) (.str x)
  | lst {p vs ds} (h : F p = some (.lst vs)) (r : RepL vs ds) : Rep (.ref p) (.lst ds)
  | ro {p vs ds} (h : SqL K F p vs) (r : RepL vs ds) : Rep (.ref p) (.ro ds)
  | tup {p vs ds} (h : SqT K F p vs) (r : RepL vs ds) : Rep (.ref p) (.tup ds)
  | dct {p ks vs ds} (h : Rd F p (.dK ((ks.map DK.key).zip vs))) (l : ks.length = vs.length) (r : RepL vs ds) : Rep (.ref p) (.dct ks ds)
  | obj {k p} (h : ρ[k]? = some p) : Rep (.ref p) (.obj k)
  | glo {x v u} (h : mg (Str.ofString x) = some u) (r : RelV v u) : Rep v (.glo x)
  | ty {n} : Rep (.ty n) (.ty n)
  | exn {c attr C dx v d p} (h : mg (Str.ofString c) = some (.ref C)) (e : Rd F dx (.xd [(Str.ofString attr, v)])) (o : F p = some (ErrO p (.ref C) (some dx))) (r : Rep v d) : Rep (.ref p) (.exn c attr d)
  | ins {c C dx ks vs ds p} (h : mg (Str.ofString c) = some (.ref C)) (e : F p = some (.ins C dx ((ks.map Str.ofString).zip vs))) (o : F dx = some (.own p)) (l : ks.length = vs.length) (r : RepL vs ds) : Rep (.ref p) (.ins c ks ds)
  | unk {p} : Rep (.ref p) .unk
  | rc {o p vs ds} (h : F p = some (.frz o (.tup vs))) (hd : o.dict = none) (r : RepL vs ds) : Rep (.ref p) (.rc ds)
  | dcf {o p ks vs ds} (h : F p = some (.frz o (.dK ((ks.map DK.key).zip vs)))) (l : ks.length = vs.length) (r : RepL vs ds) : Rep (.ref p) (.dcf ks ds)
inductive RepL : List V → List D → Prop where
  | nil : RepL [] []
  | cons {v d vs ds} (h : Rep v d) (t : RepL vs ds) : RepL (v :: vs) (d :: ds)
end
end
structure Le (Z F F' : Hp) : Prop where
  to : ∀ p o, F p = some o → F' p = some o
  new : ∀ p o, F' p = some o → F p = some o ∨ Z p = none
structure LeR (Z : Hp) (ρ ρ' : List Addr) : Prop where
  to : ∀ (k : Nat) p, ρ[k]? = some p → ρ'[k]? = some p
  new : ∀ p ∈ ρ', p ∈ ρ ∨ Z p = none
theorem Le.refl {Z F : Hp} : Le Z F F := ⟨fun _ _ h => h, fun _ _ h => .inl h⟩
theorem Le.trans {Z F F1 F2 : Hp} (a : Le Z F F1) (b : Le Z F1 F2) : Le Z F F2 :=
  ⟨fun p o h => b.to p o (a.to p o h), fun p o h => (b.new p o h).elim (fun h => a.new p o h) .inr⟩
theorem LeR.refl {Z : Hp} {ρ : List Addr} : LeR Z ρ ρ := ⟨fun _ _ h => h, fun _ h => .inl h⟩
theorem LeR.trans {Z : Hp} {ρ ρ1 ρ2 : List Addr} (a : LeR Z ρ ρ1) (b : LeR Z ρ1 ρ2) : LeR Z ρ ρ2 :=
  ⟨fun k p h => b.to k p (a.to k p h), fun p h => (b.new p h).elim (fun h => a.new p h) .inr⟩
section
variable {K : PySem.W.Frag} {mg : Str → Option Value} {Z F F' : Hp} {ρ ρ' : List Addr}
theorem Rd.up (l : ∀ p o, F p = some o → F' p = some o) {p : Addr} {u : HO} (h : Rd F p u) : Rd F' p u := by
  rcases h with h | ⟨o, h⟩
  · exact .inl (l _ _ h)
  · exact .inr ⟨o, l _ _ h⟩
theorem SqL.up (l : ∀ p o, F p = some o → F' p = some o) {p : Addr} {xs : List V} (h : SqL K F p xs) : SqL K F' p xs :=
  h.elim (fun h => .inl (Rd.up l h)) .inr
theorem SqT.up (l : ∀ p o, F p = some o → F' p = some o) {p : Addr} {xs : List V} (h : SqT K F p xs) : SqT K F' p xs :=
  h.elim (fun h => .inl (Rd.up l h)) .inr
mutual
theorem Rep.up (l : ∀ p o, F p = some o → F' p = some o) (lr : ∀ (k : Nat) p, ρ[k]? = some p → ρ'[k]? = some p) :
    ∀ {v : V} {d : D}, Rep K mg F ρ v d → Rep K mg F' ρ' v d
  | _, _, .non => .non
  | _, _, .bl => .bl
  | _, _, .int => .int
  | _, _, .str => .str
  | _, _, .lst h r => .lst (l _ _ h) (RepL.up l lr r)
  | _, _, .ro h r => .ro (SqL.up l h) (RepL.up l lr r)
  | _, _, .tup h r => .tup (SqT.up l h) (RepL.up l lr r)
  | _, _, .dct h e r => .dct (Rd.up l h) e (RepL.up l lr r)
  | _, _, .obj h => .obj (lr _ _ h)
  | _, _, .glo h r => .glo h r
  | _, _, .ty => .ty
  | _, _, .exn h e o r => .exn h (Rd.up l e) (l _ _ o) (Rep.up l lr r)
  | _, _, .ins h e o n r => .ins h (l _ _ e) (l _ _ o) n (RepL.up l lr r)
  | _, _, .unk => .unk
  | _, _, .rc h hd r => .rc (l _ _ h) hd (RepL.up l lr r)
  | _, _, .dcf h e r => .dcf (l _ _ h) e (RepL.up l lr r)
theorem RepL.up (l : ∀ p o, F p = some o → F' p = some o) (lr : ∀ (k : Nat) p, ρ[k]? = some p → ρ'[k]? = some p) :
    ∀ {vs : List V} {ds : List D}, RepL K mg F ρ vs ds → RepL K mg F' ρ' vs ds
  | _, _, .nil => .nil
  | _, _, .cons h t => .cons (Rep.up l lr h) (RepL.up l lr t)
end
theorem RepL.len : ∀ {vs : List V} {ds : List D}, RepL K mg F ρ vs ds → vs.length = ds.length
  | _, _, .nil => rfl
  | _, _, .cons _ t => by rw [List.length_cons, List.length_cons, RepL.len t]
theorem RepL.app : ∀ {vs ws : List V} {ds es : List D}, RepL K mg F ρ vs ds → RepL K mg F ρ ws es → RepL K mg F ρ (vs ++ ws) (ds ++ es)
  | _, _, _, _, .nil, h => h
  | _, _, _, _, .cons h t, r => .cons h (RepL.app t r)
theorem RepL.get : ∀ {vs : List V} {ds : List D} {i : Nat} {d : D}, RepL K mg F ρ vs ds → ds[i]? = some d → ∃ v, vs[i]? = some v ∧ Rep K mg F ρ v d
  | _, _, _, _, .nil, e => by simp at e
  | _, _, 0, _, .cons h _, e => by simp at e; subst e; exact ⟨_, rfl, h⟩
  | _, _, i + 1, _, .cons _ t, e => by
    obtain ⟨v, h1, h2⟩ := RepL.get (i := i) t (by simpa using e)
    exact ⟨v, by simpa using h1, h2⟩
theorem RepL.drop : ∀ {vs : List V} {ds : List D} (n : Nat), RepL K mg F ρ vs ds → RepL K mg F ρ (vs.drop n) (ds.drop n)
  | _, _, 0, r => r
  | _, _, _ + 1, .nil => .nil
  | _, _, n + 1, .cons h t => RepL.drop n t
theorem RepL.set {v : V} {d : D} (r : Rep K mg F ρ v d) : ∀ {vs : List V} {ds : List D} (i : Nat), RepL K mg F ρ vs ds → RepL K mg F ρ (vs.set i v) (ds.set i d)
  | _, _, _, .nil => .nil
  | _, _, 0, .cons _ t => .cons r t
  | _, _, i + 1, .cons h t => .cons h (RepL.set r i t)
end
abbrev Loc := List (Option Slot)
abbrev Mem := List Own
section
variable (K : PySem.W.Frag) (mg : Str → Option Value)
def OwnR (F : Hp) (ρ : List Addr) (H : Hp) (p : Addr) : Own → Prop
  | .lst ds => ∃ vs, H p = some (.lst vs) ∧ RepL K mg F ρ vs ds
  | .dct ks ds => ∃ vs, H p = some (.dK ((ks.map DK.key).zip vs)) ∧ ks.length = vs.length ∧ RepL K mg F ρ vs ds
  | .ins c kd ks ds => ∃ C dx vs, mg (Str.ofString c) = some (.ref C) ∧ ρ[kd]? = some dx ∧ H p = some (.ins C dx ((ks.map Str.ofString).zip vs)) ∧ ks.length = vs.length ∧ RepL K mg F ρ vs ds
  | .idc k => ∃ q, ρ[k]? = some q ∧ H p = some (.own q)
  | .tab P q => p = P ∧ ∃ ps, H p = some (.tbl ps) ∧ TriplesOk ps.toList ∧ ∀ (pos : Pos) (cv : Value), codeAmong pos ps.toList = some cv → ∃ c, cv = .ref c ∧ F c = some (CodeO c q)
structure Free (Z F : Hp) (ρ : List Addr) (p : Addr) : Prop where
  f : F p = none
  z : Z p = none
  r : p ∉ ρ
def SlotR (Z F : Hp) (ρ : List Addr) (H : Hp) (v : V) : Slot → Prop
  | .fr d => Rep K mg F ρ v d
  | .own o => ∃ p, v = .ref p ∧ Free Z F ρ p ∧ OwnR K mg F ρ H p o
structure Sim (Z F : Hp) (ρ : List Addr) (μ : Mem) (δ : Loc) (σ : St) (H : Hp) : Prop where
  le : ∀ p o, F p = some o → H p = some o ∨ ∃ ob kvs, o = .dK kvs ∧ H p = some (.frz ob (.dK kvs))
  zk : ∀ p o, Z p = some o → H p = some o
  len : σ.length = δ.length
  slot : ∀ (i : Nat) s, δ[i]? = some (some s) → ∃ v, σ[i]? = some (some v) ∧ SlotR K mg Z F ρ H v s
  apart : ∀ (i j : Nat) p s s', δ[i]? = some (some (.own s)) → δ[j]? = some (some (.own s')) → σ[i]? = some (some (.ref p)) → σ[j]? = some (some (.ref p)) → i = j
  mem : ∀ (k : Nat) c, μ[k]? = some c → ∃ a, ρ[k]? = some a ∧ F a = none ∧ Z a = none ∧ OwnR K mg F ρ H a c
  mlen : ρ.length = μ.length
  nod : ρ.Nodup
structure VR (Z F : Hp) (ρ : List Addr) (δ : Loc) (σ : St) (H : Hp) (v : V) (s : Slot) : Prop where
  r : SlotR K mg Z F ρ H v s
  no : ∀ o p, s = .own o → v = .ref p → ∀ (i : Nat) o', δ[i]? = some (some (.own o')) → σ[i]? ≠ some (some (.ref p))
end
section
variable {K : PySem.W.Frag} {mg : Str → Option Value} {Z F F' : Hp} {ρ ρ' : List Addr} {μ : Mem} {δ : Loc} {σ : St} {H H' : Hp} {p : Addr} {o : HO} {v : V} {s : Slot}
theorem OwnR.up {c : Own} (l : ∀ p o, F p = some o → F' p = some o) (lr : ∀ (k : Nat) p, ρ[k]? = some p → ρ'[k]? = some p) (hp : H' p = H p) (h : OwnR K mg F ρ H p c) : OwnR K mg F' ρ' H' p c := by
  cases c with
  | lst ds =>
    obtain ⟨vs, e, r⟩ := h
    exact ⟨vs, by rw [hp]; exact e, r.up l lr⟩
  | dct ks ds =>
    obtain ⟨vs, e, n, r⟩ := h
    exact ⟨vs, by rw [hp]; exact e, n, r.up l lr⟩
  | tab P q =>
    obtain ⟨e0, ps, e, t, r⟩ := h
    exact ⟨e0, ps, by rw [hp]; exact e, t, fun pos cv hc => by
      obtain ⟨c, e1, e2⟩ := r pos cv hc
      exact ⟨c, e1, l _ _ e2⟩⟩
  | ins c kd ks ds =>
    obtain ⟨C, dx, vs, e1, e2, e3, n, r⟩ := h
    exact ⟨C, dx, vs, e1, lr _ _ e2, by rw [hp]; exact e3, n, r.up l lr⟩
  | idc k =>
    obtain ⟨q, e1, e2⟩ := h
    exact ⟨q, lr _ _ e1, by rw [hp]; exact e2⟩
theorem OwnR.some {c : Own} (h : OwnR K mg F ρ H p c) : ∃ o, H p = Option.some o := by
  cases c with
  | lst ds => obtain ⟨vs, e, r⟩ := h; exact ⟨_, e⟩
  | dct ks ds => obtain ⟨vs, e, n, r⟩ := h; exact ⟨_, e⟩
  | tab P q => obtain ⟨_, ps, e, _⟩ := h; exact ⟨_, e⟩
  | ins c kd ks ds => obtain ⟨C, dx, vs, _, _, e, _⟩ := h; exact ⟨_, e⟩
  | idc k => obtain ⟨q, _, e⟩ := h; exact ⟨_, e⟩
theorem Sim.rd (S : Sim K mg Z F ρ μ δ σ H) {u : HO} (h : Rd F p u) : Rd H p u := by
  rcases h with h | ⟨ob, h⟩
  · rcases S.le p u h with q | ⟨ob, kvs, e, q⟩
    · exact .inl q
    · subst e; exact .inr ⟨ob, q⟩
  · rcases S.le p _ h with q | ⟨ob, kvs, e, q⟩
    · exact .inr ⟨_, q⟩
    · have e' : HO.frz _ u = HO.dK kvs := e
      cases e'
theorem Sim.notIn (S : Sim K mg Z F ρ μ δ σ H) (h : H p = none) : F p = none ∧ Z p = none ∧ p ∉ ρ ∧ ∀ (i : Nat) s, δ[i]? = some (some (.own s)) → σ[i]? ≠ some (some (.ref p)) := by
  refine ⟨?_, ?_, ?_, ?_⟩
  · cases e : F p with
    | none => rfl
    | some o =>
      rcases S.le p o e with q | ⟨_, _, _, q⟩ <;> rw [h] at q <;> cases q
  · cases e : Z p with
    | none => rfl
    | some o => have := S.zk p o e; rw [h] at this; cases this
  · intro hm
    obtain ⟨k, hk⟩ := List.getElem?_of_mem hm
    have hlt : k < μ.length := by
      rw [← S.mlen]; exact (List.getElem?_eq_some_iff.mp hk).1
    obtain ⟨a, e, _, _, r⟩ := S.mem k μ[k] (List.getElem?_eq_getElem hlt)
    rw [hk] at e; cases e
    obtain ⟨o, q⟩ := r.some
    rw [h] at q; cases q
  · intro i s hi hs
    obtain ⟨v, e, p', ev, fr, r⟩ := S.slot i _ hi
    rw [hs] at e; cases e
    cases ev
    obtain ⟨o, q⟩ := r.some
    rw [h] at q; cases q
theorem Sim.free (S : Sim K mg Z F ρ μ δ σ H) (h : H p = none) : Free Z F ρ p := let ⟨a, b, c, _⟩ := S.notIn h; ⟨a, b, c⟩
theorem Sim.heap (S : Sim K mg Z F ρ μ δ σ H) (hk : ∀ a, a ≠ p → H' a = H a) (hF : F p = none) (hZ : Z p = none) (hρ : p ∉ ρ)
    (hs : ∀ (i : Nat) s, δ[i]? = some (some (.own s)) → σ[i]? ≠ some (some (.ref p))) : Sim K mg Z F ρ μ δ σ H' := by
  refine ⟨fun a u h => ?_, fun a u h => ?_, S.len, fun i s h => ?_, S.apart, fun k c h => ?_, S.mlen, S.nod⟩
  · have ne : a ≠ p := fun e => by
      subst e
      rw [hF] at h; cases h
    have := S.le a u h
    rw [hk a ne]; exact this
  · have ne : a ≠ p := fun e => by subst e; rw [hZ] at h; cases h
    rw [hk a ne]; exact S.zk a u h
  · obtain ⟨v, e, r⟩ := S.slot i s h
    refine ⟨v, e, ?_⟩
    cases s with
    | fr d => exact r
    | own c =>
      obtain ⟨q, ev, fr, r⟩ := r
      subst ev
      have ne : q ≠ p := fun z => by subst z; exact hs i c h e
      exact ⟨q, rfl, fr, r.up (fun _ _ h => h) (fun _ _ h => h) (hk q ne)⟩
  · obtain ⟨a, e, f1, f2, r⟩ := S.mem k c h
    have ne : a ≠ p := fun z => by subst z; exact hρ (List.mem_of_getElem? e)
    exact ⟨a, e, f1, f2, r.up (fun _ _ h => h) (fun _ _ h => h) (hk a ne)⟩
theorem Sim.laid (S : Sim K mg Z F ρ μ δ σ H) (h : H p = none) : Sim K mg Z F ρ μ δ σ (upd H p o) := by
  obtain ⟨a, b, c, d⟩ := S.notIn h
  exact S.heap (fun q ne => upd_ne ne) a b c d
theorem Sim.freeze (S : Sim K mg Z F ρ μ δ σ H) (h : H p = some o) (fr : Free Z F ρ p) (hs : ∀ (i : Nat) s, δ[i]? = some (some (.own s)) → σ[i]? ≠ some (some (.ref p))) :
    Le Z F (upd F p o) ∧ Sim K mg Z (upd F p o) ρ μ δ σ H := by
  have to : ∀ q u, F q = some u → upd F p o q = some u := fun q u e => by
    rw [upd_ne (fun z => by subst z; rw [fr.f] at e; cases e)]; exact e
  refine ⟨⟨to, fun q u e => ?_⟩, ⟨fun q u e => ?_, S.zk, S.len, fun i s e => ?_, S.apart, fun k c e => ?_, S.mlen, S.nod⟩⟩
  · by_cases z : q = p
    · subst z; exact .inr fr.z
    · rw [upd_ne z] at e; exact .inl e
  · by_cases z : q = p
    · subst z
      rw [upd_same] at e; cases e; exact .inl h
    · refine S.le q u ?_
      rw [upd_ne z] at e; exact e
  · obtain ⟨v, e1, r⟩ := S.slot i s e
    refine ⟨v, e1, ?_⟩
    cases s with
    | fr d => exact Rep.up to (fun _ _ h => h) r
    | own c =>
      obtain ⟨q, ev, f1, r⟩ := r
      subst ev
      have ne : q ≠ p := fun z => by subst z; exact hs i c e e1
      exact ⟨q, rfl, ⟨by rw [upd_ne ne]; exact f1.f, f1.z, f1.r⟩, r.up to (fun _ _ h => h) rfl⟩
  · obtain ⟨a, e1, f1, f2, r⟩ := S.mem k c e
    have ne : a ≠ p := fun z => by subst z; exact fr.r (List.mem_of_getElem? e1)
    exact ⟨a, e1, by rw [upd_ne ne]; exact f1, f2, r.up to (fun _ _ h => h) rfl⟩
theorem OwnR.rep {c : Own} (h : OwnR K mg F ρ H p c) : ∃ o, H p = Option.some o ∧ ∀ F' ρ', (∀ p o, F p = Option.some o → F' p = Option.some o) → (∀ (k : Nat) p, ρ[k]? = Option.some p → ρ'[k]? = Option.some p) → F' p = Option.some o → Rep K mg F' ρ' (.ref p) c.d := by
  cases c with
  | lst ds =>
    obtain ⟨vs, e, r⟩ := h
    exact ⟨_, e, fun F' ρ' l lr q => .lst q (r.up l lr)⟩
  | dct ks ds =>
    obtain ⟨vs, e, n, r⟩ := h
    exact ⟨_, e, fun F' ρ' l lr q => .dct (.inl q) n (r.up l lr)⟩
  | tab P q =>
    obtain ⟨_, ps, e, _⟩ := h
    exact ⟨_, e, fun F' ρ' l lr q => .unk⟩
  | ins c kd ks ds =>
    obtain ⟨C, dx, vs, _, _, e, _⟩ := h
    exact ⟨_, e, fun F' ρ' l lr q => .unk⟩
  | idc k =>
    obtain ⟨q, _, e⟩ := h
    exact ⟨_, e, fun F' ρ' l lr q => .unk⟩
theorem Sim.lock (S : Sim K mg Z F ρ μ δ σ H) (h : VR K mg Z F ρ δ σ H v s) : ∃ F', Le Z F F' ∧ Sim K mg Z F' ρ μ δ σ H ∧ Rep K mg F' ρ v s.d := by
  cases s with
  | fr d => exact ⟨F, .refl, S, h.r⟩
  | own c =>
    obtain ⟨p, ev, fr, r⟩ := h.r
    subst ev
    obtain ⟨o, e, rep⟩ := r.rep
    obtain ⟨l, S'⟩ := S.freeze e fr (h.no c p rfl rfl)
    exact ⟨_, l, S', rep _ _ l.to (fun _ _ h => h) upd_same⟩
theorem Sim.store {i : Nat} (S : Sim K mg Z F ρ μ δ σ H) (h : VR K mg Z F ρ δ σ H v s) (hi : i < δ.length) : Sim K mg Z F ρ μ (δ.set i (some s)) (σ.set i (some v)) H := by
  refine ⟨S.le, S.zk, by simp [S.len], fun j t e => ?_, fun j k p t t' e1 e2 e3 e4 => ?_, S.mem, S.mlen, S.nod⟩
  · by_cases z : j = i
    · subst z
      rw [List.getElem?_set_self hi] at e
      cases e
      exact ⟨v, List.getElem?_set_self (by rw [S.len]; exact hi), h.r⟩
    · rw [List.getElem?_set_ne (Ne.symm z)] at e
      obtain ⟨w, e1, r⟩ := S.slot j t e
      exact ⟨w, by rw [List.getElem?_set_ne (Ne.symm z)]; exact e1, r⟩
  · by_cases z1 : j = i
    · by_cases z2 : k = i
      · rw [z1, z2]
      · subst z1
        rw [List.getElem?_set_self hi] at e1
        cases e1
        rw [List.getElem?_set_self (by rw [S.len]; exact hi)] at e3
        cases e3
        rw [List.getElem?_set_ne (Ne.symm z2)] at e2 e4
        exact absurd e4 (h.no _ _ rfl rfl k _ e2)
    · by_cases z2 : k = i
      · subst z2
        rw [List.getElem?_set_self hi] at e2
        cases e2
        rw [List.getElem?_set_self (by rw [S.len]; exact hi)] at e4
        cases e4
        rw [List.getElem?_set_ne (Ne.symm z1)] at e1 e3
        exact absurd e3 (h.no _ _ rfl rfl j _ e1)
      · rw [List.getElem?_set_ne (Ne.symm z1)] at e1 e3
        rw [List.getElem?_set_ne (Ne.symm z2)] at e2 e4
        exact S.apart j k p t t' e1 e2 e3 e4
theorem Sim.forget {i : Nat} {x : Option V} (S : Sim K mg Z F ρ μ δ σ H) : Sim K mg Z F ρ μ (δ.set i none) (σ.set i x) H := by
  refine ⟨S.le, S.zk, by simp [S.len], fun j t e => ?_, fun j k p t t' e1 e2 e3 e4 => ?_, S.mem, S.mlen, S.nod⟩
  · by_cases z : j = i
    · subst z
      by_cases hj : j < δ.length
      · rw [List.getElem?_set_self hj] at e; cases e
      · rw [List.getElem?_eq_none (by simpa using hj)] at e; cases e
    · rw [List.getElem?_set_ne (Ne.symm z)] at e
      obtain ⟨w, e1, r⟩ := S.slot j t e
      exact ⟨w, by rw [List.getElem?_set_ne (Ne.symm z)]; exact e1, r⟩
  · have n : ∀ {j : Nat} {t}, (δ.set i none)[j]? = some (some t) → j ≠ i := fun {j t} e z => by
      subst z
      by_cases hj : j < δ.length
      · rw [List.getElem?_set_self hj] at e; cases e
      · rw [List.getElem?_eq_none (by simpa using hj)] at e; cases e
    have z1 := n e1
    have z2 := n e2
    rw [List.getElem?_set_ne (Ne.symm z1)] at e1 e3
    rw [List.getElem?_set_ne (Ne.symm z2)] at e2 e4
    exact S.apart j k p t t' e1 e2 e3 e4
theorem Sim.lockAt {i : Nat} (S : Sim K mg Z F ρ μ δ σ H) (e : δ[i]? = some (some s)) :
    ∃ F' v, Le Z F F' ∧ σ[i]? = some (some v) ∧ Sim K mg Z F' ρ μ (δ.set i (some (.fr s.d))) σ H ∧ Rep K mg F' ρ v s.d := by
  obtain ⟨v, ev, r⟩ := S.slot i s e
  have hi : i < δ.length := (List.getElem?_eq_some_iff.mp e).1
  have same : σ.set i (some v) = σ := by
    apply List.ext_getElem?
    intro j
    by_cases z : j = i
    · subst z; rw [List.getElem?_set_self (by rw [S.len]; exact hi), ev]
    · rw [List.getElem?_set_ne (Ne.symm z)]
  cases s with
  | fr d =>
    have S1 := S.store (i := i) (v := v) (s := .fr d) ⟨r, fun o p z => by cases z⟩ hi
    rw [same] at S1
    exact ⟨F, v, .refl, ev, S1, r⟩
  | own c =>
    obtain ⟨p, evp, fr, r⟩ := r
    subst evp
    obtain ⟨o, eo, rep⟩ := r.rep
    have S0 := S.forget (i := i) (x := some (.ref p))
    rw [same] at S0
    obtain ⟨l, S1⟩ := S0.freeze eo fr (fun j t ej => by
      have nj : j ≠ i := fun z => by
        subst z; rw [List.getElem?_set_self hi] at ej; cases ej
      rw [List.getElem?_set_ne (Ne.symm nj)] at ej
      intro q
      exact nj (S.apart j i p t c ej e q ev))
    have rp := rep _ ρ l.to (fun _ _ h => h) upd_same
    have S2 := S1.store (i := i) (v := .ref p) (s := .fr c.d) ⟨rp, fun o p z => by cases z⟩ (by simpa using hi)
    rw [same, List.set_set] at S2
    exact ⟨_, _, l, ev, S2, rp⟩
end
end FL
namespace FL
open PySem L2
structure Exc where
  cls : String
  attr : String
  arg : D
inductive Out (α : Type) where
  | ok (a : α) (δ : Loc) (μ : Mem)
  | exc (x : Exc) (δ : Loc) (μ : Mem)
  | bad
def Out.bind {α β : Type} (r : Out α) (f : α → Loc → Mem → Out β) : Out β :=
  match r with
  | .ok a δ μ => f a δ μ
  | .exc x δ μ => .exc x δ μ
  | .bad => .bad
abbrev MM (α : Type) := Loc → Mem → Out α
abbrev ME := MM Slot
abbrev MT := MM Bool
def ExcR (K : PySem.W.Frag) (mg : Str → Option Value) (F : Hp) (ρ : List Addr) (c : Value) (d : Option Addr) (x : Exc) : Prop :=
  ∃ C dx v, c = .ref C ∧ d = some dx ∧ mg (Str.ofString x.cls) = some (.ref C) ∧ Rd F dx (.xd [(Str.ofString x.attr, v)]) ∧ Rep K mg F ρ v x.arg
section
variable (X : Cx) (W : WX)
def FinE {α : Type} (Z F : Hp) (ρ : List Addr) (σ : St) (P : α → Loc → Mem → Hp → List Addr → Hp → Prop) : Out α → Prop
  | .ok a δ μ => ∀ H' F' ρ', Le Z F F' → LeR Z ρ ρ' → Sim X.K X.mg Z F' ρ' μ δ σ H' → P a δ μ F' ρ' H'
  | .exc x δ μ => ∀ c d H' F' ρ', Le Z F F' → LeR Z ρ ρ' → Sim X.K X.mg Z F' ρ' μ δ σ H' → ExcR X.K X.mg F' ρ' c d x → W c d σ H'
  | .bad => False
end
section
variable {X : Cx} {W : WX} {Z F F1 : Hp} {ρ ρ1 : List Addr} {σ : St} {α β : Type}
theorem FinE.mono {P : α → Loc → Mem → Hp → List Addr → Hp → Prop} {r : Out α} (h : FinE X W Z F ρ σ P r) (l : Le Z F F1) (lr : LeR Z ρ ρ1) : FinE X W Z F1 ρ1 σ P r := by
  cases r with
  | ok a δ μ => exact fun H' F' ρ' l' lr' S => h H' F' ρ' (l.trans l') (lr.trans lr') S
  | exc x δ μ => exact fun c d H' F' ρ' l' lr' S e => h c d H' F' ρ' (l.trans l') (lr.trans lr') S e
  | bad => exact h
theorem FinE.bind {P : β → Loc → Mem → Hp → List Addr → Hp → Prop} {r : Out α} {f : α → Loc → Mem → Out β} (h : FinE X W Z F ρ σ P (r.bind f)) :
    FinE X W Z F ρ σ (fun a δ μ F' ρ' H' => Sim X.K X.mg Z F' ρ' μ δ σ H' ∧ Le Z F F' ∧ LeR Z ρ ρ' ∧ FinE X W Z F' ρ' σ P (f a δ μ)) r := by
  cases r with
  | ok a δ μ => exact fun H' F' ρ' l lr S => ⟨S, l, lr, h.mono l lr⟩
  | exc x δ μ => exact h
  | bad => exact h
theorem FinE.imp {P P' : α → Loc → Mem → Hp → List Addr → Hp → Prop} {r : Out α} (h : FinE X W Z F ρ σ P r)
    (hp : ∀ a δ μ H' F' ρ', Le Z F F' → LeR Z ρ ρ' → Sim X.K X.mg Z F' ρ' μ δ σ H' → P a δ μ F' ρ' H' → P' a δ μ F' ρ' H') : FinE X W Z F ρ σ P' r := by
  cases r with
  | ok a δ μ => exact fun H' F' ρ' l lr S => hp a δ μ H' F' ρ' l lr S (h H' F' ρ' l lr S)
  | exc x δ μ => exact h
  | bad => exact h
end
theorem _root_.L2.PE.imp {X : Cx} {e : Expr} {t t' : TE} (h : PE X e t) (hi : ∀ σ H Q, t' σ H Q → t σ H Q) : PE X e t' := ⟨fun pins s σ H Q I q => h.run pins s σ H Q I (hi σ H Q q)⟩
theorem _root_.L2.PT.imp {X : Cx} {e : Expr} {t t' : TT} (h : PT X e t) (hi : ∀ σ H Q, t' σ H Q → t σ H Q) : PT X e t' := ⟨fun pins s σ H Q I q => h.run pins s σ H Q I (hi σ H Q q)⟩
theorem _root_.L2.PW.imp {X : Cx} {e : Expr} {t t' : TT} (h : PW X e t) (hi : ∀ σ H Q, t' σ H Q → t σ H Q) : PW X e t' := ⟨fun wh pins s σ H Q I q => h.run wh pins s σ H Q I (hi σ H Q q)⟩
theorem _root_.L2.PA.imp {X : Cx} {e : List Expr} {t t' : TA} (h : PA X e t) (hi : ∀ σ H Q, t' σ H Q → t σ H Q) : PA X e t' := ⟨fun pos pins s σ H Q I q => h.run pos pins s σ H Q I (hi σ H Q q)⟩
section
variable (X : Cx) (W : WX)
def rdE (m : ME) : TE := fun σ H Q => ∃ Z F ρ μ δ, Sim X.K X.mg Z F ρ μ δ σ H ∧
  FinE X W Z F ρ σ (fun s δ' _ F' ρ' H' => ∀ v, VR X.K X.mg Z F' ρ' δ' σ H' v s → Q v H') (m δ μ)
def rdT (m : MT) : TT := fun σ H Q => ∃ Z F ρ μ δ, Sim X.K X.mg Z F ρ μ δ σ H ∧ FinE X W Z F ρ σ (fun b _ _ _ _ H' => Q b H') (m δ μ)
end
abbrev JE (X : Cx) (W : WX) (e : Expr) (m : ME) : Prop := PE X e (rdE X W m)
inductive Opn where
  | e (m : ME) | v (i : Nat)
inductive OR where
  | d (d : D) | i (i : Nat)
def Opn.ev : Opn → MM OR
  | .e m => fun δ μ => (m δ μ).bind fun s δ1 μ1 => .ok (.d s.d) δ1 μ1
  | .v i => fun δ μ => match δ[i]? with
    | some (some _) => .ok (.i i) δ μ
    | _ => .bad
def look (μ : Mem) : D → Option D
  | .obj k => (μ[k]?).map Own.d
  | d => some d
def OR.at (δ : Loc) (μ : Mem) : OR → Option D
  | .d x => look μ x
  | .i j => match δ[j]? with
    | some (some s) => look μ s.d
    | _ => none
section
variable (K : PySem.W.Frag) (mg : Str → Option Value)
def OrR (F : Hp) (ρ : List Addr) (σ : St) (v : V) : OR → Prop
  | .d x => Rep K mg F ρ v x
  | .i j => σ[j]? = some (some v)
inductive Bor (F : Hp) (ρ : List Addr) (H : Hp) : V → D → Prop where
  | fr {v d} (h : Rep K mg F ρ v d) : Bor F ρ H v d
  | own {p o} (h : OwnR K mg F ρ H p o) : Bor F ρ H (.ref p) o.d
inductive OrRs (F : Hp) (ρ : List Addr) (σ : St) : List V → List OR → Prop where
  | nil : OrRs F ρ σ [] []
  | cons {v d vs ds} (h : OrR K mg F ρ σ v d) (t : OrRs F ρ σ vs ds) : OrRs F ρ σ (v :: vs) (d :: ds)
end
section
variable {K : PySem.W.Frag} {mg : Str → Option Value} {Z F F' : Hp} {ρ ρ' : List Addr} {μ : Mem} {δ : Loc} {σ : St} {H H' : Hp} {v : V} {d : D}
theorem OrR.up {r : OR} (h : OrR K mg F ρ σ v r) (l : Le Z F F') (lr : LeR Z ρ ρ') : OrR K mg F' ρ' σ v r := by
  cases r with
  | d x => exact Rep.up l.to lr.to h
  | i j => exact h
theorem OrRs.up {vs : List V} {rs : List OR} (h : OrRs K mg F ρ σ vs rs) (l : Le Z F F') (lr : LeR Z ρ ρ') : OrRs K mg F' ρ' σ vs rs := by
  induction h with
  | nil => exact .nil
  | cons h t ih => exact .cons (h.up l lr) ih
theorem look_flat {d d' : D} (e : look μ d = some d') : (∃ k c, d = .obj k ∧ μ[k]? = some c ∧ d' = c.d) ∨ d' = d := by
  cases d <;> first
    | (right; have e' := e; unfold look at e'; exact (Option.some.inj e').symm)
    | (rename_i k
       left
       unfold look at e
       obtain ⟨c, e1, e2⟩ := Option.map_eq_some_iff.mp e
       exact ⟨k, c, rfl, e1, e2.symm⟩)
theorem Rep.seen (S : Sim K mg Z F ρ μ δ σ H) {d' : D} (h : Rep K mg F ρ v d) (e : look μ d = some d') : Bor K mg F ρ H v d' := by
  rcases look_flat e with ⟨k, c, rfl, hc, rfl⟩ | rfl
  · cases h with
    | obj hp =>
      obtain ⟨a, ea, _, _, r⟩ := S.mem k c hc
      rw [hp] at ea; cases ea
      exact .own r
  · exact .fr h
theorem Bor.lst (S : Sim K mg Z F ρ μ δ σ H) {ds : List D} (h : Bor K mg F ρ H v (.lst ds)) : ∃ p vs, v = .ref p ∧ H p = some (.lst vs) ∧ RepL K mg F ρ vs ds := by
  generalize e : D.lst ds = d at h
  cases h with
  | fr h =>
    subst e
    cases h with
    | lst h r =>
      refine ⟨_, _, rfl, ?_, r⟩
      rcases S.le _ _ h with q | ⟨ob, kvs, e, q⟩
      · exact q
      · cases e
  | @own p o h =>
    cases o with
    | lst xs =>
      cases e
      obtain ⟨vs, e, r⟩ := h
      exact ⟨p, vs, rfl, e, r⟩
    | dct ks xs => cases e
    | tab P q => cases e
    | ins c kd ks xs => cases e
    | idc k => cases e
theorem Bor.tup (S : Sim K mg Z F ρ μ δ σ H) {ds : List D} (h : Bor K mg F ρ H v (.tup ds)) : ∃ p vs, v = .ref p ∧ SqT K H p vs ∧ RepL K mg F ρ vs ds := by
  generalize e : D.tup ds = d at h
  cases h with
  | fr h =>
    subst e
    cases h with
    | tup h r => exact ⟨_, _, rfl, h.elim (fun h => .inl (S.rd h)) .inr, r⟩
  | @own p o h => cases o <;> cases e
theorem Bor.rc (S : Sim K mg Z F ρ μ δ σ H) {ds : List D} (h : Bor K mg F ρ H v (.rc ds)) : ∃ p o vs, v = .ref p ∧ H p = some (.frz o (.tup vs)) ∧ o.dict = none ∧ RepL K mg F ρ vs ds := by
  generalize e : D.rc ds = d at h
  cases h with
  | fr h =>
    subst e
    cases h with
    | rc h hd r =>
      refine ⟨_, _, _, rfl, ?_, hd, r⟩
      rcases S.le _ _ h with q | ⟨ob, kvs, e, q⟩
      · exact q
      · cases e
  | @own p o h => cases o <;> cases e
theorem Bor.ro (S : Sim K mg Z F ρ μ δ σ H) {ds : List D} (h : Bor K mg F ρ H v (.ro ds)) : ∃ p vs, v = .ref p ∧ SqL K H p vs ∧ RepL K mg F ρ vs ds := by
  generalize e : D.ro ds = d at h
  cases h with
  | fr h =>
    subst e
    cases h with
    | ro h r => exact ⟨_, _, rfl, h.elim (fun h => .inl (S.rd h)) .inr, r⟩
  | @own p o h => cases o <;> cases e
theorem Bor.dct (S : Sim K mg Z F ρ μ δ σ H) {ks : List DK} {ds : List D} (h : Bor K mg F ρ H v (.dct ks ds)) : ∃ p vs, v = .ref p ∧ Rd H p (.dK ((ks.map DK.key).zip vs)) ∧ ks.length = vs.length ∧ RepL K mg F ρ vs ds := by
  generalize e : D.dct ks ds = d at h
  cases h with
  | fr h =>
    subst e
    cases h with
    | dct h l r => exact ⟨_, _, rfl, S.rd h, l, r⟩
  | @own p o h =>
    cases o with
    | lst xs => cases e
    | dct ks xs =>
      cases e
      obtain ⟨vs, e, n, r⟩ := h
      exact ⟨p, vs, rfl, .inl e, n, r⟩
    | tab P q => cases e
    | ins c kd ks xs => cases e
    | idc k => cases e
theorem Bor.rep (h : Bor K mg F ρ H v d) (n : ∀ o, d ≠ Own.d o) : Rep K mg F ρ v d := by
  cases h with
  | fr h => exact h
  | own h => exact absurd rfl (n _)
theorem Bor.int {i : Int} (h : Bor K mg F ρ H v (.int i)) : v = .int i := by
  cases h.rep (fun o e => by cases o <;> cases e); rfl
theorem Bor.bl {i : Bool} (h : Bor K mg F ρ H v (.bl i)) : v = .bl i := by
  cases h.rep (fun o e => by cases o <;> cases e); rfl
theorem Bor.str {i : Tx} (h : Bor K mg F ρ H v (.str i)) : v = .str (toS i) := by
  cases h.rep (fun o e => by cases o <;> cases e); rfl
theorem Bor.non (h : Bor K mg F ρ H v .non) : v = .non := by
  cases h.rep (fun o e => by cases o <;> cases e); rfl
end
section
variable {X : Cx} {W : WX} {e a b : Expr} {es : List Expr} {pos : Pos}
def mD (d : D) : ME := fun δ μ => .ok (.fr d) δ μ
theorem je_c {v : V} {d : D} (h : PE X e (tC v)) (r : ∀ F ρ, Rep X.K X.mg F ρ v d) : JE X W e (mD d) :=
  h.imp fun σ H Q ⟨Z, F, ρ, μ, δ, S, q⟩ => q H F ρ .refl .refl S v ⟨r F ρ, fun o p z => by cases z⟩
def mV (i : Nat) : ME := fun δ μ => match δ[i]? with
  | some (some s) => .ok (.fr s.d) (δ.set i (some (.fr s.d))) μ
  | _ => .bad
theorem je_v {i : Nat} (h : PE X e (tVar i)) : JE X W e (mV i) := by
  refine h.imp fun σ H Q ⟨Z, F, ρ, μ, δ, S, q⟩ => ?_
  unfold mV at q
  cases e1 : δ[i]? with
  | none => simp only [e1] at q; exact q.elim
  | some o =>
    cases o with
    | none => simp only [e1] at q; exact q.elim
    | some s =>
      simp only [e1] at q
      obtain ⟨F', v, l, ev, S', r⟩ := S.lockAt e1
      exact ⟨v, ev, q H F' ρ l .refl S' v ⟨r, fun o p z => by cases z⟩⟩
theorem je_glo {x : String} {u : Value} {v : V} {p : Pos} (hg : Gl X (Str.ofString x)) (hm : X.mg (Str.ofString x) = some u) (r : RelV v u) (hd : (Str.ofString x == ("__debug__" : Str)) = false := by decide +kernel) : JE X W (.Name (Str.ofString x) p) (mD (.glo x)) :=
  je_c (pe_glob hg hm r hd) fun _ _ => .glo hm r
theorem VR.bl {K : PySem.W.Frag} {mg : Str → Option Value} {Z F H : Hp} {ρ : List Addr} {δ : Loc} {σ : St} {b : Bool} : VR K mg Z F ρ δ σ H (.bl b) (.fr (.bl b)) := ⟨.bl, fun o p z => by cases z⟩
end
end FL
namespace FL
open PySem L2
theorem line_eq : sizeLine = 16777216 := sizeLine_eq
section
variable {X : Cx} {W : WX} {e a b : Expr} {es : List Expr} {pos : Pos}
theorem RepL.rep {F : Hp} {ρ : List Addr} {vs : List V} {ds : List D} (h : RepL X.K X.mg F ρ vs ds) : ∀ n : Nat, RepL X.K X.mg F ρ (List.replicate n vs).flatten (List.replicate n ds).flatten
  | 0 => .nil
  | n + 1 => by
    rw [List.replicate_succ, List.replicate_succ, List.flatten_cons, List.flatten_cons]
    exact h.app (RepL.rep h n)
mutual
def D.py : D → Option PyData
  | .non => some .none
  | .bl b => some (.bool b)
  | .int i => some (.int i)
  | .str x => some (.str (toS x))
  | .lst xs => (D.pys xs).map .list
  | .tup xs => (D.pys xs).map .tuple
  | .fx .ro [] xs => (D.pys xs).map .list
  | .fx .rc [] xs => (D.pys xs).map .tuple
  | _ => none
def D.pys : List D → Option (List PyData)
  | [] => some []
  | x :: xs => match D.py x, D.pys xs with
    | some a, some r => some (a :: r)
    | _, _ => none
end
end
end FL
namespace FL
open PySem L2
section
variable {X : Cx} {W : WX} {e a b o : Expr} {es : List Expr} {pos p apos : Pos}
theorem je_ty {x : Str} {T : String} (hg : Gl X x) (hm : X.mg x = none) (hv : bootBuiltins x = some (.type T)) (hn : x ≠ "__name__" := by decide) (hdb : (x == ("__debug__" : Str)) = false := by decide) : JE X W (.Name x pos) (mD (.ty T)) :=
  je_c (pe_bltn hg hm hv (v := .ty T) rfl hn hdb) fun _ _ => .ty
theorem Bor.ty {F H : Hp} {ρ : List Addr} {v : V} {T : String} (h : Bor X.K X.mg F ρ H v (.ty T)) : v = .ty T := by
  cases h.rep (fun o e => by cases o <;> cases e)
  rfl
end
end FL
namespace FL
open PySem L2
section
variable {K : PySem.W.Frag} {mg : Str → Option Value} {Z F F' : Hp} {ρ ρ' : List Addr} {μ : Mem} {δ : Loc} {σ : St} {H H' : Hp} {p : Addr} {o : HO} {v : V} {s : Slot}
theorem Sim.put {i : Nat} (S : Sim K mg Z F ρ μ δ σ H) (h : VR K mg Z F ρ δ σ H v s) : Sim K mg Z F ρ μ (δ.set i (some s)) (σ.set i (some v)) H := by
  by_cases hi : i < δ.length
  · exact S.store h hi
  · rw [List.set_eq_of_length_le (by omega), List.set_eq_of_length_le (by rw [S.len]; omega)]
    exact S
theorem Sim.drop (S : Sim K mg Z F ρ μ δ σ H) : Sim K mg Z F ρ μ [] [] H :=
  ⟨S.le, S.zk, rfl, fun i s e => by simp at e, fun i j p s s' e => by simp at e, S.mem, S.mlen, S.nod⟩
theorem Sim.guard (S : Sim K mg Z F ρ μ δ σ H) (hp : H p = some o) (fr : Free Z F ρ p) (no : ∀ (i : Nat) s, δ[i]? = some (some (.own s)) → σ[i]? ≠ some (some (.ref p))) : Sim K mg (upd Z p o) F ρ μ δ σ H := by
  refine ⟨S.le, fun q u h => ?_, S.len, fun i t e => ?_, S.apart, fun k c e => ?_, S.mlen, S.nod⟩
  · by_cases z : q = p
    · subst z; rw [upd_same] at h; cases h; exact hp
    · rw [upd_ne z] at h; exact S.zk q u h
  · obtain ⟨w, e1, r⟩ := S.slot i t e
    refine ⟨w, e1, ?_⟩
    cases t with
    | fr d => exact r
    | own c =>
      obtain ⟨q, ev, f1, r⟩ := r
      subst ev
      have ne : q ≠ p := fun z => by subst z; exact no i c e e1
      exact ⟨q, rfl, ⟨f1.f, by rw [upd_ne ne]; exact f1.z, f1.r⟩, r⟩
  · obtain ⟨a, e1, f1, f2, r⟩ := S.mem k c e
    have ne : a ≠ p := fun z => by subst z; exact fr.r (List.mem_of_getElem? e1)
    exact ⟨a, e1, f1, by rw [upd_ne ne]; exact f2, r⟩
theorem guard_z {q : Addr} (h : upd Z p o q = none) : q ≠ p ∧ Z q = none := by
  by_cases z : q = p
  · subst z; rw [upd_same] at h; cases h
  · rw [upd_ne z] at h; exact ⟨z, h⟩
theorem Sim.unguard (S : Sim K mg (upd Z p o) F ρ μ δ σ H) (hz : Z p = none) : Sim K mg Z F ρ μ δ σ H := by
  refine ⟨S.le, fun q u h => S.zk q u ?_, S.len, fun i t e => ?_, S.apart, fun k c e => ?_, S.mlen, S.nod⟩
  · rw [upd_ne (fun z => by subst z; rw [hz] at h; cases h)]; exact h
  · obtain ⟨w, e1, r⟩ := S.slot i t e
    refine ⟨w, e1, ?_⟩
    cases t with
    | fr d => exact r
    | own c =>
      obtain ⟨q, ev, f1, r⟩ := r
      exact ⟨q, ev, ⟨f1.f, (guard_z f1.z).2, f1.r⟩, r⟩
  · obtain ⟨a, e1, f1, f2, r⟩ := S.mem k c e
    exact ⟨a, e1, f1, (guard_z f2).2, r⟩
theorem Sim.guarded (S : Sim K mg (upd Z p o) F ρ μ δ σ H) : H p = some o := S.zk p o upd_same
theorem Sim.guardNo (S : Sim K mg (upd Z p o) F ρ μ δ σ H) : ∀ (i : Nat) s, δ[i]? = some (some (.own s)) → σ[i]? ≠ some (some (.ref p)) := by
  intro i c e e1
  obtain ⟨w, e2, q, ev, f1, r⟩ := S.slot i _ e
  rw [e1] at e2; cases e2; cases ev
  exact (guard_z f1.z).1 rfl
theorem Le.unguard (l : Le (upd Z p o) F F') : Le Z F F' := ⟨l.to, fun q u h => (l.new q u h).elim .inl fun z => .inr (guard_z z).2⟩
theorem LeR.unguard (l : LeR (upd Z p o) ρ ρ') : LeR Z ρ ρ' := ⟨l.to, fun q h => (l.new q h).elim .inl fun z => .inr (guard_z z).2⟩
theorem Free.on (fr : Free Z F ρ p) (l : Le (upd Z p o) F F') (lr : LeR (upd Z p o) ρ ρ') : Free Z F' ρ' p := by
  refine ⟨?_, fr.z, fun h => ?_⟩
  · cases e : F' p with
    | none => rfl
    | some u =>
      rcases l.new p u e with h | h
      · rw [fr.f] at h; cases h
      · exact absurd rfl (guard_z h).1
  · rcases lr.new p h with h | h
    · exact fr.r h
    · exact absurd rfl (guard_z h).1
end
inductive OutS where
  | nx (δ : Loc) (μ : Mem)
  | rt (s : Slot) (μ : Mem)
  | bk (δ : Loc) (μ : Mem)
  | ct (δ : Loc) (μ : Mem)
  | exc (x : Exc) (δ : Loc) (μ : Mem)
  | bad
abbrev MS := Loc → Mem → OutS
def Out.thn {α : Type} (r : Out α) (f : α → Loc → Mem → OutS) : OutS :=
  match r with
  | .ok a δ μ => f a δ μ
  | .exc x δ μ => .exc x δ μ
  | .bad => .bad
def OutS.seq (r : OutS) (k : MS) : OutS :=
  match r with
  | .nx δ μ => k δ μ
  | .rt s μ => .rt s μ
  | .bk δ μ => .bk δ μ
  | .ct δ μ => .ct δ μ
  | .exc x δ μ => .exc x δ μ
  | .bad => .bad
section
variable (X : Cx) (W : WX)
def FinS (Z F : Hp) (ρ : List Addr) (D : Ends) : OutS → Prop
  | .nx δ μ => ∀ σ' H' F' ρ', Le Z F F' → LeR Z ρ ρ' → Sim X.K X.mg Z F' ρ' μ δ σ' H' → D.nx σ' H'
  | .bk δ μ => ∀ σ' H' F' ρ', Le Z F F' → LeR Z ρ ρ' → Sim X.K X.mg Z F' ρ' μ δ σ' H' → D.bk σ' H'
  | .ct δ μ => ∀ σ' H' F' ρ', Le Z F F' → LeR Z ρ ρ' → Sim X.K X.mg Z F' ρ' μ δ σ' H' → D.ct σ' H'
  | .rt s μ => ∀ v H' F' ρ', Le Z F F' → LeR Z ρ ρ' → Sim X.K X.mg Z F' ρ' μ [] [] H' → SlotR X.K X.mg Z F' ρ' H' v s → D.rt v H'
  | .exc x δ μ => ∀ c d σ' H' F' ρ', Le Z F F' → LeR Z ρ ρ' → Sim X.K X.mg Z F' ρ' μ δ σ' H' → ExcR X.K X.mg F' ρ' c d x → W c d σ' H'
  | .bad => False
def rdS (m : MS) : TS := fun D σ H => ∃ Z F ρ μ δ, Sim X.K X.mg Z F ρ μ δ σ H ∧ FinS X W Z F ρ D (m δ μ)
end
theorem _root_.L2.PS.imp {X : Cx} {s : Stmt} {t t' : TS} (h : PS X s t) (hi : ∀ D σ H, t' D σ H → t D σ H) : PS X s t' := ⟨fun pins s σ H D I q => h.run pins s σ H D I (hi D σ H q)⟩
theorem _root_.L2.PSs.imp {X : Cx} {s : List Stmt} {t t' : TS} (h : PSs X s t) (hi : ∀ D σ H, t' D σ H → t D σ H) : PSs X s t' := ⟨fun pins s σ H D I q => h.run pins s σ H D I (hi D σ H q)⟩
abbrev JS (X : Cx) (W : WX) (s : Stmt) (m : MS) : Prop := PS X s (rdS X W m)
section
variable {X : Cx} {W : WX} {Z F F1 : Hp} {ρ ρ1 : List Addr} {D : Ends} {σ : St} {H : Hp} {μ : Mem} {δ : Loc}
theorem FinS.mono {r : OutS} (h : FinS X W Z F ρ D r) (l : Le Z F F1) (lr : LeR Z ρ ρ1) : FinS X W Z F1 ρ1 D r := by
  cases r with
  | nx δ μ => exact fun σ' H' F' ρ' l' lr' S => h σ' H' F' ρ' (l.trans l') (lr.trans lr') S
  | bk δ μ => exact fun σ' H' F' ρ' l' lr' S => h σ' H' F' ρ' (l.trans l') (lr.trans lr') S
  | ct δ μ => exact fun σ' H' F' ρ' l' lr' S => h σ' H' F' ρ' (l.trans l') (lr.trans lr') S
  | rt s μ => exact fun v H' F' ρ' l' lr' S r => h v H' F' ρ' (l.trans l') (lr.trans lr') S r
  | exc x δ μ => exact fun c d σ' H' F' ρ' l' lr' S e => h c d σ' H' F' ρ' (l.trans l') (lr.trans lr') S e
  | bad => exact h
theorem FinS.thn {α : Type} {r : Out α} {f : α → Loc → Mem → OutS} (h : FinS X W Z F ρ D (r.thn f)) :
    FinE X W Z F ρ σ (fun a δ μ F' ρ' H' => Sim X.K X.mg Z F' ρ' μ δ σ H' ∧ FinS X W Z F' ρ' D (f a δ μ)) r := by
  cases r with
  | ok a δ μ => exact fun H' F' ρ' l lr S => ⟨S, h.mono l lr⟩
  | exc x δ μ => exact fun c d H' F' ρ' l lr S e => h c d σ H' F' ρ' l lr S e
  | bad => exact h
theorem FinS.nx {δ : Loc} {μ : Mem} {σ' : St} {H' : Hp} (h : FinS X W Z F ρ D (.nx δ μ)) (S : Sim X.K X.mg Z F ρ μ δ σ' H') : D.nx σ' H' := h σ' H' F ρ .refl .refl S
theorem FinS.seq {r : OutS} {k : MS} (h : FinS X W Z F ρ D (r.seq k)) : FinS X W Z F ρ { D with nx := rdS X W k D } r := by
  cases r with
  | nx δ μ => exact fun σ' H' F' ρ' l lr S => ⟨Z, F', ρ', μ, δ, S, FinS.mono h l lr⟩
  | bk δ μ => exact h
  | ct δ μ => exact h
  | rt s μ => exact h
  | exc x δ μ => exact h
  | bad => exact h
variable {st : Stmt} {sts rest : List Stmt} {e : Expr} {pos : Pos}
def mSet (i : Nat) (m : ME) : MS := fun δ μ => (m δ μ).thn fun s δ1 μ1 => .nx (δ1.set i (some s)) μ1
theorem set_read {i : Nat} {m : ME} : ∀ D σ H, rdS X W (mSet i m) D σ H → tAsg (rdE X W m) (gName i) D σ H := by
  intro D σ H ⟨Z, F, ρ, μ, δ, S, q⟩
  exact ⟨Z, F, ρ, μ, δ, S, (FinS.thn q).imp fun a δ1 μ1 H1 F1 ρ1 l lr S1 ⟨_, p⟩ v vr => p.nx (S1.put vr)⟩
theorem js_set {i : Nat} {x : Str} {m : ME} {pos' : Pos} (hN : X.N.Nodup) (hi : X.N[i]? = some x) (hx : L2.Loc X.env.scope x) (he : JE X W e m) (hs : swapsWith e (some (.Name x pos')) pos.line X.env = pure false := by rfl) (hf : X.fn x = true ∨ X.env.scope.names.lookup x = some .local := by first | exact .inl rfl | exact .inr rfl | assumption) :
    JS X W (.Assign [.Name x pos'] e pos) (mSet i m) := (ps_set hN hi hx he hs hf).imp set_read
end
end FL
namespace FL
open PySem L2
section
variable {X : Cx} {W : WX} {e a b : Expr} {es : List Expr} {pos : Pos}
abbrev TgF := D → Loc → Option Loc
def rdG (X : Cx) (f : TgF) (is : List Nat) : TG := fun v σ H Q => ∃ Z F ρ μ δ d, Sim X.K X.mg Z F ρ μ δ σ H ∧ Rep X.K X.mg F ρ v d ∧ ∃ δ', f d δ = some δ' ∧
  ∀ σ', (∀ j : Nat, j ∉ is → σ'[j]? = σ[j]?) → σ'.length = σ.length → Sim X.K X.mg Z F ρ μ δ' σ' H → Q σ' H
theorem _root_.L2.PG.imp {X : Cx} {e : Expr} {t t' : TG} (h : PG X e t) (hi : ∀ v σ H Q, t' v σ H Q → t v σ H Q) : PG X e t' := ⟨fun pins s σ H v u Q I r q => h.run pins s σ H v u Q I r (hi v σ H Q q)⟩
theorem _root_.L2.PGs.imp {X : Cx} {e : List Expr} {t t' : TGs} (h : PGs X e t) (hi : ∀ v σ H Q, t' v σ H Q → t v σ H Q) : PGs X e t' := ⟨fun pins s σ H v u Q I r q => h.run pins s σ H v u Q I r (hi v σ H Q q)⟩
abbrev JG (X : Cx) (e : Expr) (f : TgF) (is : List Nat) : Prop := PG X e (rdG X f is)
def tgV (i : Nat) : TgF := fun d δ => some (δ.set i (some (.fr d)))
theorem jg_v {i : Nat} {x : Str} (hN : X.N.Nodup) (hi : X.N[i]? = some x) (hx : L2.Loc X.env.scope x) (hf : X.fn x = true ∨ X.env.scope.names.lookup x = some .local := by first | exact .inl rfl | exact .inr rfl | assumption) : JG X (.Name x pos) (tgV i) [i] :=
  (pg_name hN hi hx hf).imp fun v σ H Q ⟨Z, F, ρ, μ, δ, d, S, r, δ', e1, q⟩ => by
    cases e1
    refine q _ (fun j hj => ?_) (by simp) (S.put ⟨r, fun o p z => by cases z⟩)
    rw [List.getElem?_set_ne (fun z => hj (by simp [z]))]
def ItR (X : Cx) (F : Hp) (ρ : List Addr) (J : It) (ds : List D) : Prop := ∀ Z' F' ρ' μ δ σ H (i : Nat), (∀ p o, F p = some o → F' p = some o) → (∀ (k : Nat) p, ρ[k]? = some p → ρ'[k]? = some p) → Sim X.K X.mg Z' F' ρ' μ δ σ H →
  (ds.length ≤ i → J.stop i H) ∧ ∀ d, ds[i]? = some d → J.go i H ∧ ∀ x H', J.yld i H x H' → ∃ F2, Le Z' F' F2 ∧ Sim X.K X.mg Z' F2 ρ' μ δ σ H' ∧ Rep X.K X.mg F2 ρ' x d
def rdI (X : Cx) (W : WX) (m : MM (List D)) : TI := fun σ H R => ∃ Z F ρ μ δ, Sim X.K X.mg Z F ρ μ δ σ H ∧
  FinE X W Z F ρ σ (fun ds _ _ F' ρ' H' => ∀ J, ItR X F' ρ' J ds → R J H') (m δ μ)
theorem _root_.L2.PI.imp {X : Cx} {tg e : Expr} {t t' : TI} (h : PI X tg e t) (hi : ∀ σ H Q, t' σ H Q → t σ H Q) : PI X tg e t' := ⟨fun pins s σ H R I q => h.run pins s σ H R I (hi σ H R q)⟩
abbrev JI (X : Cx) (W : WX) (tg e : Expr) (m : MM (List D)) : Prop := PI X tg e (rdI X W m)
def Out.cut {α : Type} (r : Out α) : Out α := match r with
  | .exc _ _ _ => .bad
  | r => r
def wipeD (δ : Loc) : List Nat → Loc
  | [] => δ
  | v :: vs => (wipeD δ vs).set v none
theorem Sim.wipe {K : PySem.W.Frag} {mg : Str → Option Value} {Z F H : Hp} {ρ : List Addr} {μ : Mem} {δ : Loc} {σ : St} (S : Sim K mg Z F ρ μ δ σ H) : ∀ vs, Sim K mg Z F ρ μ (wipeD δ vs) (L2.wipe σ vs) H
  | [] => S
  | v :: vs => (Sim.wipe S vs).forget
theorem Sim.agree {K : PySem.W.Frag} {mg : Str → Option Value} {Z F H : Hp} {ρ : List Addr} {μ : Mem} {δ : Loc} {σ σ' : St} (S : Sim K mg Z F ρ μ δ σ H) (hl : σ'.length = σ.length) (ha : ∀ (i : Nat) s, δ[i]? = some (some s) → σ'[i]? = σ[i]?) : Sim K mg Z F ρ μ δ σ' H :=
  ⟨S.le, S.zk, hl.trans S.len, fun i s e => by rw [ha i s e]; exact S.slot i s e, fun i j p s s' e1 e2 e3 e4 => S.apart i j p s s' e1 e2 (by rw [← ha i _ e1]; exact e3) (by rw [← ha j _ e2]; exact e4), S.mem, S.mlen, S.nod⟩
theorem wipeD_in {δ : Loc} {i : Nat} {s : Slot} : ∀ {vs : List Nat}, (wipeD δ vs)[i]? = some (some s) → i ∉ vs
  | [], _ => by simp
  | v :: vs, h => by
    unfold wipeD at h
    by_cases z : i = v
    · subst z
      by_cases hl : i < (wipeD δ vs).length
      · rw [List.getElem?_set_self hl] at h; cases h
      · rw [List.getElem?_eq_none (by simpa using hl)] at h; cases h
    · rw [List.getElem?_set_ne (Ne.symm z)] at h
      have := wipeD_in h
      simp [z, this]
theorem wipe_out {σ : St} {i : Nat} : ∀ {vs : List Nat}, i ∉ vs → (L2.wipe σ vs)[i]? = σ[i]?
  | [], _ => rfl
  | v :: vs, h => by
    unfold L2.wipe
    rw [List.getElem?_set_ne (fun z => h (by simp [z]))]
    exact wipe_out fun z => h (List.mem_cons_of_mem _ z)
theorem wipe_same {σ σ' : St} (hl : σ'.length = σ.length) : ∀ {vs : List Nat}, (∀ j : Nat, j ∉ vs → σ'[j]? = σ[j]?) → L2.wipe σ' vs = L2.wipe σ vs := by
  intro vs h
  apply List.ext_getElem?
  intro i
  by_cases hi : i ∈ vs
  · have no : ∀ (τ : St), τ.length = σ.length → ∀ vs : List Nat, i ∈ vs → (L2.wipe τ vs)[i]? = if i < σ.length then some none else none := by
      intro τ hτ vs
      induction vs with
      | nil => intro z; cases z
      | cons v vs ih =>
        intro z
        unfold L2.wipe
        by_cases e : i = v
        · subst e
          by_cases hlt : i < σ.length
          · rw [List.getElem?_set_self (by rw [wipe_length, hτ]; exact hlt), if_pos hlt]
          · rw [List.getElem?_eq_none (by rw [List.length_set, wipe_length, hτ]; omega), if_neg hlt]
        · rw [List.getElem?_set_ne (Ne.symm e)]
          exact ih ((List.mem_cons.mp z).resolve_left e)
    rw [no σ' hl vs hi, no σ rfl vs hi]
  · rw [wipe_out hi, wipe_out hi]
    exact h i hi
def lcD (f : TgF) (tests : MT) (elt : ME) (vs : List Nat) : List D → List D → ME
  | [], acc => fun δ μ => .ok (.own (.lst acc)) δ μ
  | d :: ds, acc => fun δ μ => match f d δ with
    | none => .bad
    | some δ' => (tests δ' μ).cut.bind fun b δ2 μ2 => if b = true then (elt δ2 μ2).cut.bind fun s δ3 μ3 => if acc.length < 16777216 then lcD f tests elt vs ds (acc ++ [s.d]) (wipeD δ3 vs) μ3 else .bad
      else lcD f tests elt vs ds acc (wipeD δ2 vs) μ2
def mLc (mi : MM (List D)) (f : TgF) (tests : MT) (elt : ME) (vs : List Nat) : ME := fun δ μ => (mi δ μ).bind fun ds δ1 μ1 => lcD f tests elt vs ds [] (wipeD δ1 vs) μ1
abbrev W0 : WX := fun _ _ _ _ => False
theorem FinE.cut {Y : Cx} {Z F : Hp} {ρ : List Addr} {σ σ' : St} {α β : Type} {P : β → Loc → Mem → Hp → List Addr → Hp → Prop} {r : Out α} {g : α → Loc → Mem → Out β} {p : Addr} {o : HO} (hK : Y.K = X.K) (hm : Y.mg = X.mg) (h : FinE X W Z F ρ σ P (r.cut.bind g)) :
    FinE Y W0 (upd Z p o) F ρ σ' (fun a δ μ F' ρ' H' => Sim X.K X.mg (upd Z p o) F' ρ' μ δ σ' H' ∧ Le (upd Z p o) F F' ∧ LeR (upd Z p o) ρ ρ' ∧ FinE X W Z F' ρ' σ P (g a δ μ)) r := by
  cases r with
  | ok a δ μ =>
    intro H' F' ρ' l lr S
    rw [hK, hm] at S
    exact ⟨S, l, lr, FinE.mono h l.unguard lr.unguard⟩
  | exc x δ μ => exact h.elim
  | bad => exact h
theorem lc_read {Y : Cx → Prop} {mi : MM (List D)} {f : TgF} {tests : MT} {elt : ME} {vs is : List Nat} {B : Cx} (hK : B.K = X.K) (hm : B.mg = X.mg) (hsub : ∀ j ∈ is, j ∈ vs) : ∀ σ H Q, rdE X W (mLc mi f tests elt vs) σ H Q → tLc (rdI X W mi) (rdG X f is) (rdT B W0 tests) (rdE B W0 elt) vs σ H Q := by
  intro σ H Q ⟨Z, F, ρ, μ, δ, S, q⟩
  refine ⟨Z, F, ρ, μ, δ, S, (FinE.bind q).imp fun ds δ1 μ1 H1 F1 ρ1 l lr S1 ⟨_, _, _, p⟩ J hJ A hA => ?_⟩
  obtain ⟨n1, n2, n3, n4⟩ := S1.notIn hA
  let P : Slot → Loc → Mem → Hp → List Addr → Hp → Prop := fun s δ' _ F' ρ' H' => ∀ v, VR X.K X.mg Z F' ρ' δ' σ H' v s → Q v H'
  let Wd : Nat → Nat → Hp → Prop := fun i k H => k = ds.length - i ∧ i ≤ ds.length ∧ ∃ F' ρ' μ δ vals acc, (∀ p o, F1 p = some o → F' p = some o) ∧ (∀ (k : Nat) p, ρ1[k]? = some p → ρ'[k]? = some p) ∧ Sim X.K X.mg Z F' ρ' μ (wipeD δ vs) (L2.wipe σ vs) H ∧
    Free Z F' ρ' A ∧ (∀ (i : Nat) s, (wipeD δ vs)[i]? = some (some (.own s)) → (L2.wipe σ vs)[i]? ≠ some (some (.ref A))) ∧ H A = some (.lst vals) ∧ RepL X.K X.mg F' ρ' vals acc ∧ FinE X W Z F' ρ' σ P (lcD f tests elt vs (ds.drop i) acc (wipeD δ vs) μ)
  have wout : ∀ {δ : Loc} {s : Slot} (i : Nat), (wipeD δ vs)[i]? = some (some s) → (L2.wipe σ vs)[i]? = σ[i]? := fun i h => wipe_out (wipeD_in h)
  have Sw := (S1.laid (o := .lst []) hA).wipe vs
  refine ⟨Wd, ⟨ds.length, by simp, Nat.zero_le _, F1, ρ1, μ1, δ1, [], [], fun _ _ h => h, fun _ _ h => h, Sw, ⟨n1, n2, n3⟩, fun i s e1 e2 => ?_, upd_same, .nil, by rw [List.drop_zero]; exact p⟩, ?_⟩
  · obtain ⟨w, e3, q', eq', f', r'⟩ := Sw.slot i _ e1
    rw [e2] at e3; cases e3; cases eq'
    have e4 := wout i e1
    rw [e2] at e4
    have e5 : δ1[i]? = some (some (.own s)) := by
      have : ∀ vs : List Nat, (wipeD δ1 vs)[i]? = some (some (.own s)) → δ1[i]? = some (some (.own s)) := by
        intro vs
        induction vs with
        | nil => exact id
        | cons v vs ih =>
          intro h
          have hn := wipeD_in h
          unfold wipeD at h
          rw [List.getElem?_set_ne (fun z => hn (by simp [z]))] at h
          exact ih h
      exact this vs e1
    exact n4 i s e5 e4.symm
  rintro i k H2 ⟨rfl, hle, F2, ρ2, μ2, δ2, vals, acc, to, tr, S2, fA, nA, hL, rL, p2⟩
  obtain ⟨j1, j2⟩ := hJ Z F2 ρ2 μ2 _ _ H2 i to tr S2
  by_cases hlt : i < ds.length
  · refine .inr ?_
    have hd : ds.drop i = ds[i] :: ds.drop (i + 1) := List.drop_eq_getElem_cons hlt
    have SG := S2.guard hL fA nA
    obtain ⟨go, yl⟩ := hJ (upd Z A (.lst vals)) F2 ρ2 μ2 _ _ H2 i to tr SG |>.2 ds[i] (List.getElem?_eq_getElem hlt)
    refine ⟨go, fun H' => Wd (i + 1) (ds.length - (i + 1)) H', fun H' w => ⟨ds.length - (i + 1), by omega, w⟩, fun x H' y => ?_⟩
    obtain ⟨F3, l3, S3, r3⟩ := yl x H' y
    rw [hd] at p2
    unfold lcD at p2
    cases ef : f ds[i] (wipeD δ2 vs) with
    | none => simp only [ef] at p2; exact p2.elim
    | some δ3 =>
      simp only [ef] at p2
      refine ⟨_, F3, ρ2, μ2, _, _, S3, r3, δ3, ef, fun σ4 hσ hl4 S4 => ?_⟩
      have ws : L2.wipe σ4 vs = L2.wipe σ vs := by
        have h1 := wipe_same (σ := L2.wipe σ vs) (σ' := σ4) hl4 (vs := vs) fun j hj => hσ j fun z => hj (hsub j z)
        rw [h1]
        apply wipe_same (wipe_length _ _)
        intro j hj
        exact wipe_out hj
      refine ⟨by rw [ws, wipe_same (σ := σ) (σ' := σ) rfl fun _ _ => rfl], ?_⟩
      -- the tests
      refine ⟨_, F3, ρ2, μ2, δ3, by rw [hK, hm]; exact S4, (FinE.cut (p := A) (o := .lst vals) hK hm (p2.mono l3.unguard .refl)).imp fun b δ5 μ5 H5 F5 ρ5 l5 lr5 _ ⟨S5, l5', lr5', p5⟩ => ?_⟩
      have fin : ∀ {F6 : Hp} {ρ6 : List Addr} {μ6 : Mem} {δ6 : Loc} {H6 H7 : Hp} {vals' : List V} {acc' : List D}, Sim X.K X.mg (upd Z A (.lst vals)) F6 ρ6 μ6 δ6 σ4 H6 → Le (upd Z A (.lst vals)) F3 F6 → LeR (upd Z A (.lst vals)) ρ2 ρ6 →
          (∀ a, a ≠ A → H7 a = H6 a) → H7 A = some (.lst vals') → RepL X.K X.mg F6 ρ6 vals' acc' → FinE X W Z F6 ρ6 σ P (lcD f tests elt vs (ds.drop (i + 1)) acc' (wipeD δ6 vs) μ6) → Wd (i + 1) (ds.length - (i + 1)) H7 := by
        intro F6 ρ6 μ6 δ6 H6 H7 vals' acc' S6 l6 lr6 hne hA7 rL' p6
        have fA6 : Free Z F6 ρ6 A := (fA.on l3 .refl).on l6 lr6
        have S7 := (S6.unguard fA.z).heap hne fA6.f fA6.z fA6.r S6.guardNo
        have S8 := S7.wipe vs
        rw [ws] at S8
        refine ⟨rfl, hlt, F6, ρ6, μ6, δ6, vals', acc', fun p o h => l6.to p o (l3.to p o (to p o h)), fun k p h => lr6.to k p (tr k p h), S8, fA6, fun i' s e1 e2 => ?_, hA7, rL', p6⟩
        obtain ⟨w, e3, q', eq', f', r'⟩ := S8.slot i' _ e1
        rw [e2] at e3; cases e3; cases eq'
        have e4 : (L2.wipe σ4 vs)[i']? = σ4[i']? := wipe_out (wipeD_in e1)
        rw [ws, e2] at e4
        have e5 : δ6[i']? = some (some (.own s)) := by
          have : ∀ vs : List Nat, (wipeD δ6 vs)[i']? = some (some (.own s)) → δ6[i']? = some (some (.own s)) := by
            intro vs
            induction vs with
            | nil => exact id
            | cons v vs ih =>
              intro h
              have hn := wipeD_in h
              unfold wipeD at h
              rw [List.getElem?_set_ne (fun z => hn (by simp [z]))] at h
              exact ih h
          exact this vs e1
        exact S6.guardNo i' s e5 e4.symm
      cases b with
      | false =>
        simp only [if_neg Bool.false_ne_true] at p5 ⊢
        exact fin S5 l5' lr5' (fun _ _ => rfl) S5.guarded (rL.up (fun p o h => l5'.to p o (l3.to p o h)) lr5'.to) p5
      | true =>
        simp only [if_true] at p5 ⊢
        refine ⟨_, F5, ρ5, μ5, δ5, by rw [hK, hm]; exact S5, (FinE.cut (p := A) (o := .lst vals) hK hm p5).imp fun s δ6 μ6 H6 F6 ρ6 l6 lr6 _ ⟨S6, l6', lr6', p6⟩ v vr => ?_⟩
        rw [hK, hm] at vr
        obtain ⟨F7, l7, S7, r7⟩ := S6.lock vr
        by_cases hz : acc.length < 16777216
        · rw [if_pos hz] at p6
          have rL6 := rL.up (fun p o h => l7.to p o (l6'.to p o (l5'.to p o (l3.to p o h)))) fun k p h => lr6'.to k p (lr5'.to k p h)
          refine ⟨vals, S7.guarded, by rw [rL.len, line_eq]; exact hz, ?_⟩
          exact fin S7 (l5'.trans (l6'.trans l7)) (lr5'.trans lr6') (fun a ne => upd_ne ne) upd_same (rL6.app (.cons r7 .nil)) (p6.mono l7.unguard .refl)
        · rw [if_neg hz] at p6; exact p6.elim
  · have e : i = ds.length := by omega
    subst e
    rw [List.drop_length] at p2
    refine .inl ⟨j1 (Nat.le_refl _), ?_⟩
    have S3 : Sim X.K X.mg Z F2 ρ2 μ2 (wipeD δ2 vs) σ H2 := S2.agree (wipe_length _ _).symm fun i s e => (wout i e).symm
    exact p2 H2 F2 ρ2 .refl .refl S3 (.ref A) ⟨⟨A, rfl, fA, vals, hL, rL⟩, fun o p z1 z2 i o' e1 e2 => by
      cases z2
      exact nA i o' e1 (by rw [wout i e1]; exact e2)⟩
abbrev JTs (X : Cx) (W : WX) (ifs : List Expr) (m : MT) : Prop := PTs X ifs (rdT X W m)
theorem je_lc {elt tg iter : Expr} {ifs : List Expr} {scope : Scope} {own : List (Str × Nat)} {mi : MM (List D)} {f : TgF} {is : List Nat} {tests : MT} {m : ME} (hc : X.calm = true) (hN : X.N.Nodup) (hi : JI X W tg iter mi) (ok : BlkOk X.N X.env.scope scope own)
    (hg : ∀ (s : Shared) (H : Hp) (C : Addr) (cl : List (Str × Addr)) (fp : List Addr), JG (X.blk s H scope (compEnvC scope cl C X.env) fp) tg f is) (ht : ∀ (s : Shared) (H : Hp) (C : Addr) (cl : List (Str × Addr)) (fp : List Addr), JTs (X.blk s H scope (compEnvC scope cl C X.env) fp) W0 ifs tests)
    (he : ∀ (s : Shared) (H : Hp) (C : Addr) (cl : List (Str × Addr)) (fp : List Addr), JE (X.blk s H scope (compEnvC scope cl C X.env) fp) W0 elt m) (hsub : ∀ j ∈ is, j ∈ own.map (·.2)) (hs : ∀ x, foldedSetIterable iter X.env x = pure x := by intro _; rfl) :
    JE X W (.ListComp elt [⟨tg, iter, ifs, 0⟩] scope pos) (mLc mi f tests m (own.map (·.2))) :=
  (pe_lc (g := rdG X f is) (tt := rdT X W0 tests) (te := rdE X W0 m) hc hN hi ok hg ht he hs).imp (lc_read (Y := fun _ => True) (B := X) rfl rfl hsub)
end
end FL
namespace FL
open PySem PySem.Spec PyProof.Rows L2
structure RmG (k : Nat) (A : Around) : Prop where
  r : Room k A
  g : A.guards = some []
structure FnG (P : Program) (w : World) (K : PySem.W.Frag) (mg : Str → Option Value) (base : Heap) (Y : CXT) (k : Nat) (f : Addr) (fd : FuncData) (ps : List Str) (sp : Sp) : Prop where
  len : ∀ vs H Q E, sp vs H Q E → vs.length = ps.length
  run : ∀ (A : Around) (outer : List Env) (s : Shared) (H : Hp) (args : Args) (us : List Value) (vs : List V) (Q : VK) (E : XK), RmG k A → Env0 P w K mg base A outer s H → BindsTo s fd args (ps.zip us) → Vals vs us → sp vs H Q E →
    codeAny (model P w) A (.call (.ref f) args) (CR Y outer P w H s Q E) s
structure Fd (K : PySem.W.Frag) (x qual : Str) (st : Stmt) (f : Addr) (fd : FuncData) (dV : Value) : Prop where
  ex : ∃ (oc : Value) (od : Option Addr) (kV doc pm : Value) (an : Option Addr) (cdv ct : Value) (osl : Array (Option Value)),
    fd = PySem.W.fnOf x qual (defArgs st) (defBody st) (defScope st) dV kV doc pm an cdv ct ∧ K.lookup f = some { cls := oc, dict := od, data := .func fd, slots := osl } ∧ PySem.W.codeIn K cdv qual = true
inductive OutF where
  | ok (s : Slot) (μ : Mem)
  | exc (x : Exc) (μ : Mem)
  | bad
abbrev MF := List D → Mem → OutF
section
variable (K : PySem.W.Frag) (mg : Str → Option Value)
def FinF (Z F : Hp) (ρ : List Addr) (Q : VK) (E : XK) : OutF → Prop
  | .ok s μ => ∀ v H' F' ρ', Le Z F F' → LeR Z ρ ρ' → Sim K mg Z F' ρ' μ [] [] H' → SlotR K mg Z F' ρ' H' v s → Q v H'
  | .exc x μ => ∀ c d H' F' ρ', Le Z F F' → LeR Z ρ ρ' → Sim K mg Z F' ρ' μ [] [] H' → ExcR K mg F' ρ' c d x → E c d H'
  | .bad => False
def spM (m : MF) (n : Nat) : Sp := fun vs H Q E => vs.length = n ∧ ∃ Z F ρ μ ds, Sim K mg Z F ρ μ [] [] H ∧ RepL K mg F ρ vs ds ∧ FinF K mg Z F ρ Q E (m ds μ)
end
structure Cs (X : Cx) (W : WX) (k : Nat) (N : List Str) (sc : Scope) : Prop where
  calm : X.calm = true
  rm : RmG k X.A
  tk : Takes X W
  hN : X.N = N
  hsc : X.env.scope = sc
  nd : N.Nodup
structure Cd (X : Cx) (W : WX) (k : Nat) (N : List Str) (sc : Scope) : Prop extends Cs X W k N sc where
  hp : PassesOwn (model X.prog X.w) X.A X.env X.xe
  fn : ∀ x, L2.Loc X.env.scope x → X.fn x = true
section
variable {X : Cx} {W : WX} {k j : Nat} {N : List Str} {sc : Scope} {e : Expr} {es : List Expr} {pos p : Pos} {f : Addr} {fd : FuncData} {ps : List Str} {x : Str}
structure Fu (P : Program) (w : World) (K : PySem.W.Frag) (mg : Str → Option Value) (base : Heap) (k : Nat) (x : Str) (m : MF) (n : Nat) (dds : List D) : Prop where
  ex : ∃ (f : Addr) (fd : FuncData) (ps : List Str) (ds : List Value) (dvs : List V), FnG P w K mg base (L2.CX P w) k f fd ps (spM K mg m n) ∧ mg x = some (.ref f) ∧ PySem.W.keepIn K (.ref f) = true ∧ Binds K fd ps ds ∧ Vals dvs ds ∧ ∀ F ρ, RepL K mg F ρ dvs dds
abbrev FuX (X : Cx) (k : Nat) (x : Str) (m : MF) (n : Nat) (dds : List D) : Prop := Fu X.prog X.w X.K X.mg X.base k x m n dds
theorem run_callG {Y : CXT} {sp : Sp} {dvs : List V} {ds : List Value} {E : L2.St → XK} {pins : List (Addr × Obj)} {σ : L2.St} {H : Hp} {s : Shared} {Q : VK} {us : List Value} {vs : List V} (F : FnG X.prog X.w X.K X.mg X.base Y j f fd ps sp) (hr : RmG j X.A) (hb : Binds X.K fd ps ds) (hd : Vals dvs ds) (hx : PassesAt Y X σ (E σ))
    (I : Inv X pins σ H s) (r : Vals vs us) (h : sp (vs ++ dvs) H Q (E σ)) : wpAny (model X.prog X.w) X.A (call (.ref f) us) (EP X pins σ Q) X.xe s := by
  have r' : Vals (vs ++ dvs) (us ++ ds) := r.append hd
  have hlen : (us ++ ds).length = ps.length := by rw [← r'.length]; exact F.len _ _ _ _ h
  refine wpAny_call (codeAny_mono (F.run X.A X.stack s H ⟨us, []⟩ _ _ Q (E σ) hr I.env0 (hb s us I.kIn hlen) r' h) fun res s' hq => ?_)
  cases res with
  | error e => exact hx pins H s e s' I hq
  | ok fl =>
    cases fl with
    | ret u => exact I.after hq
    | next => exact False.elim hq
    | brk => exact False.elim hq
    | cont => exact False.elim hq
def glC (sc : Scope) (x : Str) : Bool := decide (sc.names.lookup x = some .globalImplicit) && !(x == ("__debug__" : Str)) && !decide (x = "__name__")
theorem Cs.gl (C : Cs X W k N sc) (h : glC sc x = true) : Gl X x ∧ (x == ("__debug__" : Str)) = false ∧ x ≠ "__name__" := by
  unfold glC at h
  simp only [Bool.and_eq_true, Bool.not_eq_true', decide_eq_true_eq, decide_eq_false_iff_not] at h
  refine ⟨?_, h.1.2, h.2⟩
  show X.env.scope.names.lookup x = _
  rw [C.hsc]; exact h.1.1
def varC (N : List Str) (sc : Scope) (i : Nat) (x : Str) : Bool := decide (N[i]? = some x) && (decide (sc.names.lookup x = some .local) || (decide (sc.names.lookup x = some .cell) || decide (sc.names.lookup x = some .free))) && !(x == ("__debug__" : Str)) && !(x == ("__classdict__" : Str))
theorem Cs.var {i : Nat} (C : Cs X W k N sc) (h : varC N sc i x = true) : PE X (.Name x p) (tVar i) := by
  unfold varC at h
  simp only [Bool.and_eq_true, Bool.not_eq_true', decide_eq_true_eq, Bool.or_eq_true] at h
  obtain ⟨⟨⟨h1, h2⟩, h3⟩, h4⟩ := h
  refine pe_var (by rw [C.hN]; exact h1) ?_ h3 h4
  show X.env.scope.names.lookup x = _ ∨ X.env.scope.names.lookup x = _ ∨ X.env.scope.names.lookup x = _
  rw [C.hsc]; exact h2
theorem Cs.v {i : Nat} (C : Cs X W k N sc) (h : varC N sc i x = true) : JE X W (.Name x p) (mV i) := je_v (C.var h)
def locC (N : List Str) (sc : Scope) (i : Nat) (x : Str) : Bool := decide (N[i]? = some x) && (decide (sc.names.lookup x = some .local) || decide (sc.names.lookup x = some .cell))
theorem Cd.loc {i : Nat} (C : Cd X W k N sc) (h : locC N sc i x = true) : X.N.Nodup ∧ X.N[i]? = some x ∧ L2.Loc X.env.scope x := by
  unfold locC at h
  simp only [Bool.and_eq_true, decide_eq_true_eq, Bool.or_eq_true] at h
  refine ⟨by rw [C.hN]; exact C.nd, by rw [C.hN]; exact h.1, ?_⟩
  show X.env.scope.names.lookup x = _ ∨ X.env.scope.names.lookup x = _
  rw [C.hsc]; exact h.2
theorem Cd.set {i : Nat} {m : ME} {pos' : Pos} (C : Cd X W k N sc) (h : locC N sc i x = true) (he : JE X W e m) (hs : swapsWith e (some (.Name x pos')) pos.line X.env = pure false := by rfl) : JS X W (.Assign [.Name x pos'] e pos) (mSet i m) :=
  let ⟨a, b, c⟩ := C.loc h
  js_set a b c he hs (.inl (C.fn x c))
theorem Cd.tg {i : Nat} (C : Cd X W k N sc) (h : locC N sc i x = true) : JG X (.Name x pos) (tgV i) [i] :=
  let ⟨a, b, c⟩ := C.loc h
  jg_v a b c (.inl (C.fn x c))
def ownC (N : List Str) (sc : Scope) (i : Nat) (x : Str) : Bool := decide (N[i]? = some x) && decide (sc.names.lookup x = some .local)
theorem Cs.own {i : Nat} (C : Cs X W k N sc) (h : ownC N sc i x = true) : X.N.Nodup ∧ X.N[i]? = some x ∧ X.env.scope.names.lookup x = some .local := by
  unfold ownC at h
  simp only [Bool.and_eq_true, decide_eq_true_eq] at h
  exact ⟨by rw [C.hN]; exact C.nd, by rw [C.hN]; exact h.1, by rw [C.hsc]; exact h.2⟩
theorem Cs.tg {i : Nat} (C : Cs X W k N sc) (h : ownC N sc i x = true) : JG X (.Name x pos) (tgV i) [i] :=
  let ⟨a, b, c⟩ := C.own h
  jg_v a b (.inl c) (.inr c)
theorem Cs.blk (C : Cs X W k N sc) (scope : Scope) (s : Shared) (H : Hp) (c : Addr) (cl : List (Str × Addr)) (fp : List Addr) : Cs (X.blk s H scope (compEnvC scope cl c X.env) fp) W0 k N (relS scope sc) :=
  ⟨C.calm, C.rm, fun _ _ ⟨_, _, _, _, _, _, _, _, _, _, _, _, _, _, _, _, z⟩ => z.elim, C.hN, by
    show relabel scope X.env = relS scope sc
    rw [← C.hsc]; rfl, C.nd⟩
theorem Cs.lc {elt tg iter : Expr} {ifs : List Expr} {scope : Scope} {mi : MM (List D)} {f : TgF} {is : List Nat} {tests : MT} {m : ME} {Tx : Program → World → PySem.W.Frag → (Str → Option Value) → Heap → Prop} (C : Cs X W k N sc) (T : Tx X.prog X.w X.K X.mg X.base) (own : List (Str × Nat)) (hi : JI X W tg iter mi) (ok : blkC N sc scope own = true)
    (hb : ∀ (Y : Cx), Tx Y.prog Y.w Y.K Y.mg Y.base → Cs Y W0 k N (relS scope sc) → JG Y tg f is ∧ JTs Y W0 ifs tests ∧ JE Y W0 elt m) (hsub : (is.all fun j => (own.map (·.2)).contains j) = true) (hs : ∀ x, foldedSetIterable iter X.env x = pure x := by intro _; rfl) :
    JE X W (.ListComp elt [⟨tg, iter, ifs, 0⟩] scope pos) (mLc mi f tests m (own.map (·.2))) :=
  je_lc C.calm (by rw [C.hN]; exact C.nd) hi (by rw [C.hN, C.hsc]; exact blkOk_by ok) (fun s H c cl fp => (hb (X.blk s H scope (compEnvC scope cl c X.env) fp) T (C.blk scope s H c cl fp)).1) (fun s H c cl fp => (hb (X.blk s H scope (compEnvC scope cl c X.env) fp) T (C.blk scope s H c cl fp)).2.1)
    (fun s H c cl fp => (hb (X.blk s H scope (compEnvC scope cl c X.env) fp) T (C.blk scope s H c cl fp)).2.2) (fun j hj => by simpa using List.all_eq_true.mp hsub j hj) hs
end
end FL
namespace FL
open PySem PySem.Spec PyProof.Rows L2
section
variable {X : Cx} {W : WX} {k j : Nat} {N : List Str} {sc : Scope} {a b c e o : Expr} {es : List Expr} {pos p apos : Pos} {x : Str} {oa ob : Opn}
theorem Cs.ty {T : String} (C : Cs X W k N sc) (h : glC sc x = true) (hm : X.mg x = none) (hv : bootBuiltins x = some (.type T)) : JE X W (.Name x pos) (mD (.ty T)) :=
  let ⟨g1, g2, g3⟩ := C.gl h
  je_ty g1 hm hv g3 g2
end
end FL
namespace FL
open PySem PySem.Spec PyProof.Rows L2
def clsDef (j : Nat) : Stmt → Stmt
  | .ClassDef _ _ _ body _ _ _ _ _ _ _ => body.getD j (.Pass ⟨0, 0, 0, 0⟩)
  | s => s
end FL
namespace FL
open PySem PySem.Spec PyProof.Rows L2 LamX
structure LmS (N : List Str) (sc scope : Scope) : Prop where
  kind : scope.kind = .function
  co : scope.isCoroutine = false
  gen : scope.isGenerator = false
  own : ∀ y ∈ scope.names, y.2 ≠ .cell ∧ (y.2 = .local → y.1 ∉ N)
  free : ∀ y ∈ scope.names, y.2 = .free → sc.names.lookup y.1 = some .cell ∨ sc.names.lookup y.1 = some .free
theorem LmS.has {N : List Str} {X : Cx} {scope : Scope} (L : LmS N X.env.scope scope) (ok : X.Ok) (y) (hy : y ∈ scope.names) (e : y.2 = .free) : ∃ c, X.env.cells.lookup y.1 = some c :=
  (L.free y hy e).elim (fun k => ok.has _ (Or.inl k)) fun k => ok.has _ (Or.inr k)
structure Cm (X : Cx) (W : WX) (k : Nat) (N : List Str) (sc : Scope) (q : Str) (P : Addr) : Prop extends Cd X W k N sc where
  tab : ∃ c, X.env.code = .ref c ∧ TabB X.base X.mg c P
  qual : X.env.qual ++ "<lambda>" = q
structure FdL (K : PySem.W.Frag) (x qual : Str) (st : Stmt) (f : Addr) (fd : FuncData) (dV : Value) (c : Addr) : Prop where
  ex : ∃ (oc : Value) (od : Option Addr) (kV doc pm : Value) (an : Option Addr) (ct : Value) (osl : Array (Option Value)),
    fd = PySem.W.fnOf x qual (defArgs st) (defBody st) (defScope st) dV kV doc pm an (.ref c) ct ∧ K.lookup f = some { cls := oc, dict := od, data := .func fd, slots := osl } ∧ PySem.W.codeIn K (.ref c) qual = true
theorem FdL.fd {K : PySem.W.Frag} {x qual : Str} {st : Stmt} {f : Addr} {fd : FuncData} {dV : Value} {c : Addr} (F : FdL K x qual st f fd dV c) : Fd K x qual st f fd dV :=
  let ⟨oc, od, kV, doc, pm, an, ct, osl, h1, h2, h3⟩ := F.ex
  ⟨oc, od, kV, doc, pm, an, .ref c, ct, osl, h1, h2, h3⟩
theorem Cm.body {X : Cx} {W : WX} {k kh : Nat} {N : List Str} {sc scope : Scope} {q : Str} {P : Addr} {Tx : Program → World → PySem.W.Frag → (Str → Option Value) → Heap → Prop} {body : Expr} {m : ME} (C : Cm X W k N sc q P) (T : Tx X.prog X.w X.K X.mg X.base)
    (h : ∀ (Y : Cx) (V : WX), Tx Y.prog Y.w Y.K Y.mg Y.base → Cs Y V kh N scope → JE Y V body m) :
    ∀ (Y : Cx) (V : WX), Y.prog = X.prog → Y.w = X.w → Y.K = X.K → Y.mg = X.mg → Y.base = X.base → Cs Y V kh N scope → JE Y V body m := fun Y V e1 e2 e3 e4 e5 c => h Y V (by rw [e1, e2, e3, e4, e5]; exact T) c
end FL
namespace FL
open PySem PySem.Spec PyProof.Rows L2 LamX
theorem Cs.cls {X : Cx} {W : WX} {k : Nat} {N : List Str} {sc : Scope} {x : String} {pos : Pos} (C : Cs X W k N sc) (h : glC sc (Str.ofString x) = true) (hm : ∃ D : Addr, X.mg (Str.ofString x) = some (.ref D)) : JE X W (.Name (Str.ofString x) pos) (mD (.glo x)) :=
  let ⟨g1, g2, g3⟩ := C.gl h
  let ⟨D, hm⟩ := hm
  je_glo g1 hm (v := .ref D) rfl g2
end FL
namespace FL
open PySem PySem.Spec PyProof.Rows L2
inductive Att where
  | fld | con (d : D) | no
structure CallD (X : Cx) (k : Nat) (a : Addr) (m : MF) (n : Nat) (dds : List D) : Prop where
  ex : ∃ dvs : List V, (∀ F ρ, RepL X.K X.mg F ρ dvs dds) ∧ (RmG k X.A → ∀ (pins : List (Addr × Obj)) (σ : L2.St) (H : Hp) (s : Shared) (us : List Value) (vs : List V) (Q : VK) (E : XK), PassesAt (L2.CX X.prog X.w) X σ E → Inv X pins σ H s → Vals vs us →
    spM X.K X.mg m n (vs ++ dvs) H Q E → wpAny (model X.prog X.w) X.A (call (.ref a) us) (EP X pins σ Q) X.xe s)
section
variable {X : Cx} {W : WX} {k j n : Nat} {N : List Str} {sc : Scope} {e : Expr} {es : List Expr} {pos p : Pos} {f C : Addr} {fd : FuncData} {ps : List Str} {ds : List Value} {dvs : List V} {dds : List D} {m : MF} {x : Str}
theorem CallD.fn (F : FnG X.prog X.w X.K X.mg X.base (L2.CX X.prog X.w) j f fd ps (spM X.K X.mg m n)) (hb : Binds X.K fd ps ds) (hd : Vals dvs ds) (hdd : ∀ F ρ, RepL X.K X.mg F ρ dvs dds) : CallD X j f m n dds :=
  ⟨dvs, hdd, fun hr pins σ H s us vs Q E hx I r h => run_callG (E := fun _ => E) F hr hb hd hx I r h⟩
theorem CallD.of (F : FuX X j x m n dds) : ∃ a, X.mg x = some (.ref a) ∧ PySem.W.keepIn X.K (.ref a) = true ∧ CallD X j a m n dds := by
  obtain ⟨f, fd, ps, ds, dvs, F, hm, hk, hb, hd, hdd⟩ := F.ex
  exact ⟨f, hm, hk, .fn F hb hd hdd⟩
end
end FL
namespace FL
open PySem PySem.Spec PyProof.Rows L2
inductive Sel where
  | pos (i : Nat) | key (i : Nat) | dfl (i : Nat)
def Sel.get {α : Type} (vs ds zs : List α) : Sel → Option α
  | .pos i => vs[i]?
  | .key i => zs[i]?
  | .dfl i => ds[i]?
def pickS {α : Type} (sel : List Sel) (vs ds zs : List α) : List α := sel.filterMap (Sel.get vs ds zs)
theorem vals_nth : ∀ {vs : List V} {us : List Value}, Vals vs us → ∀ i : Nat, (vs[i]? = none ∧ us[i]? = none) ∨ ∃ v u, vs[i]? = some v ∧ us[i]? = some u ∧ RelV v u
  | _, _, .nil, i => .inl ⟨rfl, rfl⟩
  | _, _, .cons h t, 0 => .inr ⟨_, _, rfl, rfl, h⟩
  | _, _, .cons h t, i + 1 => by simpa using vals_nth t i
theorem pickS_vals {vs dv zs : List V} {us dw ws : List Value} (h1 : Vals vs us) (h2 : Vals dv dw) (h3 : Vals zs ws) : ∀ sel : List Sel, Vals (pickS sel vs dv zs) (pickS sel us dw ws)
  | [] => .nil
  | a :: sel => by
    have ih := pickS_vals h1 h2 h3 sel
    have q : (a.get vs dv zs = none ∧ a.get us dw ws = none) ∨ ∃ v u, a.get vs dv zs = some v ∧ a.get us dw ws = some u ∧ RelV v u := by
      cases a with
      | pos i => exact vals_nth h1 i
      | key i => exact vals_nth h3 i
      | dfl i => exact vals_nth h2 i
    unfold pickS at ih ⊢
    rcases q with ⟨e1, e2⟩ | ⟨v, u, e1, e2, r⟩
    · rw [List.filterMap_cons_none e1, List.filterMap_cons_none e2]; exact ih
    · rw [List.filterMap_cons_some e1, List.filterMap_cons_some e2]; exact .cons r ih
def BindW (K : PySem.W.Frag) (fd : FuncData) (ps : List Str) (n : Nat) (ks : List Str) (sel : List Sel) (dw : List Value) : Prop :=
  ∀ (s : Shared) (us ws : List Value), K.In s.heap → us.length = n → ws.length = ks.length → BindsTo s fd ⟨us, ks.zip ws⟩ (ps.zip (pickS sel us dw ws))
structure CallW (X : Cx) (k : Nat) (a : Addr) (n : Nat) (ks : List Str) (sel : List Sel) (m : MF) (N : Nat) (dds : List D) : Prop where
  kp : PySem.W.keepIn X.K (.ref a) = true
  len : ∀ {α : Type} (vs ds zs : List α), vs.length = n → ds.length = dds.length → zs.length = ks.length → (pickS sel vs ds zs).length = N
  ex : ∃ dvs : List V, (∀ F ρ, RepL X.K X.mg F ρ dvs dds) ∧ (RmG k X.A → ∀ (pins : List (Addr × Obj)) (σ : L2.St) (H : Hp) (s : Shared) (us ws : List Value) (vs zs : List V) (Q : VK) (E : XK), PassesAt (L2.CX X.prog X.w) X σ E → Inv X pins σ H s → Vals vs us → Vals zs ws → vs.length = n → zs.length = ks.length →
    spM X.K X.mg m N (pickS sel vs dvs zs) H Q E → wpAny (model X.prog X.w) X.A (call (.ref a) us (ks.zip ws)) (EP X pins σ Q) X.xe s)
section
variable {X : Cx} {W : WX} {k j n N : Nat} {e : Expr} {es : List Expr} {kws : List Keyword} {pos p : Pos} {f C a : Addr} {fd : FuncData} {ps ks : List Str} {ds : List Value} {dvs : List V} {dds : List D} {m mi : MF} {x : Str} {c : String} {sel : List Sel}
theorem run_callW {pins : List (Addr × Obj)} {σ : L2.St} {H : Hp} {s : Shared} {Q : VK} {E : XK} {us ws : List Value} {vs zs : List V} {sp : Sp} (F : FnG X.prog X.w X.K X.mg X.base (L2.CX X.prog X.w) j f fd ps sp) (hr : RmG j X.A) (hb : BindW X.K fd ps n ks sel ds) (hd : Vals dvs ds)
    (hx : PassesAt (L2.CX X.prog X.w) X σ E) (I : Inv X pins σ H s) (r : Vals vs us) (rz : Vals zs ws) (l1 : vs.length = n) (l2 : zs.length = ks.length) (h : sp (pickS sel vs dvs zs) H Q E) :
    wpAny (model X.prog X.w) X.A (call (.ref f) us (ks.zip ws)) (EP X pins σ Q) X.xe s := by
  refine wpAny_call (codeAny_mono (F.run X.A X.stack s H ⟨us, ks.zip ws⟩ _ _ Q E hr I.env0 (hb s us ws I.kIn (by rw [← r.length, l1]) (by rw [← rz.length, l2])) (pickS_vals r hd rz sel) h) fun res t ht => ?_)
  match res, ht with
  | .error er, ht => exact hx pins H s er t I ht
  | .ok (.ret u), ht => exact I.after ht
theorem CallW.fn (F : FnG X.prog X.w X.K X.mg X.base (L2.CX X.prog X.w) j f fd ps (spM X.K X.mg m N)) (hk : PySem.W.keepIn X.K (.ref f) = true) (hb : BindW X.K fd ps n ks sel ds) (hd : Vals dvs ds) (hdd : ∀ F ρ, RepL X.K X.mg F ρ dvs dds)
    (len : ∀ {α : Type} (vs ds zs : List α), vs.length = n → ds.length = dds.length → zs.length = ks.length → (pickS sel vs ds zs).length = N) : CallW X j f n ks sel m N dds :=
  ⟨hk, len, dvs, hdd, fun hr pins σ H s us ws vs zs Q E hx I r rz l1 l2 h => run_callW F hr hb hd hx I r rz l1 l2 h⟩
end
end FL
namespace FL
open PySem PySem.Spec PyProof.Rows L2
section
variable {X : Cx} {W : WX} {k j n N : Nat} {e o : Expr} {es : List Expr} {kws : List Keyword} {pos p apos : Pos} {C g a dx q : Addr} {fd : FuncData} {ps : List Str} {fs : List (Str × V)} {f : Str} {sp : Sp} {nm : Str}
def PropG (X : Cx) (j : Nat) (c f : String) (m : MF) : Prop :=
  ∀ C, X.mg (Str.ofString c) = some (.ref C) → Cls X.K C ∧ ∃ (p g : Addr) (fd : FuncData) (nm : Str), PropOf X.K C (Str.ofString f) p g ∧ FnG X.prog X.w X.K X.mg X.base (L2.CX X.prog X.w) j g fd [nm] (spM X.K X.mg m 1) ∧ Binds X.K fd [nm] []
def PropsOk (X : Cx) (j : Nat) (pt : String → String → Option MF) : Prop := ∀ c f m, pt c f = some m → PropG X j c f m
def MethG (X : Cx) (j : Nat) (c f : String) (n : Nat) (m : MF) : Prop :=
  ∀ C, X.mg (Str.ofString c) = some (.ref C) → Cls X.K C ∧ ∃ (g : Addr) (fd : FuncData) (ps : List Str) (ds : List Value) (dvs : List V) (dds : List D) (m' : MF) (N : Nat), Meth X.K C (Str.ofString f) g ∧ FnG X.prog X.w X.K X.mg X.base (L2.CX X.prog X.w) j g fd ps (spM X.K X.mg m' N) ∧ Binds X.K fd ps ds ∧ Vals dvs ds ∧
    (∀ F ρ, RepL X.K X.mg F ρ dvs dds) ∧ n + 1 + dds.length = N ∧ ∀ ds' μ, m ds' μ = m' (ds' ++ dds) μ
def MethsOk (X : Cx) (j : Nat) (mt : String → String → Nat → Option MF) : Prop := ∀ c f n m, mt c f n = some m → MethG X j c f n m
end
end FL
namespace FL
open PySem PySem.Spec PyProof.Rows L2
abbrev clsE (qual : Str) (scope : Scope) (L f : Addr) (cd : Value) (cc : Addr) : Env := PySem.W.ksEnv qual scope L f cd cc
structure FdC (K : PySem.W.Frag) (x qual : Str) (st : Stmt) (f : Addr) (fd : FuncData) (dV : Value) (cda cc D : Addr) : Prop where
  ex : ∃ (oc : Value) (od : Option Addr) (kV doc pm : Value) (an : Option Addr) (ct : Value) (osl : Array (Option Value)),
    fd = PySem.W.ksFn x qual (defArgs st) (defBody st) (defScope st) dV kV doc pm an (.ref cda) ct cc ∧ K.lookup f = some { cls := oc, dict := od, data := .func fd, slots := osl }
  cd : PySem.W.codeIn K (.ref cda) qual = true
  cell : ∃ cl cld csl, K.lookup cc = some { cls := cl, dict := cld, data := .cell (some (.ref D)), slots := csl }
structure CsK (X : Cx) (f cda cc D : Addr) (st : Stmt) : Prop where
  fd : ∃ fd x qual dV, FdC X.K x qual st f fd dV cda cc D ∧ X.env = clsE qual (defScope st) X.env.locals f (.ref cda) cc
end FL
namespace FL
open PySem PySem.Spec PyProof.Rows L2
structure SupT (X : Cx) (f cda cc D : Addr) (p0 : Str) : Prop where
  lk : ∃ o fd ar, X.K.lookup f = some o ∧ o.data = .func fd ∧ (fd.params.posonlyargs ++ fd.params.args).head? = some ar ∧ ar.arg = p0
  code : ∃ ccl cdd vs ccs file tf, X.K.lookup cda = some { cls := ccl, dict := cdd, data := .fields vs, slots := ccs } ∧ vs[2]? = some (.str file tf) ∧ ((X.prog.main.file : Str) == file) = true
  cell : ∃ cl cld csl, X.K.lookup cc = some { cls := cl, dict := cld, data := .cell (some (.ref D)), slots := csl }
  clsD : ∃ cdD, PySem.W.clsIn X.K D = some cdD
  any : PySem.W.nsIn X.K cStatics "thirdparty.any" = some none
  top : (X.prog.main.scope.names.lookup ("super" : Str)).isSome = false
  sup : X.mg "super" = none
  ls : X.env.scope.names.lookup ("super" : Str) = some .globalImplicit
  lc : X.env.scope.names.lookup ("__class__" : Str) = some .free
  l0 : X.env.scope.names.lookup p0 = some .local
  n0 : X.N[0]? = some p0
  func : X.env.func = some f
  ecode : X.env.code = .ref cda
  cells : X.env.cells.lookup ("__class__" : Str) = some cc
def SupG (X : Cx) (j : Nat) (c f : String) (D : Addr) (mi : MF) (N : Nat) : Prop :=
  ∀ C, X.mg (Str.ofString c) = some (.ref C) → ∃ (g : Addr) (og : Obj) (fd : FuncData) (ps : List Str) (ds : List Value) (dvs : List V) (cdC : ClassData), PySem.W.clsIn X.K C = some cdC ∧ PySem.W.alongIn X.K (Str.ofString f) ((cdC.mro.dropWhile (· != .ref D)).drop 1) = some (some (.ref g)) ∧
    X.K.lookup g = some og ∧ og.cls = .type "function" ∧ PySem.W.fnIn X.K g = true ∧ PySem.W.mroIn X.K C (.ref D) = some true ∧ FnG X.prog X.w X.K X.mg X.base (L2.CX X.prog X.w) j g fd ps (spM X.K X.mg mi N) ∧ Binds X.K fd ps []
end FL
namespace FL
open PySem PySem.Spec PyProof.Rows L2 LamX
abbrev oTab : Obj := { cls := .none, data := .fields #[] }
end FL
namespace FL
open PySem PySem.Spec PyProof.Rows L2 LamX
structure Dsc where
  p : Str × Option Str
  x : Str
  qual : Str
  st : Stmt
  clo : List Str
  /-- it has no positional defaults -/
  nd : Bool := true
def fAdF (K : PySem.W.Frag) (p : Str × Option Str) : Addr := match PySem.W.recIn K (He.fAd K p) "property" with
  | some (.ref g :: _) => g
  | _ => (match PySem.W.recIn K (He.fAd K p) "staticmethod" with
    | some (.ref g :: _) => g
    | _ => He.fAd K p)
abbrev FnS : Type := Option (Str × Str × Arguments × FuncBody × Scope × Addr × List Str × Addr)
def fnS (K : PySem.W.Frag) (p : Str × Option Str) : FnS := match K.lookup (fAdF K p) with
  | some ⟨_, _, .func fd, _⟩ => some (fd.name, fd.qualname, fd.params, fd.body, fd.scope, fd.globals, fd.closure.map (·.1), fd.builtins)
  | _ => none
def Dsc.val (d : Dsc) : FnS := some (d.x, d.qual, defArgs d.st, .stmts (defBody d.st), defScope d.st, mainGlobals, d.clo, builtinsNs)
def Dsc.ok (K : PySem.W.Frag) (d : Dsc) : Bool := match K.lookup (fAdF K d.p) with
  | some ⟨_, _, .func fd, _⟩ => PySem.W.codeIn K fd.code d.qual && (!d.nd || decide (fd.defaults = .none))
  | _ => false
def refsF (o : Obj) : List Addr := He.refsO o ++ match o.data with
  | .func fd => fd.closure.map (·.2) ++ He.refV fd.kwdefaults
  | .cell (some v) => He.refV v
  | _ => []
def ddF (p : Nat × List Addr) : List Addr → Nat × List Addr
  | [] => p
  | a :: as => ddF (bif Nat.beq (Nat.mod (Nat.shiftRight p.1 a) 2) 1 then p else (Nat.lor p.1 (Nat.shiftLeft 1 a), a :: p.2)) as
def growF (g : Addr → Option Obj) : Nat → Nat → List Addr → List Addr
  | 0, _, new => new
  | n + 1, seen, new => (fun p : Nat × List Addr => new ++ growF g n p.1 p.2.reverse) (ddF (seen, []) (new.flatMap fun a => match g a with
    | some o => refsF o
    | none => []))
def asF (g : Addr → Option Obj) (n : Nat) : List Addr := (fun p : Nat × List Addr => growF g n p.1 p.2.reverse) (ddF (Nat.shiftLeft 1 cStatics, []) [mainGlobals]) ++ [cStatics]
def keepO (o : Obj) : Bool := match o.cls, o.data with
  | .none, .fields _ => false
  | _, _ => true
def frF (g : Addr → Option Obj) (n : Nat) : PySem.W.Frag := He.frG g ((asF g n).filter fun a => match g a with
  | some o => keepO o
  | none => false)
abbrev FnP : Type := Str × Option Str
def codeAd (K : PySem.W.Frag) (p : FnP) : Addr := match K.lookup (fAdF K p) with
  | some ⟨_, _, .func fd, _⟩ => (match fd.code with
    | .ref c => c
    | _ => 0)
  | _ => 0
def tabAd (K : PySem.W.Frag) (p : FnP) : Addr := match K.lookup (codeAd K p) with
  | some ⟨_, _, .fields vs, _⟩ => (match (vs[11]? : Option Value) with
    | some (Value.ref P) => P
    | _ => 0)
  | _ => 0
abbrev Mks : Type := List (FnP × Str)
def tabOk (K : PySem.W.Frag) (ts : Mks) : Bool := (ts.all fun t => PySem.W.codeHdIn K (codeAd K t.1) (tabAd K t.1) && (K.lookup (tabAd K t.1)).isNone) && decide (ts.map fun t => tabAd K t.1).Nodup
abbrev HkA : Type := Bool × List FnS × List (Option Obj)
def hkObs (fs : List (PySem.W.Frag → Bool)) (ds : List Dsc) (ts : Mks) (g : Addr → Option Obj) (K : PySem.W.Frag) : HkA := (((fs.all fun f => f K) && ds.all fun d => d.ok K) && tabOk K ts, ds.map (fun d => fnS K d.p), ts.map fun t => g (tabAd K t.1))
def hkVal (ds : List Dsc) (ts : Mks) : HkA := (true, ds.map Dsc.val, ts.map fun _ => some oTab)
structure HkSays (fs : List (PySem.W.Frag → Bool)) (ds : List Dsc) (ts : Mks) (K : PySem.W.Frag) : Prop where
  t : (((fs.all fun f => f K) && ds.all fun d => d.ok K) && tabOk K ts) = true
  d : (ds.map fun d => fnS K d.p) = ds.map Dsc.val
def hkG (n : Nat) (fs : List (PySem.W.Frag → Bool)) (ds : List Dsc) (ts : Mks) (g : Addr → Option Obj) : HkA := hkObs fs ds ts g (frF g n)
theorem frF_in {n : Nat} {h : Heap} : (frF h.get? n).In h := fun _ _ e => He.frG_at _ e
def hookF (n : Nat) (fs : List (PySem.W.Frag → Bool)) (ds : List Dsc) (ts : Mks) : PySem.W.Hook where
  α := HkA
  obs := fun s => hkG n fs ds ts s.heap.get?
  val := fun _ => hkVal ds ts
  says := fun _ h => ∃ K : PySem.W.Frag, K.In h ∧ HkSays fs ds ts K ∧ ∀ t ∈ ts, h.get? (tabAd K t.1) = some oTab
  of := fun _ s e => ⟨_, frF_in, ⟨congrArg (fun z : HkA => z.1) e, congrArg (fun z : HkA => z.2.1) e⟩, fun t ht => by
    have z : (ts.map fun t => s.heap.get? (tabAd (frF s.heap.get? n) t.1)) = ts.map fun _ => some oTab := congrArg (fun z : HkA => z.2.2) e
    exact List.map_inj_left.mp z t ht⟩
  keeps := fun _ _ _ ⟨K, hK, c, x⟩ k => ⟨K, PySem.W.Frag.In.keeps hK k, c, fun t ht => k _ _ (x t ht)⟩
section
variable {fs : List (PySem.W.Frag → Bool)} {ds : List Dsc} {ts : Mks} {K : PySem.W.Frag}
theorem HkSays.both (c : HkSays fs ds ts K) : (fs.all fun f => f K) = true ∧ (ds.all fun d => d.ok K) = true := Bool.and_eq_true_iff.mp (Bool.and_eq_true_iff.mp c.t).1
theorem HkSays.fn0 (c : HkSays fs ds ts K) (i : Nat) {d : Dsc} (h : ds[i]? = some d) : ∃ oc od osl dV kV doc pm an cdv ct clo, clo.map (·.1) = d.clo ∧ K.lookup (fAdF K d.p) = some ⟨oc, od, .func (PySem.W.fnX d.x d.qual (defArgs d.st) (defBody d.st) (defScope d.st) clo dV kV doc pm an cdv ct), osl⟩ ∧ PySem.W.codeIn K cdv d.qual = true ∧ (d.nd = true → dV = .none) := by
  have e : (ds.map fun d => fnS K d.p)[i]? = (ds.map Dsc.val)[i]? := by rw [c.d]
  rw [List.getElem?_map, List.getElem?_map, h] at e
  have e : fnS K d.p = d.val := Option.some.inj e
  have k : d.ok K = true := List.all_eq_true.mp c.both.2 d (List.mem_of_getElem? h)
  unfold fnS at e
  unfold Dsc.ok at k
  cases q : K.lookup (fAdF K d.p) with
  | none => rw [q] at k; cases k
  | some o =>
    obtain ⟨oc, od, dt, osl⟩ := o
    rw [q] at k e
    cases dt with
    | func fd =>
      obtain ⟨n1, n2, n3, n4, n5, n6, n7, n8, n9, n10, n11, n12, n13, n14, n15⟩ := fd
      have e2 : (some (n1, n2, n3, n4, n5, n6, n7.map (·.1), n15) : FnS) = some (d.x, d.qual, defArgs d.st, .stmts (defBody d.st), defScope d.st, mainGlobals, d.clo, builtinsNs) := e
      simp only [Option.some.injEq, Prod.mk.injEq] at e2
      obtain ⟨h1, h2, h3, h4, h5, h6, h7, h8⟩ := e2
      obtain ⟨k1, k2⟩ := Bool.and_eq_true_iff.mp (show (PySem.W.codeIn K n13 d.qual && (!d.nd || decide (n8 = Value.none))) = true from k)
      subst h1 h2 h3 h4 h5 h6 h8
      refine ⟨oc, od, osl, n8, n9, n10, n11, n12, n13, n14, n7, h7, rfl, k1, fun hn => ?_⟩
      rw [hn] at k2
      exact of_decide_eq_true (by simpa using k2)
    | _ => cases k
theorem HkSays.fn (c : HkSays fs ds ts K) (i : Nat) {d : Dsc} (h : ds[i]? = some d) (hn : d.nd = true) : ∃ oc od osl kV doc pm an cdv ct clo, clo.map (·.1) = d.clo ∧ K.lookup (fAdF K d.p) = some ⟨oc, od, .func (PySem.W.fnX d.x d.qual (defArgs d.st) (defBody d.st) (defScope d.st) clo .none kV doc pm an cdv ct), osl⟩ ∧ PySem.W.codeIn K cdv d.qual = true := by
  obtain ⟨oc, od, osl, dV, kV, doc, pm, an, cdv, ct, clo, e1, e2, e3, e4⟩ := c.fn0 i h
  cases e4 hn
  exact ⟨oc, od, osl, kV, doc, pm, an, cdv, ct, clo, e1, e2, e3⟩
theorem HkSays.fd (c : HkSays fs ds ts K) (i : Nat) {d : Dsc} (h : ds[i]? = some d) (hc : d.clo = []) (hn : d.nd = true := by rfl) : ∃ fd, Fd K d.x d.qual d.st (fAdF K d.p) fd .none := by
  obtain ⟨oc, od, osl, kV, doc, pm, an, cdv, ct, clo, e1, e2, e3⟩ := c.fn i h hn
  rw [hc] at e1
  have e1 : clo = [] := List.map_eq_nil_iff.mp e1
  subst e1
  exact ⟨_, oc, od, kV, doc, pm, an, cdv, ct, osl, rfl, e2, e3⟩
end
end FL
namespace FL
open PySem PySem.Spec PyProof.Rows L2 LamX
def tFld (c f : Str) (K : PySem.W.Frag) : Bool := (He.Fa.cls c).ok K && (He.Fa.noat c f).ok K
def tCon (c f s : Str) (K : PySem.W.Frag) : Bool := (He.Fa.cls c).ok K && (match PySem.W.findIn K (.ref (He.ga K c)) f with
  | some (some (.str y t)) => decide (y = s) && (decide (PySem.W.specialIn K (.str y t) "__get__" = some none) && !PySem.W.copiedNames.contains f)
  | _ => false)
def tPrp (c f : Str) (K : PySem.W.Frag) : Bool := (He.Fa.cls c).ok K && (decide (PySem.W.findIn K (.ref (He.ga K c)) f = some (some (.ref (He.ma K (He.ga K c) f)))) && (decide (PySem.W.specialIn K (.ref (He.ma K (He.ga K c) f)) "__get__" = some (some (.builtin "property.__get__"))) &&
  (decide (PySem.W.takesIn K (.ref (He.ma K (He.ga K c) f)) = some true) && (match PySem.W.recIn K (He.ma K (He.ga K c) f) "property" with
    | some (.ref _ :: _) => true
    | _ => false))))
def tInit (c f : Str) (K : PySem.W.Frag) : Bool := decide (fAdF K (c, some f) = He.ma K (He.ga K c) f)
def strsB : List Value → List Str → Bool
  | [], [] => true
  | .str y _ :: vs, x :: xs => decide (y = x) && strsB vs xs
  | _, _ => false
def tTup (x : Str) (xs : List Str) (K : PySem.W.Frag) : Bool := match PySem.W.nsIn K mainGlobals x with
  | some (some (.ref a)) => (match K.lookup a with
    | some ⟨.type T, _, .seq its _, _⟩ => decide (T = "tuple") && (strsB its.toList xs && decide (xs.length ≤ 1000))
    | _ => false)
  | _ => false
def tSup (c D B f : Str) (K : PySem.W.Frag) : Bool := (match PySem.W.clsIn K (He.ga K c) with
  | some cd => decide (PySem.W.alongIn K f ((cd.mro.dropWhile (· != .ref (He.ga K D))).drop 1) = some (some (.ref (fAdF K (B, some f)))))
  | none => false) && ((match K.lookup (fAdF K (B, some f)) with
  | some ⟨.type T, _, _, _⟩ => decide (T = "function")
  | _ => false) && (PySem.W.fnIn K (fAdF K (B, some f)) && decide (PySem.W.mroIn K (He.ga K c) (.ref (He.ga K D)) = some true)))
abbrev pM (c m : String) : FnP := (Str.ofString c, some (Str.ofString m))
def ccAd (K : PySem.W.Frag) (p : FnP) : Addr := match K.lookup (fAdF K p) with
  | some ⟨_, _, .func fd, _⟩ => (match fd.closure with
    | [(_, c)] => c
    | _ => 0)
  | _ => 0
def tCell (c m file : Str) (K : PySem.W.Frag) : Bool := (match K.lookup (ccAd K (c, some m)) with
  | some ⟨_, _, .cell (some v), _⟩ => decide (v = .ref (He.ga K c))
  | _ => false) && ((match K.lookup (codeAd K (c, some m)) with
  | some ⟨_, _, .fields vs, _⟩ => (match (vs[2]? : Option Value) with
    | some (Value.str f _) => file == f
    | _ => false)
  | _ => false) && ((PySem.W.clsIn K (He.ga K c)).isSome && decide (PySem.W.nsIn K cStatics "thirdparty.any" = some none)))
def tFn (x : Str) (K : PySem.W.Frag) : Bool := (He.Fa.glo x).ok K && ((He.Fa.keep x).ok K && decide (fAdF K (x, none) = He.ga K x))
def tExc (c at_ : Str) (K : PySem.W.Frag) : Bool := (match K.lookup (He.ga K c) with
  | some ⟨.type T, _, .cls cd, sl⟩ => (match cd.mro, sl.toList with
    | .ref C' :: bm, [_, _, _, _, some (.builtin n), _] => decide (T = "type") && (C' == He.ga K c && (n == "ValueError.__new__" && (!cd.hasDel && (cd.hasDict && PySem.HandSPX.refsVE bm))))
    | _, _ => false)
  | _ => false) && (decide (PySem.W.findIn K (.ref (He.ga K c)) "__setattr__" = some (some (.builtin "object.__setattr__"))) && (decide (PySem.W.subIn K (.ref (He.ga K c)) (.type "BaseException") = some true) &&
  (decide (PySem.W.typeIn K (.ref (He.ga K c)) = some (.type "type")) && (PySem.W.keepIn K (.ref (He.ga K c)) && (decide (PySem.W.findIn K (.ref (He.ga K c)) "__init__" = some (some (.ref (fAdF K (c, some "__init__"))))) && (decide (PySem.W.typeIn K (.ref (fAdF K (c, some "__init__"))) = some (.type "function")) &&
  (decide (PySem.W.mroIn K (He.ga K c) (.ref (He.ga K c)) = some true) && (decide (PySem.W.ks_superIn K (He.ga K c) (He.ga K c) "__init__" = some (some (.builtin "ValueError.__init__"))) && (decide (PySem.W.subIn K (.ref (He.ga K c)) (.type "ValueError") = some true) &&
  decide (PySem.W.findIn K (.ref (He.ga K c)) at_ = some none))))))))))
abbrev AttTb : Type := List (String × String × Option String)
def attV : Option String → Att
  | none => .fld
  | some s => .con (.str (lit s))
def attT : AttTb → String → String → Att
  | [], _, _ => .no
  | (c', f', o) :: t, c, f => if c = c' ∧ f = f' then attV o else attT t c f
def tAtt1 (e : String × String × Option String) (K : PySem.W.Frag) : Bool := (He.Fa.glo (Str.ofString e.1)).ok K && match e.2.2 with
  | none => tFld (Str.ofString e.1) (Str.ofString e.2.1) K
  | some s => tCon (Str.ofString e.1) (Str.ofString e.2.1) (Str.ofString s) K
def tAtts (t : AttTb) (K : PySem.W.Frag) : Bool := t.all fun e => tAtt1 e K
abbrev PrpTb : Type := List (String × String × String)
def tPrp1 (e : String × String × String) (K : PySem.W.Frag) : Bool := (He.Fa.glo (Str.ofString e.1)).ok K && (tPrp (Str.ofString e.1) (Str.ofString e.2.1) K && decide (fAdF K (Str.ofString e.1, some (Str.ofString e.2.1)) = fAdF K (Str.ofString e.2.2, some (Str.ofString e.2.1))))
def tPrps (t : PrpTb) (K : PySem.W.Frag) : Bool := t.all fun e => tPrp1 e K
end FL
namespace FL
open PySem L2
def tMths (cs : List String) (b f : Str) (K : PySem.W.Frag) : Bool := PySem.W.isFn K (.ref (fAdF K (b, some f))) && (PySem.W.keepIn K (.ref (fAdF K (b, some f))) && cs.all fun c => (He.Fa.glo (Str.ofString c)).ok K && ((He.Fa.cls (Str.ofString c)).ok K &&
  decide (PySem.W.findIn K (.ref (He.ga K (Str.ofString c))) f = some (some (.ref (fAdF K (b, some f)))))))
end FL
namespace L35
open PySem PySem.Spec PyProof.Rows L2 FL LamX
abbrev tp (i : Nat) : Stmt := PySem.Challenge.pw_findlang_k35_segments.main.body.getD i (.Pass ⟨0, 0, 0, 0⟩)
def attl : AttTb := [("Index", "kept", none), ("Index", "pieces", none), ("Index", "schema", none), ("Segment", "added", none), ("Segment", "is_open", none), ("Entry", "field_words", none), ("Entry", "kept_document", none), ("Entry", "label", none)]
def at_ : String → String → Att := attT attl
def prps : PrpTb := [("Index", "size", "View"), ("Index", "segments", "Index")]
end L35
namespace FL
open PySem PySem.Spec PyProof.Rows L2
def tIdc (cs : List String) (K : PySem.W.Frag) : Bool := cs.all fun c => (He.Fa.glo (Str.ofString c)).ok K && (decide (PySem.W.mroIn K (He.ga K (Str.ofString c)) (.type "object") = some true) &&
  (decide (PySem.W.findIn K (.ref (He.ga K (Str.ofString c))) "__eq__" = some (some (.builtin "object.__eq__"))) && decide (PySem.W.subIn K (.ref (He.ga K (Str.ofString c))) (.type "NoneType") = some false)))
end FL
namespace L35
open PySem PySem.Spec PySem.W PySem.Calls PyProof.Rows FL
abbrev Rw : OpenRow := OpenLaw.row PySem.Challenge.rw_findlang_k35_segments
abbrev qv : Program := view Rw.prog [51]
def names : List PySem.Str := ((["_wall", "__name__", "Invalid", "BadKey", "BadSchema", "BadDocument", "Unfit", "NoDocument", "Excess", "TooMany", "MAX_TEXT", "MAX_WORD", "MAX_FIELDS", "MAX_DOCUMENTS", "MAX_NAME", "LETTERS", "WORD_SIGNS", "is_integer", "is_made_of", "is_text", "is_key", "is_field_name", "split_words", "Entry", "Segment", "live_entries", "segment_row", "FIELD_KINDS", "GREATEST", "is_field_row", "need_schema", "kind_of_field", "need_key", "is_value_for", "need_document", "View", "Reader", "Index", "_law_drawer", "_law_drawn"] : List String) ++ (["_law_drawn_of", "_law_segmented", "_law_segment_put", "_law_segment_flush"] : List String)).map PySem.Str.ofString
def ds : List Dsc := [⟨pM "BadDocument" "__init__", "__init__", "BadDocument.__init__", clsDef 0 (tp 5), ["__class__"], true⟩,
  ⟨pM "BadKey" "__init__", "__init__", "BadKey.__init__", clsDef 0 (tp 3), ["__class__"], true⟩,
  ⟨pM "BadSchema" "__init__", "__init__", "BadSchema.__init__", clsDef 0 (tp 4), ["__class__"], true⟩,
  ⟨pM "View" "__init__", "__init__", "View.__init__", clsDef 0 (tp 39), [], true⟩,
  ⟨pM "Index" "__init__", "__init__", "Index.__init__", clsDef 0 (tp 43), ["__class__"], true⟩,
  ⟨pM "Segment" "__init__", "__init__", "Segment.__init__", clsDef 0 (tp 27), [], true⟩,
  ⟨pM "Index" "flush", "flush", "Index.flush", clsDef 7 (tp 43), [], true⟩,
  ⟨pM "Index" "delete", "delete", "Index.delete", clsDef 3 (tp 43), [], true⟩,
  ⟨pM "Entry" "__init__", "__init__", "Entry.__init__", clsDef 0 (tp 26), [], true⟩,
  ⟨pM "Index" "put", "put", "Index.put", clsDef 2 (tp 43), [], true⟩,
  ⟨pM "View" "size", "size", "View.size", clsDef 1 (tp 39), [], true⟩,
  ⟨pM "Index" "segments", "segments", "Index.segments", clsDef 1 (tp 43), [], true⟩,
  ⟨("_law_drawer", none), "_law_drawer", "_law_drawer", tp 45, [], true⟩,
  ⟨("is_made_of", none), "is_made_of", "is_made_of", tp 19, [], true⟩,
  ⟨("is_field_name", none), "is_field_name", "is_field_name", tp 22, [], true⟩,
  ⟨("is_field_row", none), "is_field_row", "is_field_row", tp 33, [], true⟩,
  ⟨("need_schema", none), "need_schema", "need_schema", tp 34, [], true⟩,
  ⟨("_law_drawn", none), "_law_drawn", "_law_drawn", tp 46, [], true⟩,
  ⟨("_law_drawn_of", none), "_law_drawn_of", "_law_drawn_of", tp 47, [], true⟩,
  ⟨("_law_segment_flush", none), "_law_segment_flush", "_law_segment_flush", tp 50, [], true⟩,
  ⟨("is_key", none), "is_key", "is_key", tp 21, [], true⟩,
  ⟨("need_key", none), "need_key", "need_key", tp 36, [], true⟩,
  ⟨("is_text", none), "is_text", "is_text", tp 20, [], true⟩,
  ⟨("is_integer", none), "is_integer", "is_integer", tp 18, [], true⟩,
  ⟨("is_value_for", none), "is_value_for", "is_value_for", tp 37, [], true⟩,
  ⟨("kind_of_field", none), "kind_of_field", "kind_of_field", tp 35, [], true⟩,
  ⟨("need_document", none), "need_document", "need_document", tp 38, [], true⟩,
  ⟨("split_words", none), "split_words", "split_words", tp 24, [], true⟩,
  ⟨("_law_segment_put", none), "_law_segment_put", "_law_segment_put", tp 49, [], true⟩,
  ⟨("live_entries", none), "live_entries", "live_entries", tp 28, [], true⟩,
  ⟨("segment_row", none), "segment_row", "segment_row", tp 29, [], true⟩,
  ⟨("_law_segmented", none), "_law_segmented", "_law_segmented", tp 48, [], true⟩,
  ⟨("law", none), "law", "law", tp 51, [], true⟩]
def fs : List (PySem.W.Frag → Bool) := [fun K => (He.Fa.free "all").ok K,
  fun K => (He.Fa.free "bool").ok K,
  fun K => (He.Fa.free "dict").ok K,
  fun K => (He.Fa.free "int").ok K,
  fun K => (He.Fa.free "isinstance").ok K,
  fun K => (He.Fa.free "len").ok K,
  fun K => (He.Fa.free "max").ok K,
  fun K => (He.Fa.free "min").ok K,
  fun K => (He.Fa.free "range").ok K,
  fun K => (He.Fa.free "set").ok K,
  fun K => (He.Fa.free "str").ok K,
  fun K => (He.Fa.free "super").ok K,
  fun K => (He.Fa.free "tuple").ok K,
  fun K => (He.Fa.int "GREATEST" 1000000000).ok K,
  fun K => (He.Fa.str "LETTERS" "abcdefghijklmnopqrstuvwxyz").ok K,
  fun K => (He.Fa.int "MAX_DOCUMENTS" 500).ok K,
  fun K => (He.Fa.int "MAX_FIELDS" 6).ok K,
  fun K => (He.Fa.int "MAX_NAME" 12).ok K,
  fun K => (He.Fa.int "MAX_TEXT" 400).ok K,
  fun K => (He.Fa.int "MAX_WORD" 20).ok K,
  fun K => (He.Fa.str "WORD_SIGNS" "abcdefghijklmnopqrstuvwxyz0123456789").ok K,
  tTup "FIELD_KINDS" ([lit "text", lit "number"].map toS),
  fun K => (He.Fa.glo "BadDocument").ok K,
  tExc "BadDocument" "reason",
  tCell "BadDocument" "__init__" PySem.Challenge.pw_findlang_k35_segments.main.file,
  fun K => (He.Fa.glo "BadKey").ok K,
  tExc "BadKey" "reason",
  tCell "BadKey" "__init__" PySem.Challenge.pw_findlang_k35_segments.main.file,
  fun K => (He.Fa.glo "BadSchema").ok K,
  tExc "BadSchema" "reason",
  tCell "BadSchema" "__init__" PySem.Challenge.pw_findlang_k35_segments.main.file,
  fun K => (He.Fa.glo "Entry").ok K,
  fun K => (He.Fa.glo "Index").ok K,
  fun K => (He.Fa.glo "Segment").ok K,
  tAtts attl,
  tPrps prps,
  tInit "Index" "__init__",
  fun K => (He.Fa.mkr "Index").ok K,
  tInit "Segment" "__init__",
  fun K => (He.Fa.mkr "Segment").ok K,
  tInit "Entry" "__init__",
  fun K => (He.Fa.mkr "Entry").ok K,
  tCell "Index" "__init__" PySem.Challenge.pw_findlang_k35_segments.main.file,
  tSup "Index" "Index" "View" "__init__",
  tFn "_law_drawer",
  tFn "is_made_of",
  tFn "is_field_name",
  tFn "is_field_row",
  tFn "need_schema",
  tFn "_law_drawn",
  tFn "_law_drawn_of",
  tFn "_law_segment_flush",
  tFn "is_key",
  tFn "need_key",
  tFn "is_text",
  tFn "is_integer",
  tFn "is_value_for",
  tFn "kind_of_field",
  tFn "need_document",
  tFn "split_words",
  tFn "_law_segment_put",
  tFn "live_entries",
  tFn "segment_row",
  tFn "_law_segmented",
  tMths ["Index"] (Str.ofString "Index") (Str.ofString "flush"),
  tMths ["Index"] (Str.ofString "Index") (Str.ofString "delete"),
  tMths ["Index"] (Str.ofString "Index") (Str.ofString "put"),
  tIdc ["Entry"],
  tFn "law"]
def ts : Mks := []
abbrev hk : PySem.W.Hook := hookF 5 fs ds ts
def ob (s : PySem.W.SharedT) : HkA := hkG 5 fs ds ts (HandSHeadRun.getT s)
set_option maxHeartbeats 0 in
theorem run (w : World) : HandSHeadRun.RunEq Rw qv hk ob 30000 names w := by
  intro os
  kernel_rfl
end L35
namespace FL
open PySem PySem.Spec PyProof.Rows L2
def PropR (P : Program) (w : World) (K : PySem.W.Frag) (mg : Str → Option Value) (base : Heap) (j : Nat) (pt : String → String → Option MF) : Prop :=
  ∀ c f m, pt c f = some m → ∀ C, mg (Str.ofString c) = some (.ref C) → Cls K C ∧ ∃ (p g : Addr) (fd : FuncData) (nm : Str), PropOf K C (Str.ofString f) p g ∧ FnG P w K mg base (L2.CX P w) j g fd [nm] (spM K mg m 1) ∧ Binds K fd [nm] []
theorem PropR.ok {X : Cx} {j : Nat} {pt : String → String → Option MF} (h : PropR X.prog X.w X.K X.mg X.base j pt) : PropsOk X j pt := h
def MethR (P : Program) (w : World) (K : PySem.W.Frag) (mg : Str → Option Value) (base : Heap) (j : Nat) (mt : String → String → Nat → Option MF) : Prop :=
  ∀ c f n m, mt c f n = some m → ∀ C, mg (Str.ofString c) = some (.ref C) → Cls K C ∧ ∃ (g : Addr) (fd : FuncData) (ps : List Str) (ds : List Value) (dvs : List V) (dds : List D) (m' : MF) (N : Nat), Meth K C (Str.ofString f) g ∧ FnG P w K mg base (L2.CX P w) j g fd ps (spM K mg m' N) ∧ Binds K fd ps ds ∧ Vals dvs ds ∧
    (∀ F ρ, RepL K mg F ρ dvs dds) ∧ n + 1 + dds.length = N ∧ ∀ ds' μ, m ds' μ = m' (ds' ++ dds) μ
theorem MethR.ok {X : Cx} {j : Nat} {mt : String → String → Nat → Option MF} (h : MethR X.prog X.w X.K X.mg X.base j mt) : MethsOk X j mt := h
def SupR (P : Program) (w : World) (K : PySem.W.Frag) (mg : Str → Option Value) (base : Heap) (j : Nat) (c f : String) (D : Addr) (mi : MF) (N : Nat) : Prop :=
  ∀ C, mg (Str.ofString c) = some (.ref C) → ∃ (g : Addr) (og : Obj) (fd : FuncData) (ps : List Str) (ds : List Value) (dvs : List V) (cdC : ClassData), PySem.W.clsIn K C = some cdC ∧ PySem.W.alongIn K (Str.ofString f) ((cdC.mro.dropWhile (· != .ref D)).drop 1) = some (some (.ref g)) ∧
    K.lookup g = some og ∧ og.cls = .type "function" ∧ PySem.W.fnIn K g = true ∧ PySem.W.mroIn K C (.ref D) = some true ∧ FnG P w K mg base (L2.CX P w) j g fd ps (spM K mg mi N) ∧ Binds K fd ps []
theorem SupR.ok {X : Cx} {j : Nat} {c f : String} {D : Addr} {mi : MF} {N : Nat} (h : SupR X.prog X.w X.K X.mg X.base j c f D mi N) : SupG X j c f D mi N := h
structure SupP (P : Program) (K : PySem.W.Frag) (mg : Str → Option Value) (f cda cc D : Addr) (p0 : Str) (sc : Scope) (N : List Str) : Prop where
  lk : ∃ o fd ar, K.lookup f = some o ∧ o.data = .func fd ∧ (fd.params.posonlyargs ++ fd.params.args).head? = some ar ∧ ar.arg = p0
  code : ∃ ccl cdd vs ccs file tf, K.lookup cda = some { cls := ccl, dict := cdd, data := .fields vs, slots := ccs } ∧ vs[2]? = some (.str file tf) ∧ ((P.main.file : Str) == file) = true
  cell : ∃ cl cld csl, K.lookup cc = some { cls := cl, dict := cld, data := .cell (some (.ref D)), slots := csl }
  clsD : ∃ cdD, PySem.W.clsIn K D = some cdD
  any : PySem.W.nsIn K cStatics "thirdparty.any" = some none
  top : (P.main.scope.names.lookup ("super" : Str)).isSome = false
  sup : mg "super" = none
  ls : sc.names.lookup ("super" : Str) = some .globalImplicit
  lc : sc.names.lookup ("__class__" : Str) = some .free
  l0 : sc.names.lookup p0 = some .local
  n0 : N[0]? = some p0
theorem SupP.t {X : Cx} {W : WX} {k : Nat} {f cda cc D : Addr} {p0 : Str} {st : Stmt} {N : List Str} (h : SupP X.prog X.K X.mg f cda cc D p0 (defScope st) N) (C : Cd X W k N (defScope st)) (S : CsK X f cda cc D st) : SupT X f cda cc D p0 := by
  obtain ⟨fd, x, qual, dV, F, e⟩ := S.fd
  refine ⟨h.lk, h.code, h.cell, h.clsD, h.any, h.top, h.sup, by rw [C.hsc]; exact h.ls, by rw [C.hsc]; exact h.lc, by rw [C.hsc]; exact h.l0, by rw [C.hN]; exact h.n0, by rw [e], by rw [e], ?_⟩
  rw [e]
  show ([(("__class__" : Str), cc)] : List (Str × Addr)).lookup ("__class__" : Str) = some cc
  simp
end FL
namespace FL
open PySem PySem.Spec PyProof.Rows L2
def DK.d : DK → D
  | .i n => .int n
  | .s x => .str x
def getA (kds : List (DK × D)) (k : DK) : Option D := (kds.find? fun p => decide (p.1 = k)).map (·.2)
theorem DK.key_inj {k j : DK} (h : k.key = j.key) : k = j := by
  cases k <;> cases j <;> first | (cases h; done) | skip
  · have h' : (Sum.inl _ : Key) = Sum.inl _ := h
    cases h'
    rfl
  · have h' : (Sum.inr _ : Key) = Sum.inr _ := h
    rw [toS_inj (Sum.inr.inj h')]
section
variable (K : PySem.W.Frag) (mg : Str → Option Value) (F : Hp) (ρ : List Addr)
inductive KV : List (Key × V) → List (DK × D) → Prop where
  | nil : KV [] []
  | cons {k v d kvs kds} (h : Rep K mg F ρ v d) (t : KV kvs kds) : KV ((DK.key k, v) :: kvs) ((k, d) :: kds)
end
section
variable {K : PySem.W.Frag} {mg : Str → Option Value} {F F' : Hp} {ρ ρ' : List Addr} {H : Hp} {p : Addr}
theorem key_dec (k j : DK) : decide (DK.key k = DK.key j) = decide (k = j) := by
  by_cases h : k = j
  · rw [h, decide_eq_true rfl, decide_eq_true rfl]
  · rw [decide_eq_false h, decide_eq_false fun z => h (DK.key_inj z)]
theorem KV.get {k : DK} {d : D} : ∀ {kvs : List (Key × V)} {kds : List (DK × D)}, KV K mg F ρ kvs kds → getA kds k = some d → ∃ v, valV kvs k.key = some v ∧ Rep K mg F ρ v d
  | _, _, .nil, e => by cases e
  | _, _, @KV.cons _ _ _ _ k1 v1 d1 kvs kds h t, e => by
    unfold getA at e
    rw [List.find?_cons] at e
    unfold valV
    rw [List.find?_cons]
    simp only [key_dec]
    by_cases z : k1 = k
    · rw [decide_eq_true z] at e ⊢
      cases e
      exact ⟨v1, rfl, h⟩
    · rw [decide_eq_false z] at e ⊢
      exact KV.get t e
end
end FL
namespace FL
open PySem PySem.Spec PyProof.Rows L2
section
variable {X : Cx} {W : WX} {e : Expr} {pos : Pos}
theorem KV.at {K : PySem.W.Frag} {mg : Str → Option Value} {F : Hp} {ρ : List Addr} : ∀ {kvs : List (Key × V)} {kds : List (DK × D)} {i : Nat} {p : DK × D}, KV K mg F ρ kvs kds → kds[i]? = some p → ∃ v, kvs[i]? = some (p.1.key, v) ∧ Rep K mg F ρ v p.2
  | _, _, _, _, .nil, e => by simp at e
  | _, _, 0, _, .cons h t, e => by simp at e; subst e; exact ⟨_, rfl, h⟩
  | _, _, i + 1, _, .cons h t, e => by
    obtain ⟨v, h1, h2⟩ := KV.at (i := i) t (by simpa using e)
    exact ⟨v, by simpa using h1, h2⟩
end
end FL
namespace FL
open PySem L2
def Fr (j : Nat) (μ μ' : Mem) : Prop := μ'.length = μ.length ∧ ∀ k : Nat, k ≠ j → μ'[k]? = μ[k]?
theorem Fr.trans {j : Nat} {μ μ1 μ2 : Mem} (a : Fr j μ μ1) (b : Fr j μ1 μ2) : Fr j μ μ2 := ⟨b.1.trans a.1, fun k h => (b.2 k h).trans (a.2 k h)⟩
theorem Fr.set {j : Nat} {μ : Mem} {c : Own} : Fr j μ (μ.set j c) := ⟨by simp, fun k h => List.getElem?_set_ne (Ne.symm h)⟩
end FL
namespace FL
open PySem L2
abbrev piles (ts : List Str) : Nat := (ts.map fun t => t.length + 2).sum
theorem join_len : ∀ ts : List Str, (Str.join ", " ts).length ≤ piles ts
  | [] => by decide
  | [x] => by simp [Str.join, piles]
  | x :: y :: r => by
    have ih := join_len (y :: r)
    show (x ++ (", " : Str) ++ Str.join ", " (y :: r)).length ≤ _
    rw [strLen_append, strLen_append]
    have e : ((", " : Str)).length = 2 := by decide
    simp only [piles, List.map_cons, List.sum_cons] at ih ⊢
    omega
theorem tup_len (ts : List Str) : (tupleText ts).length ≤ 3 + piles ts := by
  unfold tupleText
  rw [strLen_append, strLen_append]
  have h1 := join_len ts
  have h2 : (("(" : Str)).length = 1 := by decide
  have h3 : (Str.ofString (if ts.length == 1 then ",)" else ")" : String)).length ≤ 2 := by split <;> decide
  have h3' : ((if ts.length == 1 then ",)" else ")" : String) : Str).length ≤ 2 := h3
  omega
theorem from_len : ∀ (ts : List Str) (k : Nat) (acc : Str), (textFrom k acc ts).length ≤ acc.length + piles ts
  | [], _, acc => by simp [textFrom, piles]
  | t :: ts, k, acc => by
    have ih := from_len ts (k + 1) (acc ++ (if k > 0 then ", " else "" : String) ++ t)
    rw [strLen_append, strLen_append] at ih
    have h : ((if k > 0 then ", " else "" : String) : Str).length ≤ 2 := by split <;> decide
    show (textFrom (k + 1) _ ts).length ≤ _
    simp only [piles, List.map_cons, List.sum_cons] at ih ⊢
    omega
theorem lst_len (ts : List Str) : (listText ts).length ≤ 2 + piles ts := by
  unfold listText
  rw [strLen_append]
  have h1 := from_len ts 0 "["
  have h2 : (("[" : Str)).length = 1 := by decide
  have h3 : (("]" : Str)).length = 1 := by decide
  omega
def Sh (d n : Nat) (x : D) : Prop := ∃ q, D.py x = some q ∧ PyData.showable q = true ∧ PyData.hasDict q = false ∧ PyData.canLay0 q = true ∧ q.depth ≤ d ∧ (PyData.shown q).length ≤ n
theorem Sh.all {d n : Nat} : ∀ {xs : List D}, (∀ x ∈ xs, Sh d n x) → ∃ qs, D.pys xs = some qs ∧ PyData.showableAll qs = true ∧ PyData.hasDictAll qs = false ∧ PyData.canLayAll0 qs = true ∧ PyData.depthAll qs ≤ d ∧ piles (PyData.shownAll qs) ≤ xs.length * (n + 2)
  | [], _ => ⟨[], by simp [D.pys, PyData.showableAll, PyData.hasDictAll, PyData.canLayAll0, PyData.depthAll, PyData.shownAll, piles]⟩
  | x :: xs, h => by
    obtain ⟨q, a1, b1, c1, l1, g1, k1⟩ := h x (List.mem_cons_self ..)
    obtain ⟨qs, a2, b2, c2, l2, g2, k2⟩ := Sh.all (xs := xs) fun y hy => h y (List.mem_cons_of_mem _ hy)
    refine ⟨q :: qs, by simp [D.pys, a1, a2], by simp [PyData.showableAll, b1, b2], by simp [PyData.hasDictAll, c1, c2], by simp [PyData.canLayAll0, l1, l2], by simp only [PyData.depthAll]; omega, ?_⟩
    simp only [PyData.shownAll, piles, List.map_cons, List.sum_cons, List.length_cons, Nat.add_mul] at k2 ⊢
    omega
theorem Sh.tup {d n : Nat} {xs : List D} (h : ∀ x ∈ xs, Sh d n x) : Sh (d + 1) (3 + xs.length * (n + 2)) (.tup xs) := by
  obtain ⟨qs, a, b, c, l, g, k⟩ := Sh.all h
  refine ⟨.tuple qs, by simp [D.py, a], by simpa [PyData.showable] using b, by simpa [PyData.hasDict] using c, by simpa [PyData.canLay0] using l, by simp only [PyData.depth]; omega, ?_⟩
  have := tup_len (PyData.shownAll qs)
  simp only [PyData.shown]
  omega
theorem Sh.lst {d n : Nat} {xs : List D} (h : ∀ x ∈ xs, Sh d n x) : Sh (d + 1) (2 + xs.length * (n + 2)) (.lst xs) := by
  obtain ⟨qs, a, b, c, l, g, k⟩ := Sh.all h
  refine ⟨.list qs, by simp [D.py, a], by simpa [PyData.showable] using b, by simpa [PyData.hasDict] using c, by simpa [PyData.canLay0] using l, by simp only [PyData.depth]; omega, ?_⟩
  have := lst_len (PyData.shownAll qs)
  simp only [PyData.shown]
  omega
theorem small_int : ∀ k : Fin 100, PyData.showable (.int (k.val : Nat)) = true ∧ (PyData.shown (.int (k.val : Nat))).length ≤ 2 := by decide +kernel
theorem Sh.int {i : Int} (h0 : 0 ≤ i) (h1 : i < 100) : Sh 0 2 (.int i) := by
  have := small_int ⟨i.toNat, by omega⟩
  have e : ((i.toNat : Nat) : Int) = i := by omega
  simp only [e] at this
  exact ⟨.int i, rfl, this.1, by simp [PyData.hasDict], by simp [PyData.canLay0], by simp [PyData.depth], this.2⟩
end FL
namespace FL
open PySem L2
section
variable {α β : Type} {a : α} {δ : FL.Loc} {μ : Mem} {x : Exc} {s : FL.Slot}
@[simp] theorem ev_b1 {f : α → FL.Loc → Mem → Out β} : (Out.ok a δ μ).bind f = f a δ μ := rfl
@[simp] theorem ev_b2 {f : α → FL.Loc → Mem → Out β} : (Out.exc x δ μ : Out α).bind f = .exc x δ μ := rfl
@[simp] theorem ev_t1 {f : α → FL.Loc → Mem → OutS} : (Out.ok a δ μ).thn f = f a δ μ := rfl
@[simp] theorem ev_t2 {f : α → FL.Loc → Mem → OutS} : (Out.exc x δ μ : Out α).thn f = .exc x δ μ := rfl
@[simp] theorem ev_s1 {k : MS} : (OutS.nx δ μ).seq k = k δ μ := rfl
@[simp] theorem ev_s2 {k : MS} : (OutS.rt s μ).seq k = .rt s μ := rfl
@[simp] theorem ev_s3 {k : MS} : (OutS.bk δ μ).seq k = .bk δ μ := rfl
@[simp] theorem ev_s4 {k : MS} : (OutS.ct δ μ).seq k = .ct δ μ := rfl
@[simp] theorem ev_s5 {k : MS} : (OutS.exc x δ μ).seq k = .exc x δ μ := rfl
@[simp] theorem ev_c1 : (Out.ok a δ μ).cut = .ok a δ μ := rfl
end
section
variable {δ : FL.Loc} {μ : Mem} {m n : ME} {t u : MT} {p q : MS} {o oa ob oc : Opn} {os : List Opn} {ms : List ME} {d : D} {ds dds : List D} {i j k : Nat} {f : TgF} {g : D → D → Option FL.Slot}
@[simp] theorem ev_e : (Opn.e m).ev δ μ = (m δ μ).bind fun s δ1 μ1 => .ok (.d s.d) δ1 μ1 := rfl
@[simp] theorem ev_v : (Opn.v i).ev δ μ = (match δ[i]? with | some (some _) => .ok (.i i) δ μ | _ => .bad) := rfl
@[simp] theorem ev_at1 {d : D} : (OR.d d).at δ μ = look μ d := rfl
@[simp] theorem ev_at2 : (OR.i i).at δ μ = (match δ[i]? with | some (some s) => look μ s.d | _ => none) := rfl
@[simp] theorem ev_lk1 : look μ (.obj k) = (μ[k]?).map Own.d := rfl
@[simp] theorem ev_lk2 {i : Int} : look μ (.int i) = some (.int i) := rfl
@[simp] theorem ev_lk3 {x : Tx} : look μ (.str x) = some (.str x) := rfl
@[simp] theorem ev_lk4 {b : Bool} : look μ (.bl b) = some (.bl b) := rfl
@[simp] theorem ev_lk5 : look μ .non = some .non := rfl
@[simp] theorem ev_lk6 {xs : List D} : look μ (.lst xs) = some (.lst xs) := rfl
@[simp] theorem ev_lk7 {xs : List D} : look μ (.tup xs) = some (.tup xs) := rfl
@[simp] theorem ev_lk8 {xs : List D} : look μ (.ro xs) = some (.ro xs) := rfl
@[simp] theorem ev_lkfx {b : FxM} {ks : List DK} {xs : List D} : look μ (.fx b ks xs) = some (.fx b ks xs) := rfl
@[simp] theorem ev_lk9 {ks : List DK} {xs : List D} : look μ (.dct ks xs) = some (.dct ks xs) := rfl
@[simp] theorem ev_lk10 {x : String} : look μ (.glo x) = some (.glo x) := rfl
@[simp] theorem ev_lk11 {x : String} : look μ (.ty x) = some (.ty x) := rfl
@[simp] theorem ev_lk12 {c a : String} {d : D} : look μ (.exn c a d) = some (.exn c a d) := rfl
@[simp] theorem ev_dfr : (FL.Slot.fr d).d = d := rfl
@[simp] theorem ev_down {o : Own} : (FL.Slot.own o).d = o.d := rfl
@[simp] theorem ev_owd {xs : List D} : (Own.lst xs).d = .lst xs := rfl
@[simp] theorem ev_owdd {ks : List DK} {xs : List D} : (Own.dct ks xs).d = .dct ks xs := rfl
@[simp] theorem ev_D : mD d δ μ = .ok (.fr d) δ μ := rfl
@[simp] theorem ev_V : mV i δ μ = (match δ[i]? with | some (some s) => .ok (.fr s.d) (δ.set i (some (.fr s.d))) μ | _ => .bad) := rfl
@[simp] theorem ev_Set : mSet i m δ μ = (m δ μ).thn fun s δ1 μ1 => .nx (δ1.set i (some s)) μ1 := rfl
@[simp] theorem ev_tgV : tgV i d δ = some (δ.set i (some (.fr d))) := rfl
@[simp] theorem ev_Lc {mi : MM (List D)} {vs : List Nat} : mLc mi f t m vs δ μ = (mi δ μ).bind fun ds δ1 μ1 => lcD f t m vs ds [] (wipeD δ1 vs) μ1 := rfl
@[simp] theorem ev_wp0 : wipeD δ [] = δ := rfl
@[simp] theorem ev_wp1 {vs : List Nat} : wipeD δ (i :: vs) = (wipeD δ vs).set i none := rfl
@[simp] theorem ev_lc0 {vs : List Nat} {acc : List D} : lcD f t m vs [] acc δ μ = .ok (.own (.lst acc)) δ μ := rfl
end
end FL
namespace FL
open PySem PySem.Spec PyProof.Rows L2
open PySem.Froz (SD sObj TxOk addTx tailTx is_str add_ok add_x)
def inD (D : SD) : List Str := D.1.toList.map fun e => strOf e.2
structure TxSet (P : Program) (w : World) (h : Heap) (a : Addr) (l : List Str) : Prop where
  ob : ∃ D : SD, h.get? a = some (sObj "set" D) ∧ TxOk P w D l ∧ (inD D).Perm l ∧ Ris D.2.2.place.toList ∧ (w.params.followText "set-order" = true ∨ D.2.2.led = true)
  nd : l.Nodup
  few : l.length < scanBound
theorem TxSet.at {P : Program} {w : World} {h h' : Heap} {a : Addr} {l : List Str} (R : TxSet P w h a l) (k : ∀ o, h.get? a = some o → h'.get? a = some o) : TxSet P w h' a l :=
  let ⟨⟨D, g, r⟩, nd, few⟩ := R
  ⟨⟨D, k _ g, r⟩, nd, few⟩
end FL
namespace FL
open PySem PySem.Spec PyProof.Rows L2
structure Cg (X : Cx) (W : WX) (k : Nat) (N : List Str) (sc : Scope) : Prop where
  rm : Room k X.A
  tk : Takes X W
  hN : X.N = N
  hsc : X.env.scope = sc
  nd : N.Nodup
  hp : PassesOwn (model X.prog X.w) X.A X.env X.xe
  fn : ∀ x, L2.Loc X.env.scope x → X.fn x = true
  hi : interactive X.env = false
end FL
namespace FL
open PySem PySem.Spec PyProof.Rows L2
section
variable {X : Cx} {W : WX} {k j : Nat} {N : List Str} {sc : Scope} {e o a b : Expr} {es : List Expr} {pos p apos pos' : Pos} {x : Str} {i : Nat}
theorem Cg.var (C : Cg X W k N sc) (h : varC N sc i x = true) : PE X (.Name x p) (tVar i) := by
  simp only [varC, Bool.and_eq_true, Bool.not_eq_true', decide_eq_true_eq, Bool.or_eq_true] at h
  obtain ⟨⟨⟨h1, h2⟩, h3⟩, h4⟩ := h
  have hv : Vis X.env.scope x := by
    rw [C.hsc]
    exact h2
  exact pe_var (C.hN.symm ▸ h1) hv h3 h4
theorem Cg.v (C : Cg X W k N sc) (h : varC N sc i x = true) : JE X W (.Name x p) (mV i) := je_v (C.var h)
theorem Cg.set {m : ME} (C : Cg X W k N sc) (h : locC N sc i x = true) (he : JE X W e m) (hs : swapsWith e (some (.Name x pos')) pos.line X.env = pure false := by rfl) : JS X W (.Assign [.Name x pos'] e pos) (mSet i m) := by
  simp only [locC, Bool.and_eq_true, decide_eq_true_eq, Bool.or_eq_true] at h
  have hl : L2.Loc X.env.scope x := by
    rw [C.hsc]
    exact h.2
  exact js_set (C.hN.symm ▸ C.nd) (C.hN.symm ▸ h.1) hl he hs (.inl (C.fn x hl))
end
end FL
namespace FL
open PySem
abbrev NF (fs : List Frame) : Prop := splitAtGen fs = none
def NG : GenState → Prop
  | .suspended _ _ _ _ fs _ => NF fs
  | _ => True
def stuck : Resume → Sem PySem.Fin := fun _ => .unsupported ""
def Poi (x y : GenState) : Prop := ∃ k l c p fs cl, x = .suspended stuck l c p fs cl ∧ y = .suspended k l c p fs cl
def Rel (a b : Array GenState) : Prop := a.size = b.size ∧ ∀ (i : Nat) x y, a[i]? = some x → b[i]? = some y → (x = y ∧ NG x) ∨ Poi x y
def Keep (a a' b b' : Array GenState) : Prop := ∀ (i : Nat) x y, a[i]? = some x → b[i]? = some y → Poi x y → a'[i]? = some x ∧ b'[i]? = some y
theorem Keep.trans {a a' a'' b b' b'' : Array GenState} (h : Keep a a' b b') (k : Keep a' a'' b' b'') : Keep a a'' b b'' := fun i x y h1 h2 p => by
  obtain ⟨k1, k2⟩ := h i x y h1 h2 p
  exact k i x y k1 k2 p
theorem Rel.set {a b : Array GenState} {g : Nat} {x : GenState} (h : Rel a b) (hx : NG x) : Rel (a.setIfInBounds g x) (b.setIfInBounds g x) := by
  refine ⟨by simp [h.1], fun i u v h1 h2 => ?_⟩
  rw [Array.getElem?_setIfInBounds] at h1 h2
  by_cases e : g = i
  · rw [if_pos e] at h1 h2
    split at h1
    · split at h2
      · injection h1 with h1
        injection h2 with h2
        exact .inl ⟨h1.symm.trans h2, by rw [← h1]; exact hx⟩
      · cases h2
    · cases h1
  · rw [if_neg e] at h1 h2
    exact h.2 i u v h1 h2
theorem Keep.set {a b : Array GenState} {g : Nat} {x : GenState} (h : ∀ u v, a[g]? = some u → b[g]? = some v → ¬ Poi u v) : Keep a (a.setIfInBounds g x) b (b.setIfInBounds g x) := fun i u v h1 h2 p => by
  have e : g ≠ i := fun e => h u v (e ▸ h1) (e ▸ h2) p
  rw [Array.getElem?_setIfInBounds, Array.getElem?_setIfInBounds, if_neg e, if_neg e]
  exact ⟨h1, h2⟩
end FL
namespace FL
open PySem L2
section
variable {α β : Type} {δ : FL.Loc} {μ : Mem} {o : Opn} {os : List Opn} {m : ME} {ms mks : List ME} {f c : String} {at_ : String → String → Att} {d : D} {ds vs dds : List D} {k : Nat} {ks : List String}
@[simp] theorem ec_pick0 {vs ds zs : List α} : pickS [] vs ds zs = [] := rfl
@[simp] theorem ec_pick1 {vs ds zs : List α} {a : Sel} {sel : List Sel} : pickS (a :: sel) vs ds zs = (match a.get vs ds zs with | some x => x :: pickS sel vs ds zs | none => pickS sel vs ds zs) := by
  unfold pickS
  cases h : a.get vs ds zs with
  | none => rw [List.filterMap_cons_none h]
  | some x => rw [List.filterMap_cons_some h]
@[simp] theorem ec_sel1 {vs ds zs : List α} {i : Nat} : (Sel.pos i).get vs ds zs = vs[i]? := rfl
@[simp] theorem ec_sel2 {vs ds zs : List α} {i : Nat} : (Sel.key i).get vs ds zs = zs[i]? := rfl
@[simp] theorem ec_sel3 {vs ds zs : List α} {i : Nat} : (Sel.dfl i).get vs ds zs = ds[i]? := rfl
@[simp] theorem ec_end0 {a b : Own} : (μ ++ [a, b])[μ.length]? = some a := by simp
@[simp] theorem ec_end1 {a b : Own} : (μ ++ [a, b])[μ.length + 1]? = some b := by simp
@[simp] theorem ec_set0 {a b e : Own} : (μ ++ [a, b]).set μ.length e = μ ++ [e, b] := by
  rw [List.set_append_right _ _ (Nat.le_refl _)]
  simp
end
end FL
namespace FL
section
variable {δ : FL.Loc} {μ : Mem} {m md mk mv ma mb : ME} {oo ob oc : Opn} {ms : List ME} {ml : MM (List D)} {cs : List String}
@[simp] theorem ev_lkfx' {b : FxM} {ks : List DK} {xs : List D} {μ : Mem} : look μ (.fx b ks xs) = some (.fx b ks xs) := rfl
end
end FL
set_option Elab.async false
set_option linter.all false
set_option maxRecDepth 100000
set_option maxHeartbeats 4000000
namespace FL
open PySem L2 LamX
theorem toS_len (x : Tx) : (toS x).length = x.length := by simp [toS, Str.length]
theorem toS_app (x y : Tx) : toS x ++ toS y = toS (x ++ y) := by
  show Str.append (toS x) (toS y) = _
  simp [toS, Str.append]
theorem ofS_lit (s : String) : Str.ofString s = toS (lit s) := Str.ofString_eq_toList s
section
variable {K : PySem.W.Frag} {mg : Str → Option Value} {Z F F' : Hp} {ρ ρ' : List Addr}
theorem RepL.take : ∀ {vs : List V} {ds : List D} (n : Nat), RepL K mg F ρ vs ds → RepL K mg F ρ (vs.take n) (ds.take n)
  | _, _, 0, _ => .nil
  | _, _, _ + 1, .nil => .nil
  | _, _, n + 1, .cons h t => .cons h (RepL.take n t)
theorem RepL.ofInts : ∀ (ns : List Int), RepL K mg F ρ (ns.map V.int) (ns.map D.int)
  | [] => .nil
  | _ :: ns => .cons .int (RepL.ofInts ns)
theorem RepL.ofStrs : ∀ (xs : List Tx), RepL K mg F ρ ((xs.map toS).map V.str) (xs.map D.str)
  | [] => .nil
  | _ :: ns => .cons .str (RepL.ofStrs ns)
theorem RepL.bls : ∀ {vs : List V} {xs : List Bool}, RepL K mg F ρ vs (xs.map D.bl) → vs = xs.map V.bl := by
  intro vs xs
  induction xs generalizing vs with
  | nil => intro h; cases h; rfl
  | cons n ns ih =>
    intro h
    rw [List.map_cons] at h
    cases h with
    | cons h t =>
      cases h
      rw [List.map_cons, ih t]
end
section
variable {K : PySem.W.Frag} {mg : Str → Option Value} {Z F F' : Hp} {ρ ρ' : List Addr} {μ : Mem} {δ : Loc} {σ : St} {H H' : Hp} {p : Addr} {o : HO} {v : V} {s : Slot}
theorem Sim.write {i : Nat} {c c' : Own} (S : Sim K mg Z F ρ μ δ σ H) (e : δ[i]? = some (some (.own c))) (ev : σ[i]? = some (some (.ref p))) (r : OwnR K mg F ρ (upd H p o) p c') :
    Sim K mg Z F ρ μ (δ.set i (some (.own c'))) σ (upd H p o) := by
  obtain ⟨v, ev', q, evq, fr, r0⟩ := S.slot i _ e
  rw [ev] at ev'; cases ev'; cases evq
  have hi : i < δ.length := (List.getElem?_eq_some_iff.mp e).1
  have same : σ.set i (some (.ref p)) = σ := by
    apply List.ext_getElem?
    intro j
    by_cases z : j = i
    · subst z; rw [List.getElem?_set_self (by rw [S.len]; exact hi), ev]
    · rw [List.getElem?_set_ne (Ne.symm z)]
  have S0 := S.forget (i := i) (x := some (.ref p))
  rw [same] at S0
  have no : ∀ (j : Nat) t, (δ.set i none)[j]? = some (some (.own t)) → σ[j]? ≠ some (some (.ref p)) := fun j t ej q => by
    have nj : j ≠ i := fun z => by
      subst z; rw [List.getElem?_set_self hi] at ej; cases ej
    rw [List.getElem?_set_ne (Ne.symm nj)] at ej
    exact nj (S.apart j i p t c ej e q ev)
  have S1 : Sim K mg Z F ρ μ (δ.set i none) σ (upd H p o) := S0.heap (fun a ne => upd_ne ne) fr.f fr.z fr.r no
  have S2 := S1.store (i := i) (v := .ref p) (s := .own c') ⟨⟨p, rfl, fr, r⟩, fun o' p' z1 z2 => by cases z2; exact fun j t ej => no j t ej⟩ (by simpa using hi)
  rw [same, List.set_set] at S2
  exact S2
theorem Sim.writeM {k : Nat} {c c' : Own} (S : Sim K mg Z F ρ μ δ σ H) (e : μ[k]? = some c) (ev : ρ[k]? = some p) (r : OwnR K mg F ρ (upd H p o) p c') :
    Sim K mg Z F ρ (μ.set k c') δ σ (upd H p o) := by
  obtain ⟨a, ea, f1, f2, r0⟩ := S.mem k c e
  rw [ev] at ea; cases ea
  have hm : p ∈ ρ := List.mem_of_getElem? ev
  have hk : k < μ.length := (List.getElem?_eq_some_iff.mp e).1
  refine ⟨fun a u h => ?_, fun a u h => ?_, S.len, fun i s h => ?_, S.apart, fun j x h => ?_, by simp [S.mlen], S.nod⟩
  · have ne : a ≠ p := fun z => by
      subst z
      rw [f1] at h; cases h
    have := S.le a u h
    rw [upd_ne ne]; exact this
  · have ne : a ≠ p := fun z => by subst z; rw [f2] at h; cases h
    rw [upd_ne ne]; exact S.zk a u h
  · obtain ⟨v, e1, r⟩ := S.slot i s h
    refine ⟨v, e1, ?_⟩
    cases s with
    | fr d => exact r
    | own c =>
      obtain ⟨q, eq, fr, r⟩ := r
      subst eq
      have ne : q ≠ p := fun z => by subst z; exact fr.r hm
      exact ⟨q, rfl, fr, r.up (fun _ _ h => h) (fun _ _ h => h) (upd_ne ne)⟩
  · by_cases z : j = k
    · subst z
      rw [List.getElem?_set_self hk] at h
      cases h
      exact ⟨p, ev, f1, f2, r⟩
    · rw [List.getElem?_set_ne (Ne.symm z)] at h
      obtain ⟨a, ea, g1, g2, r1⟩ := S.mem j x h
      have ne : a ≠ p := fun q => by
        subst q
        have h1 := (List.getElem?_eq_some_iff.mp ea).1
        exact z ((List.getElem?_inj h1 S.nod).mp (ea.trans ev.symm))
      exact ⟨a, ea, g1, g2, r1.up (fun _ _ h => h) (fun _ _ h => h) (upd_ne ne)⟩
theorem Sim.share {c : Own} (S : Sim K mg Z F ρ μ δ σ H) (h : VR K mg Z F ρ δ σ H v (.own c)) : ∃ p, v = .ref p ∧ LeR Z ρ (ρ ++ [p]) ∧ Sim K mg Z F (ρ ++ [p]) (μ ++ [c]) δ σ H ∧ Rep K mg F (ρ ++ [p]) v (.obj μ.length) := by
  obtain ⟨p, ev, fr, r⟩ := h.r
  subst ev
  have to : ∀ (k : Nat) a, ρ[k]? = some a → (ρ ++ [p])[k]? = some a := fun k a e => by
    rw [List.getElem?_append_left (List.getElem?_eq_some_iff.mp e).1]; exact e
  refine ⟨p, rfl, ⟨to, fun a ha => ?_⟩, ⟨S.le, S.zk, S.len, fun i s e => ?_, S.apart, fun k x e => ?_, by simp [S.mlen], ?_⟩, ?_⟩
  · rcases List.mem_append.mp ha with ha | ha
    · exact .inl ha
    · have : a = p := by simpa using ha
      subst this; exact .inr fr.z
  · obtain ⟨w, e1, r1⟩ := S.slot i s e
    refine ⟨w, e1, ?_⟩
    cases s with
    | fr d => exact Rep.up (fun _ _ h => h) to r1
    | own c1 =>
      obtain ⟨q, eq, fr1, r1⟩ := r1
      subst eq
      refine ⟨q, rfl, ⟨fr1.f, fr1.z, fun hm => ?_⟩, r1.up (fun _ _ h => h) to rfl⟩
      rcases List.mem_append.mp hm with hm | hm
      · exact fr1.r hm
      · have : q = p := by simpa using hm
        subst this
        exact h.no c q rfl rfl i c1 e e1
  · by_cases hk : k < μ.length
    · rw [List.getElem?_append_left hk] at e
      obtain ⟨a, ea, g1, g2, r1⟩ := S.mem k x e
      exact ⟨a, to k a ea, g1, g2, r1.up (fun _ _ h => h) to rfl⟩
    · rw [List.getElem?_append_right (by omega)] at e
      have hk2 : k = μ.length := by
        have := (List.getElem?_eq_some_iff.mp e).1
        simp at this
        omega
      subst hk2
      simp at e
      subst e
      refine ⟨p, ?_, fr.f, fr.z, r.up (fun _ _ h => h) to rfl⟩
      rw [← S.mlen]; simp
  · rw [List.nodup_append]
    refine ⟨S.nod, by simp, fun a ha b hb e => ?_⟩
    have : b = p := by simpa using hb
    subst this
    subst e
    exact fr.r ha
  · refine .obj ?_
    rw [← S.mlen]; simp
end
end FL
namespace FL
open PySem L2
theorem Out.bind_ok {α β : Type} {a : α} {δ : Loc} {μ : Mem} {f : α → Loc → Mem → Out β} : (Out.ok a δ μ).bind f = f a δ μ := rfl
def lift (o : Option Slot) : ME := fun δ μ => match o with
  | some s => .ok s δ μ
  | none => .bad
abbrev JT (X : Cx) (W : WX) (e : Expr) (m : MT) : Prop := PT X e (rdT X W m)
section
variable (K : PySem.W.Frag) (mg : Str → Option Value)
inductive BorL (F : Hp) (ρ : List Addr) (H : Hp) : List V → List D → Prop where
  | nil : BorL F ρ H [] []
  | cons {v d vs ds} (h : Bor K mg F ρ H v d) (t : BorL F ρ H vs ds) : BorL F ρ H (v :: vs) (d :: ds)
end
def OR.ats (δ : Loc) (μ : Mem) : List OR → Option (List D)
  | [] => some []
  | r :: rs => match r.at δ μ, OR.ats δ μ rs with
    | some x, some xs => some (x :: xs)
    | _, _ => none
section
variable {K : PySem.W.Frag} {mg : Str → Option Value} {Z F F' : Hp} {ρ ρ' : List Addr} {μ : Mem} {δ : Loc} {σ : St} {H H' : Hp} {v : V} {d : D}
theorem OrR.bor {r : OR} (S : Sim K mg Z F ρ μ δ σ H) (h : OrR K mg F ρ σ v r) (e : r.at δ μ = some d) : Bor K mg F ρ H v d := by
  cases r with
  | d d' => exact Rep.seen S h e
  | i i =>
    have h' : σ[i]? = some (some v) := h
    have e : (match δ[i]? with | some (some s) => look μ s.d | _ => none) = some d := e
    cases q : δ[i]? with
    | none => rw [q] at e; cases e
    | some o =>
      cases o with
      | none => rw [q] at e; cases e
      | some s =>
        rw [q] at e
        have e' : look μ s.d = some d := e
        obtain ⟨w, ew, r⟩ := S.slot i s q
        rw [h'] at ew
        cases ew
        cases s with
        | fr d => exact Rep.seen S r e'
        | own o =>
          obtain ⟨p, ep, _, r⟩ := r
          subst ep
          have e2 : look μ o.d = some o.d := by cases o <;> rfl
          have e3 : some d = some o.d := e'.symm.trans e2
          cases e3
          exact .own r
theorem OrRs.bor (S : Sim K mg Z F ρ μ δ σ H) : ∀ {vs : List V} {rs : List OR} {ds : List D}, OrRs K mg F ρ σ vs rs → OR.ats δ μ rs = some ds → BorL K mg F ρ H vs ds := by
  intro vs rs ds h
  induction h generalizing ds with
  | nil =>
    intro e
    have e' : some ([] : List D) = some ds := e
    cases e'
    exact .nil
  | @cons v r vs rs h t ih =>
    intro e
    unfold OR.ats at e
    cases q1 : r.at δ μ with
    | none => rw [q1] at e; cases e
    | some d =>
      cases q2 : OR.ats δ μ rs with
      | none => rw [q1, q2] at e; cases e
      | some dr =>
        rw [q1, q2] at e
        have e' : some (d :: dr) = some ds := e
        cases e'
        exact .cons (h.bor S q1) (ih q2)
theorem Bor.dcf (S : Sim K mg Z F ρ μ δ σ H) {ks : List DK} {ds : List D} (h : Bor K mg F ρ H v (.dcf ks ds)) : ∃ p o vs, v = .ref p ∧ F p = some (.frz o (.dK ((ks.map DK.key).zip vs))) ∧ H p = some (.frz o (.dK ((ks.map DK.key).zip vs))) ∧ ks.length = vs.length ∧ RepL K mg F ρ vs ds := by
  generalize e : D.dcf ks ds = d at h
  cases h with
  | fr h =>
    subst e
    cases h with
    | dcf h l r =>
      refine ⟨_, _, _, rfl, h, ?_, l, r⟩
      rcases S.le _ _ h with q | ⟨ob, kvs, e, q⟩
      · exact q
      · cases e
  | @own p o h => cases o <;> cases e
theorem Bor.rcT (S : Sim K mg Z F ρ μ δ σ H) {ds : List D} (h : Bor K mg F ρ H v (.rc ds)) : ∃ p vs, v = .ref p ∧ SqT K H p vs ∧ RepL K mg F ρ vs ds := by
  obtain ⟨p, o, vs, e, q, _, r⟩ := h.rc S
  exact ⟨p, vs, e, .inl (.inr ⟨o, q⟩), r⟩
end
section
variable (X : Cx) (W : WX)
def rdO (m : Opn) : TE := fun σ H Q => ∃ Z F ρ μ δ, Sim X.K X.mg Z F ρ μ δ σ H ∧
  FinE X W Z F ρ σ (fun r _ _ F' ρ' H' => ∀ v, OrR X.K X.mg F' ρ' σ v r → Q v H') (m.ev δ μ)
def evs : List Opn → MM (List OR)
  | [] => fun δ μ => .ok [] δ μ
  | o :: os => fun δ μ => (o.ev δ μ).bind fun r δ1 μ1 => (evs os δ1 μ1).bind fun rs δ2 μ2 => .ok (r :: rs) δ2 μ2
def rdOs (m : List Opn) : TA := fun σ H Q => ∃ Z F ρ μ δ, Sim X.K X.mg Z F ρ μ δ σ H ∧
  FinE X W Z F ρ σ (fun rs _ _ F' ρ' H' => ∀ vs, OrRs X.K X.mg F' ρ' σ vs rs → Q vs H') (evs m δ μ)
def evA : List ME → MM (List D)
  | [] => fun δ μ => .ok [] δ μ
  | m :: ms => fun δ μ => (m δ μ).bind fun s δ1 μ1 => (evA ms δ1 μ1).bind fun ds δ2 μ2 => .ok (s.d :: ds) δ2 μ2
def rdA (m : List ME) : TA := fun σ H Q => ∃ Z F ρ μ δ, Sim X.K X.mg Z F ρ μ δ σ H ∧
  FinE X W Z F ρ σ (fun ds _ _ F' ρ' H' => ∀ vs, RepL X.K X.mg F' ρ' vs ds → Q vs H') (evA m δ μ)
end
abbrev JO (X : Cx) (W : WX) (e : Expr) (m : Opn) : Prop := PE X e (rdO X W m)
abbrev JOs (X : Cx) (W : WX) (e : List Expr) (m : List Opn) : Prop := PA X e (rdOs X W m)
abbrev JA (X : Cx) (W : WX) (e : List Expr) (m : List ME) : Prop := PA X e (rdA X W m)
section
variable {X : Cx} {W : WX} {e a b : Expr} {es : List Expr} {pos : Pos}
theorem JE.locked {m : ME} (h : JE X W e m) : PE X e (fun σ H Q => ∃ Z F ρ μ δ, Sim X.K X.mg Z F ρ μ δ σ H ∧
    FinE X W Z F ρ σ (fun s δ' μ' F' ρ' H' => ∀ v, Rep X.K X.mg F' ρ' v s.d → Q v H') (m δ μ)) := by
  refine h.imp fun σ H Q ⟨Z, F, ρ, μ, δ, S, q⟩ => ⟨Z, F, ρ, μ, δ, S, ?_⟩
  cases r : m δ μ with
  | ok s δ' μ' =>
    rw [r] at q
    refine fun H' F' ρ' l lr S' v vr => ?_
    obtain ⟨F2, l2, S2, rep⟩ := S'.lock vr
    exact q H' F2 ρ' (l.trans l2) lr S2 v rep
  | exc x δ' μ' => rw [r] at q; exact q
  | bad => rw [r] at q; exact q
theorem jo_e {m : ME} (h : JE X W e m) : JO X W e (.e m) := by
  refine PE.imp h.locked fun σ H Q ⟨Z, F, ρ, μ, δ, S, q⟩ => ⟨Z, F, ρ, μ, δ, S, ?_⟩
  have q' : FinE X W Z F ρ σ (fun r _ _ F' ρ' H' => ∀ v, OrR X.K X.mg F' ρ' σ v r → Q v H') ((m δ μ).bind fun s δ1 μ1 => .ok (.d s.d) δ1 μ1) := q
  refine q'.bind.imp fun s δ' μ' H' F' ρ' l lr S' ⟨S2, l2, lr2, p⟩ v r => ?_
  exact p H' F' ρ' .refl .refl S2 v r
theorem jo_v {i : Nat} (h : PE X e (tVar i)) : JO X W e (.v i) := by
  refine h.imp fun σ H Q ⟨Z, F, ρ, μ, δ, S, q⟩ => ?_
  unfold Opn.ev at q
  cases e1 : δ[i]? with
  | none => simp only [e1] at q; exact q.elim
  | some o =>
    cases o with
    | none => simp only [e1] at q; exact q.elim
    | some s =>
      simp only [e1] at q
      obtain ⟨v, ev, _⟩ := S.slot i s e1
      exact ⟨v, ev, q H F ρ .refl .refl S v ev⟩
theorem jos_nil : JOs X W [] [] := pa_nil.imp fun σ H Q ⟨Z, F, ρ, μ, δ, S, q⟩ => q H F ρ .refl .refl S [] .nil
theorem jos_cons {o : Opn} {os : List Opn} (h : JO X W e o) (t : JOs X W es os) (hs : starEach (e :: es) X.env = (false, eval e X.env) :: starEach es X.env := by rfl) : JOs X W (e :: es) (o :: os) := by
  refine (pa_cons h t hs).imp fun σ H Q ⟨Z, F, ρ, μ, δ, S, q⟩ => ?_
  have q' : FinE X W Z F ρ σ (fun rs _ _ F' ρ' H' => ∀ vs, OrRs X.K X.mg F' ρ' σ vs rs → Q vs H') ((o.ev δ μ).bind fun r δ1 μ1 => (evs os δ1 μ1).bind fun rs δ2 μ2 => .ok (r :: rs) δ2 μ2) := q
  refine ⟨Z, F, ρ, μ, δ, S, q'.bind.imp fun r δ1 μ1 H1 F1 ρ1 l lr S1 ⟨_, _, _, p⟩ v hv => ?_⟩
  refine ⟨Z, F1, ρ1, μ1, δ1, S1, p.bind.imp fun rs δ2 μ2 H2 F2 ρ2 l2 lr2 S2 ⟨_, _, _, p2⟩ vs hvs => ?_⟩
  exact p2 H2 F2 ρ2 .refl .refl S2 (v :: vs) (.cons (hv.up l2 lr2) hvs)
theorem ja_nil : JA X W [] [] := pa_nil.imp fun σ H Q ⟨Z, F, ρ, μ, δ, S, q⟩ => q H F ρ .refl .refl S [] .nil
theorem ja_cons {m : ME} {ms : List ME} (h : JE X W e m) (t : JA X W es ms) (hs : starEach (e :: es) X.env = (false, eval e X.env) :: starEach es X.env := by rfl) : JA X W (e :: es) (m :: ms) := by
  refine (pa_cons h.locked t hs).imp fun σ H Q ⟨Z, F, ρ, μ, δ, S, q⟩ => ?_
  have q' : FinE X W Z F ρ σ (fun ds _ _ F' ρ' H' => ∀ vs, RepL X.K X.mg F' ρ' vs ds → Q vs H') ((m δ μ).bind fun s δ1 μ1 => (evA ms δ1 μ1).bind fun ds δ2 μ2 => .ok (s.d :: ds) δ2 μ2) := q
  refine ⟨Z, F, ρ, μ, δ, S, q'.bind.imp fun s δ1 μ1 H1 F1 ρ1 l lr S1 ⟨_, _, _, p⟩ v hv => ?_⟩
  refine ⟨Z, F1, ρ1, μ1, δ1, S1, p.bind.imp fun ds δ2 μ2 H2 F2 ρ2 l2 lr2 S2 ⟨_, _, _, p2⟩ vs hvs => ?_⟩
  exact p2 H2 F2 ρ2 .refl .refl S2 (v :: vs) (.cons (hv.up l2.to lr2.to) hvs)
theorem je_int {i j} : JE X W (.Constant (.int i) j pos) (mD (.int i)) := je_c pe_int fun _ _ => .int
theorem je_bl {b j} : JE X W (.Constant (.bool b) j pos) (mD (.bl b)) := je_c pe_bl fun _ _ => .bl
theorem je_non {j} : JE X W (.Constant .none j pos) (mD .non) := je_c pe_non fun _ _ => .non
theorem je_str {x j} : JE X W (.Constant (.str (Str.ofString x)) j pos) (mD (.str (lit x))) := je_c pe_str fun _ _ => by rw [ofS_lit]; exact .str
theorem je_mod {x : Str} {u : Value} {v : V} {d : D} {p : Pos} (hg : Gl X x) (hm : X.mg x = some u) (r : RelV v u) (hr : ∀ F ρ, Rep X.K X.mg F ρ v d) (hd : (x == ("__debug__" : Str)) = false := by decide +kernel) : JE X W (.Name x p) (mD d) :=
  je_c (pe_glob hg hm r hd) hr
def R2J (X : Cx) (r : R2) (g : D → D → Option Slot) : Prop := ∀ Z F ρ μ δ σ H x y dx dy s Q, Sim X.K X.mg Z F ρ μ δ σ H → Bor X.K X.mg F ρ H x dx → Bor X.K X.mg F ρ H y dy → g dx dy = some s →
  (∀ v H' F', Le Z F F' → Sim X.K X.mg Z F' ρ μ δ σ H' → VR X.K X.mg Z F' ρ δ σ H' v s → Q v H') → r x y H Q
def m2 (g : D → D → Option Slot) (oa ob : Opn) : ME := fun δ μ => (oa.ev δ μ).bind fun ra δ1 μ1 => (ob.ev δ1 μ1).bind fun rb δ2 μ2 =>
  match ra.at δ2 μ2, rb.at δ2 μ2 with
  | some da, some db => lift (g da db) δ2 μ2
  | _, _ => .bad
theorem m2_read {r : R2} {g : D → D → Option Slot} {oa ob : Opn} (hr : R2J X r g) : ∀ σ H Q, rdE X W (m2 g oa ob) σ H Q → tOp r (rdO X W oa) (rdO X W ob) σ H Q := by
  intro σ H Q ⟨Z, F, ρ, μ, δ, S, q⟩
  refine ⟨Z, F, ρ, μ, δ, S, (FinE.bind q).imp fun ra δ1 μ1 H1 F1 ρ1 l lr S1 ⟨_, _, _, p⟩ x hx => ?_⟩
  refine ⟨Z, F1, ρ1, μ1, δ1, S1, p.bind.imp fun rb δ2 μ2 H2 F2 ρ2 l2 lr2 S2 ⟨_, _, _, p2⟩ y hy => ?_⟩
  cases ea : ra.at δ2 μ2 with
  | none => rw [ea] at p2; exact p2.elim
  | some da =>
    cases eb : rb.at δ2 μ2 with
    | none => rw [ea, eb] at p2; exact p2.elim
    | some db =>
      rw [ea, eb] at p2
      unfold lift at p2
      cases eg : g da db with
      | none => simp only [eg] at p2; exact p2.elim
      | some s =>
        simp only [eg] at p2
        exact hr Z F2 ρ2 μ2 δ2 σ H2 x y da db s Q S2 ((hx.up l2 lr2).bor S2 ea) (hy.bor S2 eb) eg fun v H' F' l' S' vr => p2 H' F' ρ2 l' .refl S' v vr
theorem je_bin {op : Operator} {r : R2} {g : D → D → Option Slot} {oa ob : Opn} (ho : OpR X (binaryOp op) r) (hr : R2J X r g) (ha : JO X W a oa) (hb : JO X W b ob) : JE X W (.BinOp a op b pos) (m2 g oa ob) :=
  (pe_op ho ha hb).imp (m2_read hr)
theorem je_cmp {op : CmpOp} {r : R2} {g : D → D → Option Slot} {oa ob : Opn} (ho : OpR X (compareOp op) r) (hr : R2J X r g) (ha : JO X W a oa) (hb : JO X W b ob) (hm : behindInMarks op b = false) : JE X W (.Compare a [op] [b] pos) (m2 g oa ob) :=
  (pe_cmpR ho ha hb hm).imp (m2_read hr)
theorem je_ix {r : R2} {g : D → D → Option Slot} {oa ob : Opn} (ho : IxR X r) (hr : R2J X r g) (ha : JO X W a oa) (hb : JO X W b ob) (hs : PlainIx b) : JE X W (.Subscript a b pos) (m2 g oa ob) :=
  (pe_ix ho ha hb hs).imp (m2_read hr)
theorem R2J.or {r r' : R2} {g g' : D → D → Option Slot} (h : R2J X r g) (h' : R2J X r' g') : R2J X (fun x y H Q => r x y H Q ∨ r' x y H Q) (fun x y => (g x y).or (g' x y)) := by
  intro Z F ρ μ δ σ H x y dx dy s Q S bx bY e q
  have e : (g dx dy).or (g' dx dy) = some s := e
  cases eg : g dx dy with
  | some s' => rw [eg] at e; exact .inl (h Z F ρ μ δ σ H x y dx dy s Q S bx bY (by rw [eg]; exact e) q)
  | none => rw [eg] at e; exact .inr (h' Z F ρ μ δ σ H x y dx dy s Q S bx bY e q)
def mTb (m : ME) : MT := fun δ μ => (m δ μ).bind fun s δ1 μ1 => match s with
  | .fr (.bl b) => .ok b δ1 μ1
  | _ => .bad
theorem mTb_read {t : TE} {m : ME} (h : ∀ σ H Q, rdE X W m σ H Q → t σ H Q) : ∀ σ H Q, rdT X W (mTb m) σ H Q → t σ H fun x H' => ∃ k, x = .bl k ∧ Q k H' := by
  intro σ H Q ⟨Z, F, ρ, μ, δ, S, q⟩
  refine h σ H _ ⟨Z, F, ρ, μ, δ, S, (FinE.bind q).imp fun s δ1 μ1 H1 F1 ρ1 l lr S1 ⟨_, _, _, p⟩ v vr => ?_⟩
  cases s with
  | own o => exact p.elim
  | fr d =>
    cases d with
    | bl b =>
      cases vr.r
      exact ⟨b, rfl, p H1 F1 ρ1 .refl .refl S1⟩
    | _ => exact p.elim
theorem jt_cmp {op : CmpOp} {r : R2} {g : D → D → Option Slot} {oa ob : Opn} (ho : OpR X (compareOp op) r) (hr : R2J X r g) (ha : JO X W a oa) (hb : JO X W b ob) (hm : behindInMarks op b = false) : JT X W (.Compare a [op] [b] pos) (mTb (m2 g oa ob)) :=
  (pt_cmpR ho ha hb hm).imp (mTb_read (m2_read hr))
theorem jt_e {m : ME} (h : JE X W e m) (he : ∀ whole, isTrue e X.env whole = (do let v ← whole; standAt e.pos; holding [v] (truthy v)) := by intro _; rfl) : JT X W e (mTb m) :=
  (pt_val h he).imp (mTb_read fun _ _ _ q => q)
def mNot (m : MT) : MT := fun δ μ => (m δ μ).bind fun b δ1 μ1 => .ok (!b) δ1 μ1
theorem jt_not {m : MT} (h : JT X W a m) : JT X W (.UnaryOp .Not a pos) (mNot m) := by
  refine (pt_not h).imp fun σ H Q ⟨Z, F, ρ, μ, δ, S, q⟩ => ⟨Z, F, ρ, μ, δ, S, (FinE.bind q).imp fun b δ1 μ1 H1 F1 ρ1 l lr S1 ⟨_, _, _, p⟩ => ?_⟩
  exact p H1 F1 ρ1 .refl .refl S1
abbrev JW (X : Cx) (W : WX) (e : Expr) (m : MT) : Prop := PW X e (rdT X W m)
def mAnd (m n : MT) : MT := fun δ μ => (m δ μ).bind fun b δ1 μ1 => if b = true then n δ1 μ1 else .ok false δ1 μ1
def mOr (m n : MT) : MT := fun δ μ => (m δ μ).bind fun b δ1 μ1 => if b = true then .ok true δ1 μ1 else n δ1 μ1
theorem jw_and1 {m : MT} (h : JT X W a m) : JW X W (.BoolOp .And [a] pos) m := pw_and1 h
theorem jw_or1 {m : MT} (h : JT X W a m) : JW X W (.BoolOp .Or [a] pos) m := pw_or1 h
theorem jw_and {m n : MT} {rest : List Expr} (h : JT X W a m) (t : JW X W (.BoolOp .And (b :: rest) pos) n) : JW X W (.BoolOp .And (a :: b :: rest) pos) (mAnd m n) := by
  refine (pw_and h t).imp fun σ H Q ⟨Z, F, ρ, μ, δ, S, q⟩ => ⟨Z, F, ρ, μ, δ, S, (FinE.bind q).imp fun c δ1 μ1 H1 F1 ρ1 l lr S1 ⟨_, _, _, p⟩ => ?_⟩
  cases c with
  | true => exact ⟨Z, F1, ρ1, μ1, δ1, S1, p⟩
  | false => exact p H1 F1 ρ1 .refl .refl S1
theorem jw_or {m n : MT} {rest : List Expr} (h : JT X W a m) (t : JW X W (.BoolOp .Or (b :: rest) pos) n) : JW X W (.BoolOp .Or (a :: b :: rest) pos) (mOr m n) := by
  refine (pw_or h t).imp fun σ H Q ⟨Z, F, ρ, μ, δ, S, q⟩ => ⟨Z, F, ρ, μ, δ, S, (FinE.bind q).imp fun c δ1 μ1 H1 F1 ρ1 l lr S1 ⟨_, _, _, p⟩ => ?_⟩
  cases c with
  | false => exact ⟨Z, F1, ρ1, μ1, δ1, S1, p⟩
  | true => exact p H1 F1 ρ1 .refl .refl S1
theorem jt_w {m : MT} (h : JW X W e m) : JT X W e m := h.pt
def mIf (t : MT) (m n : ME) : ME := fun δ μ => (t δ μ).bind fun b δ1 μ1 => if b = true then m δ1 μ1 else n δ1 μ1
theorem je_if {c : Expr} {t : MT} {m n : ME} (hc : JT X W c t) (ha : JE X W a m) (hb : JE X W b n) : JE X W (.IfExp c a b pos) (mIf t m n) := by
  refine (pe_ifExp hc ha hb).imp fun σ H Q ⟨Z, F, ρ, μ, δ, S, q⟩ => ⟨Z, F, ρ, μ, δ, S, (FinE.bind q).imp fun c δ1 μ1 H1 F1 ρ1 l lr S1 ⟨_, _, _, p⟩ => ?_⟩
  cases c with
  | true => exact ⟨Z, F1, ρ1, μ1, δ1, S1, p⟩
  | false => exact ⟨Z, F1, ρ1, μ1, δ1, S1, p⟩
def mAndV (m n : ME) : ME := fun δ μ => (m δ μ).bind fun s δ1 μ1 => match s with
  | .fr (.bl true) => n δ1 μ1
  | .fr (.bl false) => .ok (.fr (.bl false)) δ1 μ1
  | _ => .bad
def mOrV (m n : ME) : ME := fun δ μ => (m δ μ).bind fun s δ1 μ1 => match s with
  | .fr (.bl false) => n δ1 μ1
  | .fr (.bl true) => .ok (.fr (.bl true)) δ1 μ1
  | _ => .bad
theorem je_one {op} {m : ME} (h : JE X W a m) : JE X W (.BoolOp op [a] pos) m := pe_one h
theorem je_and {m n : ME} {rest : List Expr} (h : JE X W a m) (t : JE X W (.BoolOp .And (b :: rest) pos) n) : JE X W (.BoolOp .And (a :: b :: rest) pos) (mAndV m n) := by
  refine (pe_and h t).imp fun σ H Q ⟨Z, F, ρ, μ, δ, S, q⟩ => ⟨Z, F, ρ, μ, δ, S, (FinE.bind q).imp fun s δ1 μ1 H1 F1 ρ1 l lr S1 ⟨_, _, _, p⟩ v vr => ?_⟩
  cases s with
  | own o => exact p.elim
  | fr d =>
    cases d with
    | bl b =>
      cases vr.r
      refine ⟨b, rfl, ?_⟩
      cases b with
      | true => exact ⟨Z, F1, ρ1, μ1, δ1, S1, p⟩
      | false => exact p H1 F1 ρ1 .refl .refl S1 _ .bl
    | _ => exact p.elim
theorem je_or {m n : ME} {rest : List Expr} (h : JE X W a m) (t : JE X W (.BoolOp .Or (b :: rest) pos) n) : JE X W (.BoolOp .Or (a :: b :: rest) pos) (mOrV m n) := by
  refine (pe_or h t).imp fun σ H Q ⟨Z, F, ρ, μ, δ, S, q⟩ => ⟨Z, F, ρ, μ, δ, S, (FinE.bind q).imp fun s δ1 μ1 H1 F1 ρ1 l lr S1 ⟨_, _, _, p⟩ v vr => ?_⟩
  cases s with
  | own o => exact p.elim
  | fr d =>
    cases d with
    | bl b =>
      cases vr.r
      refine ⟨b, rfl, ?_⟩
      cases b with
      | false => exact ⟨Z, F1, ρ1, μ1, δ1, S1, p⟩
      | true => exact p H1 F1 ρ1 .refl .refl S1 _ .bl
    | _ => exact p.elim
def mTup (ms : List ME) : ME := fun δ μ => (evA ms δ μ).bind fun ds δ1 μ1 => if ds.length ≤ 16777216 then .ok (.fr (.tup ds)) δ1 μ1 else .bad
def mLst (ms : List ME) : ME := fun δ μ => (evA ms δ μ).bind fun ds δ1 μ1 => if ds.length ≤ 16777216 then .ok (.own (.lst ds)) δ1 μ1 else .bad
theorem je_tup {k} {ms : List ME} (h : JA X W es ms) : JE X W (.Tuple es k pos) (mTup ms) := by
  refine (pe_tup h).imp fun σ H Q ⟨Z, F, ρ, μ, δ, S, q⟩ => ⟨Z, F, ρ, μ, δ, S, (FinE.bind q).imp fun ds δ1 μ1 H1 F1 ρ1 l lr S1 ⟨_, _, _, p⟩ vs hv => ?_⟩
  by_cases hz : ds.length ≤ 16777216
  · rw [if_pos hz] at p
    refine ⟨by rw [hv.len, sizeLine_eq]; exact hz, fun a ha => ?_⟩
    obtain ⟨n1, n2, n3, n4⟩ := S1.notIn ha
    have S2 := S1.laid (o := .tup vs) ha
    obtain ⟨l3, S3⟩ := S2.freeze (p := a) upd_same ⟨n1, n2, n3⟩ n4
    exact p _ _ ρ1 l3 .refl S3 _ ⟨.tup (.inl (.inl upd_same)) (hv.up l3.to fun _ _ h => h), fun o p z => by cases z⟩
  · rw [if_neg hz] at p; exact p.elim
theorem je_lst {ms : List ME} (h : JA X W es ms) : JE X W (.List es pos) (mLst ms) := by
  refine (pe_lst h).imp fun σ H Q ⟨Z, F, ρ, μ, δ, S, q⟩ => ⟨Z, F, ρ, μ, δ, S, (FinE.bind q).imp fun ds δ1 μ1 H1 F1 ρ1 l lr S1 ⟨_, _, _, p⟩ vs hv => ?_⟩
  by_cases hz : ds.length ≤ 16777216
  · rw [if_pos hz] at p
    refine ⟨by rw [hv.len, sizeLine_eq]; exact hz, fun a ha => ?_⟩
    obtain ⟨n1, n2, n3, n4⟩ := S1.notIn ha
    exact p _ F1 ρ1 .refl .refl (S1.laid ha) _ ⟨⟨a, rfl, ⟨n1, n2, n3⟩, vs, upd_same, hv⟩, fun o p z z2 => by cases z2; exact n4⟩
  · rw [if_neg hz] at p; exact p.elim
def mShare (m : ME) : ME := fun δ μ => (m δ μ).bind fun s δ1 μ1 => match s with
  | .own o => .ok (.fr (.obj μ1.length)) δ1 (μ1 ++ [o])
  | _ => .bad
theorem je_share {m : ME} (h : JE X W e m) : JE X W e (mShare m) := by
  refine h.imp fun σ H Q ⟨Z, F, ρ, μ, δ, S, q⟩ => ⟨Z, F, ρ, μ, δ, S, (FinE.bind q).imp fun s δ1 μ1 H1 F1 ρ1 l lr S1 ⟨_, _, _, p⟩ v vr => ?_⟩
  cases s with
  | fr d => exact p.elim
  | own o =>
    obtain ⟨a, ea, lr2, S2, rp⟩ := S1.share vr
    exact p H1 F1 _ .refl lr2 S2 v ⟨rp, fun o p z => by cases z⟩
end
end FL
namespace FL
open PySem L2
section
variable {X : Cx} {W : WX} {e a b : Expr} {es : List Expr} {pos : Pos}
def gInt (c : Int → Int → Bool) (f : Int → Int → D) : D → D → Option Slot
  | .int i, .int j => if c i j = true then some (.fr (f i j)) else none
  | _, _ => none
theorem r2_flat {r : R2} {g : D → D → Option Slot} (h : ∀ F ρ H x y dx dy s Q, Bor X.K X.mg F ρ H x dx → Bor X.K X.mg F ρ H y dy → g dx dy = some s → ∃ v, (Q v H → r x y H Q) ∧ ∃ d, s = .fr d ∧ ∀ F' ρ', Rep X.K X.mg F' ρ' v d) : R2J X r g := by
  intro Z F ρ μ δ σ H x y dx dy s Q S bx bY e q
  obtain ⟨v, h1, d, rfl, h2⟩ := h F ρ H x y dx dy s Q bx bY e
  exact h1 (q v H F .refl S ⟨h2 F ρ, fun o p z => by cases z⟩)
theorem r2_int {C : Int → Int → Prop} {c : Int → Int → Bool} {f : Int → Int → Int} (h : ∀ i j, c i j = true → C i j) : R2J X (rI C fun i j => .int (f i j)) (gInt c fun i j => .int (f i j)) := by
  refine r2_flat fun F ρ H x y dx dy s Q bx bY e => ?_
  unfold gInt at e
  cases dx <;> cases dy <;> first | (cases e; done) | skip
  rename_i i j
  cases bx.int
  cases bY.int
  by_cases hc : c i j = true
  · simp only [hc, if_true] at e
    cases e
    exact ⟨.int (f i j), fun q => ⟨i, j, rfl, rfl, h i j hc, q⟩, _, rfl, fun _ _ => .int⟩
  · simp only [hc] at e
    cases e
theorem r2_int0 {f : Int → Int → Int} : R2J X (rI0 fun i j => .int (f i j)) (gInt (fun _ _ => true) fun i j => .int (f i j)) := by
  refine r2_flat fun F ρ H x y dx dy s Q bx bY e => ?_
  unfold gInt at e
  cases dx <;> cases dy <;> first | (cases e; done) | skip
  rename_i i j
  cases bx.int
  cases bY.int
  simp only [if_true] at e
  cases e
  exact ⟨.int (f i j), fun q => ⟨i, j, rfl, rfl, q⟩, _, rfl, fun _ _ => .int⟩
theorem r2_intB {f : Int → Int → Bool} : R2J X (rI0 fun i j => .bl (f i j)) (gInt (fun _ _ => true) fun i j => .bl (f i j)) := by
  refine r2_flat fun F ρ H x y dx dy s Q bx bY e => ?_
  unfold gInt at e
  cases dx <;> cases dy <;> first | (cases e; done) | skip
  rename_i i j
  cases bx.int
  cases bY.int
  simp only [if_true] at e
  cases e
  exact ⟨.bl (f i j), fun q => ⟨i, j, rfl, rfl, q⟩, _, rfl, fun _ _ => .bl⟩
abbrev gSub : D → D → Option Slot := gInt (fun _ _ => true) fun i j => .int (i - j)
abbrev gMul : D → D → Option Slot := gInt (fun i j => decide (i.natAbs.log2 + j.natAbs.log2 < 1000000)) fun i j => .int (i * j)
abbrev gDiv : D → D → Option Slot := gInt (fun _ j => decide (0 < j) && decide (j.natAbs.log2 < 9000)) fun i j => .int (i / j)
abbrev gMod : D → D → Option Slot := gInt (fun _ j => decide (0 < j)) fun i j => .int (i % j)
abbrev gPow : D → D → Option Slot := gInt (fun i j => decide (0 ≤ j) && decide (j ≤ 1000000) && decide (i.natAbs < 2 ^ 64)) fun i j => .int (i ^ j.toNat)
theorem o_sub : OpR X (binaryOp .Sub) (rI0 fun i j => .int (i - j)) := op_sub
theorem j_sub : R2J X (rI0 fun i j => .int (i - j)) gSub := r2_int0
theorem j_mulI : R2J X (rI CMulW fun i j => .int (i * j)) gMul := r2_int fun i j h => (show i.natAbs.log2 + j.natAbs.log2 < 1000000 from of_decide_eq_true h)
theorem j_div : R2J X (rI CDivW fun i j => .int (i / j)) gDiv := r2_int fun i j h => by
  have h' := Bool.and_eq_true_iff.mp h
  exact ⟨of_decide_eq_true h'.1, of_decide_eq_true h'.2⟩
theorem j_mod : R2J X (rI (fun _ j => 0 < j) fun i j => .int (i % j)) gMod := r2_int fun i j h => of_decide_eq_true h
theorem cpow {i j : Int} (h : (decide (0 ≤ j) && decide (j ≤ 1000000) && decide (i.natAbs < 2 ^ 64)) = true) : CPow i j := by
  have h' := Bool.and_eq_true_iff.mp h
  have h2 := Bool.and_eq_true_iff.mp h'.1
  exact ⟨of_decide_eq_true h2.1, of_decide_eq_true h2.2, of_decide_eq_true h'.2⟩
theorem j_pow : R2J X (rI CPow fun i j => .int (i ^ j.toNat)) gPow := r2_int fun i j h => cpow h
def gAddS : D → D → Option Slot
  | .str x, .str y => if x.length + y.length ≤ 16777216 then some (.fr (.str (x ++ y))) else none
  | _, _ => none
def gAddL : D → D → Option Slot
  | .lst x, .lst y => if x.length + y.length ≤ 16777216 then some (.own (.lst (x ++ y))) else none
  | _, _ => none
def gAddT : D → D → Option Slot
  | .tup x, .tup y => if x.length + y.length ≤ 16777216 then some (.fr (.tup (x ++ y))) else none
  | _, _ => none
theorem j_addS : R2J X (fun x y H Q => ∃ i j, x = .str i ∧ y = .str j ∧ i.length + j.length ≤ sizeLine ∧ Q (.str (i ++ j)) H) gAddS := by
  refine r2_flat fun F ρ H x y dx dy s Q bx bY e => ?_
  unfold gAddS at e
  cases dx <;> cases dy <;> first | (cases e; done) | skip
  rename_i i j
  cases bx.str
  cases bY.str
  by_cases hz : i.length + j.length ≤ 16777216
  · simp only [hz, if_true] at e
    cases e
    exact ⟨.str (toS i ++ toS j), fun q => ⟨_, _, rfl, rfl, by rw [toS_len, toS_len, line_eq]; exact hz, q⟩, _, rfl, fun _ _ => by rw [toS_app]; exact .str⟩
  · simp only [hz] at e; cases e
def rCatL (K : PySem.W.Frag) : R2 := fun x y H Q => ∃ a b xs zs, x = .ref a ∧ y = .ref b ∧ SqL K H a xs ∧ SqL K H b zs ∧ xs.length + zs.length ≤ sizeLine ∧ ∀ p, H p = none → Q (.ref p) (upd H p (.lst (xs ++ zs)))
theorem sum_lists {prog : Program} {w : World} {A : Around} {E : Value → Shared → Prop} {s : Shared} {l b : Addr} {u v : List Value} {Q : Value → Shared → Prop}
    (hl : s.heap.IsList l u.toArray) (hb : s.heap.IsList b v.toArray) (hz : u.length + v.length ≤ sizeLine)
    (h : Q (.ref s.heap.objs.size) { s with heap := s.heap.push { cls := .type "list", data := .seq (u ++ v).toArray } }) : wpAny (model prog w) A (binaryOp .Add (.ref l) (.ref b)) Q E s := by
  rcases hl with ⟨⟨k1, d1, t1, z1⟩, g1, y1, n1, x1⟩
  rcases hb with ⟨⟨k2, d2, t2, z2⟩, g2, y2, n2, x2⟩
  dsimp only at y1 x1 y2 x2
  cases y1; cases x1; cases y2; cases x2
  have hcat : (u ++ v).toArray = u.toArray ++ v.toArray := by simp
  rw [hcat] at h
  exact concat_meets ⟨_, g1, rfl⟩ ⟨_, g2, rfl⟩ noFill_list_add seq_list_add PySem.F.slot_list_add PySem.F.entry_list_add (PySem.F.args_list_add_2 _ _)
    (PyProof.Rows.list_addW l b u.toArray v.toArray n1 n2 d1 d2 z1 z2 (by simpa using hz)) ⟨g1, g2, h⟩
theorem o_cat : OpR X (binaryOp .Add) (rCatL X.K) := by
  intro pins s σ H x y v u Q I rx ry h
  obtain ⟨l, b, xs, zs, rfl, rfl, hl, hb, hz, q⟩ := h
  cases rx
  cases ry
  obtain ⟨ia, ra, pa, za⟩ := I.list hl
  obtain ⟨ib, rb, pb, zb⟩ := I.list hb
  refine sum_lists pa.isList pb.isList (by rw [← ra.length, ← rb.length]; exact hz) ?_
  exact ⟨.ref s.heap.objs.size, _, I.lnew (t' := s.toks) (ra.append rb) (by rw [List.length_append]; exact hz), rfl, q _ I.fresh⟩
theorem vr_newL {Z F : Hp} {ρ : List Addr} {μ : Mem} {δ : Loc} {σ : St} {H : Hp} {p : Addr} {vs : List V} {ds : List D} (S : Sim X.K X.mg Z F ρ μ δ σ H) (hp : H p = none) (r : RepL X.K X.mg F ρ vs ds) :
    Sim X.K X.mg Z F ρ μ δ σ (upd H p (.lst vs)) ∧ VR X.K X.mg Z F ρ δ σ (upd H p (.lst vs)) (.ref p) (.own (.lst ds)) := by
  obtain ⟨n1, n2, n3, n4⟩ := S.notIn hp
  exact ⟨S.laid hp, ⟨p, rfl, ⟨n1, n2, n3⟩, vs, upd_same, r⟩, fun o p z z2 => by cases z2; exact n4⟩
theorem vr_newT {Z F : Hp} {ρ : List Addr} {μ : Mem} {δ : Loc} {σ : St} {H : Hp} {p : Addr} {vs : List V} {ds : List D} (S : Sim X.K X.mg Z F ρ μ δ σ H) (hp : H p = none) (r : RepL X.K X.mg F ρ vs ds) :
    ∃ F', Le Z F F' ∧ Sim X.K X.mg Z F' ρ μ δ σ (upd H p (.tup vs)) ∧ VR X.K X.mg Z F' ρ δ σ (upd H p (.tup vs)) (.ref p) (.fr (.tup ds)) := by
  obtain ⟨n1, n2, n3, n4⟩ := S.notIn hp
  obtain ⟨l3, S3⟩ := (S.laid (o := .tup vs) hp).freeze (p := p) upd_same ⟨n1, n2, n3⟩ n4
  exact ⟨_, l3, S3, .tup (.inl (.inl upd_same)) (r.up l3.to fun _ _ h => h), fun o p z => by cases z⟩
theorem j_addL : R2J X (rCatL X.K) gAddL := by
  intro Z F ρ μ δ σ H x y dx dy s Q S bx bY e q
  unfold gAddL at e
  cases dx <;> cases dy <;> first | (cases e; done) | skip
  rename_i i j
  by_cases hz : i.length + j.length ≤ 16777216
  · simp only [hz, if_true] at e
    cases e
    obtain ⟨p1, v1, rfl, h1, r1⟩ := bx.lst S
    obtain ⟨p2, v2, rfl, h2, r2⟩ := bY.lst S
    refine ⟨p1, p2, v1, v2, rfl, rfl, .of h1, .of h2, by rw [r1.len, r2.len, line_eq]; exact hz, fun p hp => ?_⟩
    obtain ⟨S', vr⟩ := vr_newL S hp (r1.app r2)
    exact q _ _ F .refl S' vr
  · simp only [hz] at e; cases e
theorem j_addT : R2J X (rCatA X.K) gAddT := by
  intro Z F ρ μ δ σ H x y dx dy s Q S bx bY e q
  unfold gAddT at e
  cases dx <;> cases dy <;> first | (cases e; done) | skip
  rename_i i j
  by_cases hz : i.length + j.length ≤ 16777216
  · simp only [hz, if_true] at e
    cases e
    have b1 := bx.rep fun o e => by cases o <;> cases e
    have b2 := bY.rep fun o e => by cases o <;> cases e
    obtain ⟨p1, v1, rfl, h1, r1⟩ := bx.tup S
    obtain ⟨p2, v2, rfl, h2, r2⟩ := bY.tup S
    refine ⟨p1, p2, v1, v2, rfl, rfl, h1, h2, by rw [r1.len, r2.len, line_eq]; exact hz, fun z => ?_, fun _ z => ?_, fun _ _ p hp => ?_⟩
    · subst z
      cases r1
      exact q _ H F .refl S ⟨b2, fun o p z => by cases z⟩
    · subst z
      cases r2
      rw [List.append_nil] at q
      exact q _ H F .refl S ⟨b1, fun o p z => by cases z⟩
    · obtain ⟨F', l', S', vr⟩ := vr_newT S hp (r1.app r2)
      exact q _ _ F' l' S' vr
  · simp only [hz] at e; cases e
def gAdd : D → D → Option Slot := fun x y => (gInt (fun _ _ => true) (fun i j => .int (i + j)) x y).or ((gAddS x y).or ((gAddL x y).or (gAddT x y)))
abbrev rAddA (K : PySem.W.Frag) : R2 := fun x y H Q => rI0 (fun i j => .int (i + j)) x y H Q ∨ ((∃ i j, x = .str i ∧ y = .str j ∧ i.length + j.length ≤ sizeLine ∧ Q (.str (i ++ j)) H) ∨ (rCatL K x y H Q ∨ rCatA K x y H Q))
theorem o_add : OpR X (binaryOp .Add) (rAddA X.K) := op_add.or (op_add_str.or (o_cat.or op_catA))
theorem j_add : R2J X (rAddA X.K) gAdd := R2J.or r2_int0 (R2J.or j_addS (R2J.or j_addL j_addT))
def gRep : D → D → Option Slot
  | .lst x, .int k => if (decide (-(2 ^ 63) ≤ k) && decide (k < 2 ^ 63) && decide (x.length * k.toNat ≤ 16777216)) = true then some (.own (.lst (List.replicate k.toNat x).flatten)) else none
  | _, _ => none
theorem j_rep : R2J X rRep gRep := by
  intro Z F ρ μ δ σ H x y dx dy s Q S bx bY e q
  unfold gRep at e
  cases dx <;> cases dy <;> first | (cases e; done) | skip
  rename_i xs k
  cases bY.int
  by_cases hz : (decide (-(2 ^ 63) ≤ k) && decide (k < 2 ^ 63) && decide (xs.length * k.toNat ≤ 16777216)) = true
  · simp only [hz, if_true] at e
    cases e
    obtain ⟨p1, v1, rfl, h1, r1⟩ := bx.lst S
    have h' := Bool.and_eq_true_iff.mp hz
    have h2 := Bool.and_eq_true_iff.mp h'.1
    refine ⟨p1, k, v1, rfl, rfl, h1, of_decide_eq_true h2.1, of_decide_eq_true h2.2, by rw [r1.len, line_eq]; exact of_decide_eq_true h'.2, fun p hp => ?_⟩
    obtain ⟨S', vr⟩ := vr_newL S hp (r1.rep k.toNat)
    exact q _ _ F .refl S' vr
  · simp only [hz] at e; cases e
abbrev tb (b : Bool) : Slot := .fr (.bl b)
abbrev gLtI : D → D → Option Slot := gInt (fun _ _ => true) fun i j => .bl (decide (i < j))
abbrev gLeI : D → D → Option Slot := gInt (fun _ _ => true) fun i j => .bl (decide (i ≤ j))
abbrev gGtI : D → D → Option Slot := gInt (fun _ _ => true) fun i j => .bl (decide (j < i))
abbrev gGeI : D → D → Option Slot := gInt (fun _ _ => true) fun i j => .bl (decide (j ≤ i))
def gTx (f : Tx → Tx → Bool) : D → D → Option Slot
  | .str x, .str y => some (tb (f x y))
  | _, _ => none
theorem r2_tx {f : List Nat → List Nat → Bool} : R2J X (fun x y H Q => ∃ i j, x = .str i ∧ y = .str j ∧ Q (.bl (f i.cps.toList j.cps.toList)) H) (gTx f) := by
  refine r2_flat fun F ρ H x y dx dy s Q bx bY e => ?_
  unfold gTx at e
  cases dx <;> cases dy <;> first | (cases e; done) | skip
  cases bx.str
  cases bY.str
  cases e
  exact ⟨.bl _, fun q => ⟨_, _, rfl, rfl, q⟩, _, rfl, fun _ _ => .bl⟩
def gLt : D → D → Option Slot := fun x y => (gLtI x y).or (gTx (fun x y => decide (x < y)) x y)
def gLe : D → D → Option Slot := fun x y => (gLeI x y).or (gTx (fun x y => !decide (y < x)) x y)
def gGt : D → D → Option Slot := fun x y => (gGtI x y).or (gTx (fun x y => decide (y < x)) x y)
def gGe : D → D → Option Slot := fun x y => (gGeI x y).or (gTx (fun x y => !decide (x < y)) x y)
abbrev rLtA : R2 := fun x y H Q => rI0 (fun i j => .bl (decide (i < j))) x y H Q ∨ ∃ i j, x = .str i ∧ y = .str j ∧ Q (.bl (decide (i.cps.toList < j.cps.toList))) H
abbrev rLeA : R2 := fun x y H Q => rI0 (fun i j => .bl (decide (i ≤ j))) x y H Q ∨ ∃ i j, x = .str i ∧ y = .str j ∧ Q (.bl (!decide (j.cps.toList < i.cps.toList))) H
abbrev rGtA : R2 := fun x y H Q => rI0 (fun i j => .bl (decide (j < i))) x y H Q ∨ ∃ i j, x = .str i ∧ y = .str j ∧ Q (.bl (decide (j.cps.toList < i.cps.toList))) H
abbrev rGeA : R2 := fun x y H Q => rI0 (fun i j => .bl (decide (j ≤ i))) x y H Q ∨ ∃ i j, x = .str i ∧ y = .str j ∧ Q (.bl (!decide (i.cps.toList < j.cps.toList))) H
theorem o_lt : OpR X (compareOp .Lt) rLtA := op_lt.or op_lt_str
theorem o_le : OpR X (compareOp .LtE) rLeA := op_le.or op_le_str
theorem o_gt : OpR X (compareOp .Gt) rGtA := op_gt.or op_gt_str
theorem o_ge : OpR X (compareOp .GtE) rGeA := op_ge.or op_ge_str
theorem j_lt : R2J X rLtA gLt := R2J.or r2_intB (r2_tx (f := fun x y => decide (x < y)))
theorem j_le : R2J X rLeA gLe := R2J.or r2_intB (r2_tx (f := fun x y => !decide (y < x)))
theorem j_gt : R2J X rGtA gGt := R2J.or r2_intB (r2_tx (f := fun x y => decide (y < x)))
theorem j_ge : R2J X rGeA gGe := R2J.or r2_intB (r2_tx (f := fun x y => !decide (x < y)))
def eqS : D → D → Option Bool
  | .int i, .int j => some (decide (i = j))
  | .str x, .str y => some (decide (x = y))
  | .bl a, .bl b => some (decide (a = b))
  | .non, .non => some true
  | .non, .int _ | .int _, .non | .non, .bl _ | .bl _, .non | .non, .str _ | .str _, .non | .int _, .str _ | .str _, .int _ | .bl _, .str _ | .str _, .bl _ => some false
  | _, _ => none
def eqP (x y : D) : Option Bool := match D.py x, D.py y with
  | some a, some b => if SeqAt.shaped a && SeqAt.shaped b then some (PyData.eqv a b) else none
  | _, _ => none
def gEq (neg : Bool) : D → D → Option Slot := fun x y => ((eqS x y).map fun b => tb (b != neg)).or ((eqP x y).map fun b => tb (b != neg))
abbrev rEqA (K : PySem.W.Frag) : R2 := fun x y H Q => rEq x y H Q ∨ rEqD K x y H Q
abbrev rNeA (K : PySem.W.Frag) : R2 := fun x y H Q => rNe x y H Q ∨ rNeD K x y H Q
theorem o_eq (hu : X.A.units + 64 < cLine) : OpR X (compareOp .Eq) (rEqA X.K) := op_eq.or (op_eqD hu)
theorem o_ne (hu : X.A.units + 64 < cLine) : OpR X (compareOp .NotEq) (rNeA X.K) := op_ne.or (op_neD hu)
mutual
theorem Rep.dp {K : PySem.W.Frag} {mg : Str → Option Value} {F H : Hp} {ρ : List Addr} (l : ∀ p u, Rd F p u → Rd H p u) : ∀ {v : V} {d : D} {q : PyData}, Rep K mg F ρ v d → D.py d = some q → Dp K H v q
  | _, _, _, .non, e => by simp only [D.py] at e; cases e; exact .non
  | _, _, _, .bl, e => by simp only [D.py] at e; cases e; exact .bl _
  | _, _, _, .int, e => by simp only [D.py] at e; cases e; exact .int _
  | _, _, _, .str, e => by simp only [D.py] at e; cases e; exact .str _
  | _, _, _, .lst h r, e => by
    simp only [D.py] at e
    obtain ⟨qs, e1, e2⟩ := Option.map_eq_some_iff.mp e
    subst e2
    exact .lst (.inl (l _ _ (.inl h))) (RepL.dp l r e1)
  | _, _, _, .ro h r, e => by
    simp only [D.py] at e
    obtain ⟨qs, e1, e2⟩ := Option.map_eq_some_iff.mp e
    subst e2
    exact .lst (h.elim (fun h => .inl (l _ _ h)) .inr) (RepL.dp l r e1)
  | _, _, _, .tup h r, e => by
    simp only [D.py] at e
    obtain ⟨qs, e1, e2⟩ := Option.map_eq_some_iff.mp e
    subst e2
    exact .tup (h.elim (fun h => .inl (l _ _ h)) .inr) (RepL.dp l r e1)
  | _, _, _, .dct _ _ _, e => by simp only [D.py] at e; cases e
  | _, _, _, .obj _, e => by simp only [D.py] at e; cases e
  | _, _, _, .glo _ _, e => by simp only [D.py] at e; cases e
  | _, _, _, .ty, e => by simp only [D.py] at e; cases e
  | _, _, _, .exn _ _ _ _, e => by simp only [D.py] at e; cases e
  | _, _, _, .rc h hd r, e => by
    simp only [D.py] at e
    obtain ⟨qs, e1, e2⟩ := Option.map_eq_some_iff.mp e
    subst e2
    exact .tup (.inl (l _ _ (.inr ⟨_, h⟩))) (RepL.dp l r e1)
  | _, _, _, .dcf _ _ _, e => by simp only [D.py] at e; cases e
theorem RepL.dp {K : PySem.W.Frag} {mg : Str → Option Value} {F H : Hp} {ρ : List Addr} (l : ∀ p u, Rd F p u → Rd H p u) : ∀ {vs : List V} {ds : List D} {qs : List PyData}, RepL K mg F ρ vs ds → D.pys ds = some qs → DpAll K H vs qs
  | _, _, _, .nil, e => by simp only [D.pys] at e; cases e; exact .nil
  | _, _, _, .cons (d := d) (ds := ds) h t, e => by
    simp only [D.pys] at e
    cases e1 : D.py d with
    | none => simp only [e1] at e; cases e
    | some a =>
      cases e2 : D.pys ds with
      | none => simp only [e1, e2] at e; cases e
      | some r =>
        simp only [e1, e2] at e
        cases e
        exact .cons (Rep.dp l h e1) (RepL.dp l t e2)
end
theorem Bor.dp {Z F H : Hp} {ρ : List Addr} {μ : Mem} {δ : Loc} {σ : St} {v : V} {d : D} {q : PyData} (S : Sim X.K X.mg Z F ρ μ δ σ H) (h : Bor X.K X.mg F ρ H v d) (e : D.py d = some q) : Dp X.K H v q := by
  cases h with
  | fr h => exact h.dp (fun _ _ => S.rd) e
  | @own p o h =>
    cases o with
    | dct ks vs => simp only [Own.d, D.py] at e; cases e
    | tab P q => simp only [Own.d, D.py] at e; cases e
    | ins c kd ks xs => simp only [Own.d, D.py] at e; cases e
    | idc k => simp only [Own.d, D.py] at e; cases e
    | lst xs =>
      simp only [Own.d, D.py] at e
      obtain ⟨qs, e1, e2⟩ := Option.map_eq_some_iff.mp e
      subst e2
      obtain ⟨vs, eh, r⟩ := h
      exact .lst (.inl (.inl eh)) (r.dp (fun _ _ => S.rd) e1)
theorem eqS_V {F H : Hp} {ρ : List Addr} {x y : V} {dx dy : D} {b : Bool} (bx : Bor X.K X.mg F ρ H x dx) (bY : Bor X.K X.mg F ρ H y dy) (e : eqS dx dy = some b) : scal x y = true ∧ decide (x = y) = b := by
  unfold eqS at e
  cases dx <;> cases dy <;> first | (cases e; done) | skip
  all_goals cases e
  all_goals first
    | (cases bx.non; cases bY.non; exact ⟨rfl, rfl⟩)
    | (cases bx.non; cases bY.bl; exact ⟨rfl, rfl⟩)
    | (cases bx.bl; cases bY.non; exact ⟨rfl, rfl⟩)
    | (cases bx.non; cases bY.int; exact ⟨rfl, rfl⟩)
    | (cases bx.int; cases bY.non; exact ⟨rfl, rfl⟩)
    | (cases bx.non; cases bY.str; exact ⟨rfl, rfl⟩)
    | (cases bx.str; cases bY.non; exact ⟨rfl, rfl⟩)
    | (cases bx.int; cases bY.str; exact ⟨rfl, rfl⟩)
    | (cases bx.str; cases bY.int; exact ⟨rfl, rfl⟩)
    | (cases bx.bl; cases bY.str; exact ⟨rfl, rfl⟩)
    | (cases bx.str; cases bY.bl; exact ⟨rfl, rfl⟩)
    | (cases bx.bl; cases bY.bl; exact ⟨rfl, by simp⟩)
    | (cases bx.int; cases bY.int; exact ⟨rfl, by simp⟩)
    | (cases bx.str; cases bY.str
       refine ⟨rfl, ?_⟩
       rename_i i j
       by_cases q : i = j
       · subst q; simp
       · have n : ¬ (V.str (toS i) = V.str (toS j)) := fun z => q (toS_inj (by injection z))
         rw [decide_eq_false n, decide_eq_false q])
theorem j_eqN (neg : Bool) : R2J X (fun x y H Q => scal x y = true ∧ Q (.bl (decide (x = y) != neg)) H) (fun x y => (eqS x y).map fun b => tb (b != neg)) := by
  refine r2_flat fun F ρ H x y dx dy s Q bx bY e => ?_
  obtain ⟨b, e1, e2⟩ := Option.map_eq_some_iff.mp e
  obtain ⟨h1, h2⟩ := eqS_V bx bY e1
  subst e2 h2
  exact ⟨_, fun q => ⟨h1, q⟩, _, rfl, fun _ _ => .bl⟩
theorem j_eqD (neg : Bool) : R2J X (fun x y H Q => ∃ d e, Dp X.K H x d ∧ Dp X.K H y e ∧ SeqAt.shaped d = true ∧ SeqAt.shaped e = true ∧ Q (.bl (PyData.eqv d e != neg)) H) (fun x y => (eqP x y).map fun b => tb (b != neg)) := by
  intro Z F ρ μ δ σ H x y dx dy s Q S bx bY e q
  obtain ⟨b, e1, e2⟩ := Option.map_eq_some_iff.mp e
  subst e2
  unfold eqP at e1
  cases p1 : D.py dx with
  | none => simp only [p1] at e1; cases e1
  | some a =>
    cases p2 : D.py dy with
    | none => simp only [p1, p2] at e1; cases e1
    | some c =>
      simp only [p1, p2] at e1
      by_cases hs : (SeqAt.shaped a && SeqAt.shaped c) = true
      · rw [if_pos hs] at e1
        cases e1
        have hs' := Bool.and_eq_true_iff.mp hs
        exact ⟨a, c, bx.dp S p1, bY.dp S p2, hs'.1, hs'.2, q _ H F .refl S .bl⟩
      · rw [if_neg hs] at e1; cases e1
theorem j_eq : R2J X (rEqA X.K) (gEq false) := by
  have h := R2J.or (j_eqN (X := X) false) (j_eqD false)
  have e : gEq false = fun x y => ((eqS x y).map fun b => tb b).or ((eqP x y).map fun b => tb b) := by
    funext x y; unfold gEq; simp only [Bool.bne_false]
  rw [e]
  simp only [Bool.bne_false] at h
  exact h
theorem j_ne : R2J X (rNeA X.K) (gEq true) := by
  have h := R2J.or (j_eqN (X := X) true) (j_eqD true)
  have e : gEq true = fun x y => ((eqS x y).map fun b => tb (!b)).or ((eqP x y).map fun b => tb (!b)) := by
    funext x y; unfold gEq; simp only [Bool.bne_true]
  rw [e]
  simp only [Bool.bne_true] at h
  exact h
def gIsN (neg : Bool) : D → D → Option Slot
  | .non, .non => some (tb (true != neg))
  | .glo _, .non => none
  | _, .non => some (tb (false != neg))
  | _, _ => none
theorem isN_V {F H : Hp} {ρ : List Addr} {x : V} {dx : D} (bx : Bor X.K X.mg F ρ H x dx) (ng : ∀ g, dx ≠ .glo g) : decide (x = V.non) = match dx with | .non => true | _ => false := by
  cases bx with
  | fr h => cases h <;> first | rfl | exact absurd rfl (ng _)
  | @own p o h => cases o <;> rfl
theorem j_isN (neg : Bool) : R2J X (fun x y H Q => y = V.non ∧ Q (.bl (decide (x = .non) != neg)) H) (gIsN neg) := by
  refine r2_flat fun F ρ H x y dx dy s Q bx bY e => ?_
  unfold gIsN at e
  cases dy <;> first | (cases dx <;> cases e; done) | skip
  cases bY.non
  cases dx <;> first | (cases e; done) | skip
  all_goals
    have h := isN_V bx (fun g z => by cases z)
    cases e
    rw [h]
    exact ⟨_, fun q => ⟨rfl, q⟩, _, rfl, fun _ _ => .bl⟩
theorem o_isN : OpR X (compareOp .Is) (fun x y H Q => y = V.non ∧ Q (.bl (decide (x = .non) != false)) H) := by simpa only [Bool.bne_false] using op_isN (X := X)
theorem o_notN : OpR X (compareOp .IsNot) (fun x y H Q => y = V.non ∧ Q (.bl (decide (x = .non) != true)) H) := by simpa only [Bool.bne_true] using op_notN (X := X)
def gInS (neg : Bool) : D → D → Option Slot
  | .str [c], .str y => some (tb (decide (c ∈ y) != neg))
  | _, _ => none
theorem j_inS (neg : Bool) : R2J X (fun x y H Q => ∃ (c : Nat) (z : Str), x = .str ⟨#[c]⟩ ∧ y = .str z ∧ Q (.bl (decide (c ∈ z.cps.toList) != neg)) H) (gInS neg) := by
  refine r2_flat fun F ρ H x y dx dy s Q bx bY e => ?_
  unfold gInS at e
  cases dx <;> first | (cases e; done) | skip
  rename_i xs
  cases xs with
  | nil => cases e
  | cons c r =>
    cases r with
    | cons _ _ => cases e
    | nil =>
      cases dy <;> first | (cases e; done) | skip
      cases bx.str
      cases bY.str
      cases e
      exact ⟨_, fun q => ⟨c, _, rfl, rfl, q⟩, _, rfl, fun _ _ => .bl⟩
def D.fv : D → Option V
  | .non => some .non
  | .bl b => some (.bl b)
  | .int i => some (.int i)
  | .str x => some (.str (toS x))
  | _ => none
def fvs : List D → Option (List V)
  | [] => some []
  | x :: xs => match D.fv x, fvs xs with
    | some a, some r => some (a :: r)
    | _, _ => none
def gInL (neg : Bool) : D → D → Option Slot := fun x y => match D.fv x, (match y with | .lst ys => fvs ys | .tup ys => fvs ys | _ => none) with
  | some a, some vs => some (tb (inV a vs != neg))
  | _, _ => none
theorem Bor.fv {F H : Hp} {ρ : List Addr} {x w : V} {d : D} (h : Bor X.K X.mg F ρ H x d) (e : D.fv d = some w) : x = w ∧ flatV w = true := by
  cases d <;> first | (cases e; done) | skip
  · cases e; exact ⟨h.non, rfl⟩
  · cases e; exact ⟨h.bl, rfl⟩
  · cases e; exact ⟨h.int, rfl⟩
  · cases e; exact ⟨h.str, rfl⟩
theorem RepL.fvs {F : Hp} {ρ : List Addr} : ∀ {vs ws : List V} {ds : List D}, RepL X.K X.mg F ρ vs ds → fvs ds = some ws → vs = ws ∧ ws.all flatV = true := by
  intro vs ws ds
  induction ds generalizing vs ws with
  | nil => intro h e; cases h; cases e; exact ⟨rfl, rfl⟩
  | cons d ds ih =>
    intro h e
    cases h with
    | cons h t =>
      unfold FL.fvs at e
      cases e1 : D.fv d with
      | none => simp only [e1] at e; cases e
      | some a =>
        cases e2 : FL.fvs ds with
        | none => simp only [e1, e2] at e; cases e
        | some r =>
          simp only [e1, e2] at e
          cases e
          obtain ⟨h1, h2⟩ := ih t e2
          obtain ⟨h3, h4⟩ := Bor.fv (X := X) (H := F) (.fr h) e1
          exact ⟨by rw [h1, h3], by rw [List.all_cons, h4, h2]; rfl⟩
theorem j_inL (neg : Bool) : R2J X (rIn X.K neg) (gInL neg) := by
  intro Z F ρ μ δ σ H x y dx dy s Q S bx bY e q
  unfold gInL at e
  cases e1 : D.fv dx with
  | none => simp only [e1] at e; cases e
  | some a =>
    obtain ⟨rfl, fa⟩ := bx.fv e1
    have fin : ∀ {vs : List V} {ds : List D} {ws : List V}, RepL X.K X.mg F ρ vs ds → fvs ds = some ws → s = tb (inV x ws != neg) → x = x → ∀ p, y = .ref p → (SqL X.K H p vs ∨ SqT X.K H p vs) → rIn X.K neg x y H Q := by
      intro vs ds ws r e2 es _ p ey hq
      obtain ⟨rfl, f2⟩ := r.fvs e2
      refine ⟨p, vs, ey, hq, fa, f2, ?_⟩
      have qq := q (.bl (inV x vs != neg)) H F .refl S (by rw [es]; exact .bl)
      cases neg with
      | true => rw [if_pos rfl]; simpa only [Bool.bne_true] using qq
      | false => rw [if_neg Bool.false_ne_true]; simpa only [Bool.bne_false] using qq
    cases dy <;> first | (simp only [e1] at e; cases e; done) | skip
    · rename_i ys
      cases e2 : fvs ys with
      | none => simp only [e1, e2] at e; cases e
      | some ws =>
        simp only [e1, e2] at e
        obtain ⟨p, vs, ey, hl, r⟩ := bY.lst S
        exact fin r e2 (by injection e with e; exact e.symm) rfl p ey (.inl (.of hl))
    · rename_i ys
      cases e2 : fvs ys with
      | none => simp only [e1, e2] at e; cases e
      | some ws =>
        simp only [e1, e2] at e
        obtain ⟨p, vs, ey, hl, r⟩ := bY.tup S
        exact fin r e2 (by injection e with e; exact e.symm) rfl p ey (.inr hl)
def gIn (neg : Bool) : D → D → Option Slot := fun x y => (gInS neg x y).or (gInL neg x y)
abbrev rInA (K : PySem.W.Frag) (neg : Bool) : R2 := fun x y H Q => (∃ (c : Nat) (z : Str), x = .str ⟨#[c]⟩ ∧ y = .str z ∧ Q (.bl (decide (c ∈ z.cps.toList) != neg)) H) ∨ rIn K neg x y H Q
theorem o_in : OpR X (compareOp .In) (rInA X.K false) := OpR.or (by simpa only [Bool.bne_false] using op_in_sign (X := X)) op_in_seq
theorem o_nin : OpR X (compareOp .NotIn) (rInA X.K true) := OpR.or (by simpa only [Bool.bne_true] using op_notIn_sign (X := X)) op_notIn_seq
theorem j_in (neg : Bool) : R2J X (rInA X.K neg) (gIn neg) := R2J.or (j_inS neg) (j_inL neg)
def ixFx : FxM → List DK → List D → Int → Option Slot
  | .ro, [], x, i => (L2.atI x i).map .fr
  | .rc, [], x, i => (L2.atI x i).map .fr
  | _, _, _, _ => none
def gIxL : D → D → Option Slot
  | .lst x, .int i => (atI x i).map .fr
  | .tup x, .int i => (atI x i).map .fr
  | .fx b ks x, .int i => ixFx b ks x i
  | .str x, .int i => if x.length ≤ 16777216 then (atI x i).map fun c => .fr (.str [c]) else none
  | _, _ => none
theorem RepL.atI {F : Hp} {ρ : List Addr} {vs : List V} {ds : List D} {i : Int} {d : D} (r : RepL X.K X.mg F ρ vs ds) (e : L2.atI ds i = some d) : ∃ v, L2.atI vs i = some v ∧ Rep X.K X.mg F ρ v d := by
  unfold L2.atI at e ⊢
  rw [r.len]
  cases h : ixN ds.length i with
  | none => rw [h] at e; cases e
  | some j =>
    rw [h] at e
    exact r.get e
theorem j_ix : R2J X (rIx X.K) gIxL := by
  intro Z F ρ μ δ σ H x y dx dy s Q S bx bY e q
  unfold gIxL at e
  cases dx <;> cases dy <;> first | (cases e; done) | skip
  · rename_i x i
    cases bx.str
    cases bY.int
    by_cases hz : x.length ≤ 16777216
    · simp only [hz, if_true] at e
      obtain ⟨c, e1, e2⟩ := Option.map_eq_some_iff.mp e
      subst e2
      exact .inr (.inr ⟨_, _, c, rfl, rfl, by rw [toS_len, line_eq]; exact hz, e1, q _ H F .refl S ⟨Rep.str (x := [c]), fun o p z => by cases z⟩⟩)
    · simp only [hz] at e; cases e
  · rename_i x i
    obtain ⟨d, e1, e2⟩ := Option.map_eq_some_iff.mp e
    subst e2
    cases bY.int
    obtain ⟨p, vs, rfl, hl, r⟩ := bx.lst S
    obtain ⟨v, ev, rv⟩ := r.atI e1
    exact .inl ⟨p, vs, _, v, rfl, rfl, .of hl, ev, q _ H F .refl S ⟨rv, fun o p z => by cases z⟩⟩
  · rename_i x i
    obtain ⟨d, e1, e2⟩ := Option.map_eq_some_iff.mp e
    subst e2
    cases bY.int
    obtain ⟨p, vs, rfl, hl, r⟩ := bx.tup S
    obtain ⟨v, ev, rv⟩ := r.atI e1
    exact .inr (.inl ⟨p, vs, _, v, rfl, rfl, hl, ev, q _ H F .refl S ⟨rv, fun o p z => by cases z⟩⟩)
  · rename_i b ks x i
    have e : ixFx b ks x i = some s := e
    cases bY.int
    cases b <;> cases ks <;> first | (cases e; done) | skip
    · obtain ⟨d, e1, e2⟩ := Option.map_eq_some_iff.mp (show (L2.atI x i).map Slot.fr = some s from e)
      subst e2
      obtain ⟨p, vs, rfl, hl, r⟩ := bx.ro S
      obtain ⟨v, ev, rv⟩ := r.atI e1
      exact .inl ⟨p, vs, _, v, rfl, rfl, hl, ev, q _ H F .refl S ⟨rv, fun o p z => by cases z⟩⟩
    obtain ⟨d, e1, e2⟩ := Option.map_eq_some_iff.mp (show (L2.atI x i).map Slot.fr = some s from e)
    subst e2
    obtain ⟨p, vs, rfl, hl, r⟩ := bx.rcT S
    obtain ⟨v, ev, rv⟩ := r.atI e1
    exact .inr (.inl ⟨p, vs, _, v, rfl, rfl, hl, ev, q _ H F .refl S ⟨rv, fun o p z => by cases z⟩⟩)
end
end FL
namespace FL
open PySem L2
section
variable {X : Cx} {W : WX} {e a b o : Expr} {es : List Expr} {pos p apos : Pos}
def RLJ (X : Cx) (r : List V → Hp → VK → Prop) (g : List D → Option Slot) : Prop := ∀ Z F ρ μ δ σ H xs ds s Q, Sim X.K X.mg Z F ρ μ δ σ H → BorL X.K X.mg F ρ H xs ds → g ds = some s →
  (∀ v H' F', Le Z F F' → Sim X.K X.mg Z F' ρ μ δ σ H' → VR X.K X.mg Z F' ρ δ σ H' v s → Q v H') → r xs H Q
def mC (g : List D → Option Slot) (os : List Opn) : ME := fun δ μ => (evs os δ μ).bind fun rs δ1 μ1 => match OR.ats δ1 μ1 rs with
  | some ds => lift (g ds) δ1 μ1
  | none => .bad
theorem mC_read {r : List V → Hp → VK → Prop} {g : List D → Option Slot} {os : List Opn} (hr : RLJ X r g) : ∀ σ H Q, rdE X W (mC g os) σ H Q → tCB r (rdOs X W os) σ H Q := by
  intro σ H Q ⟨Z, F, ρ, μ, δ, S, q⟩
  refine ⟨Z, F, ρ, μ, δ, S, (FinE.bind q).imp fun rs δ1 μ1 H1 F1 ρ1 l lr S1 ⟨_, _, _, p⟩ xs hx => ?_⟩
  cases ea : OR.ats δ1 μ1 rs with
  | none => simp only [ea] at p; exact p.elim
  | some ds =>
    simp only [ea] at p
    unfold lift at p
    cases eg : g ds with
    | none => simp only [eg] at p; exact p.elim
    | some s =>
      simp only [eg] at p
      exact hr Z F1 ρ1 μ1 δ1 σ H1 xs ds s Q S1 (hx.bor S1 ea) eg fun v H' F' l' S' vr => p H' F' ρ1 l' .refl S' v vr
theorem je_callB {x : Str} {id : String} {r : List V → Hp → VK → Prop} {g : List D → Option Slot} {os : List Opn} (hc : CallR X (.builtin id) r) (hr : RLJ X r g) (hg : Gl X x) (hm : X.mg x = none) (hv : bootBuiltins x = some (.builtin id)) (ha : JOs X W (e :: es) os)
    (hn : x ≠ "__name__" := by decide) (hdb : (x == ("__debug__" : Str)) = false := by decide)
    (he : starEach (e :: es) X.env = (false, eval e X.env) :: starEach es X.env := by rfl) (hpl : (backTo pos (starEach es X.env)).any (·.1) = false := by rfl) : JE X W (.Call (.Name x p) (e :: es) [] pos) (mC g os) :=
  (pe_callB hc hg hm hv ha hn hdb he hpl).imp (mC_read hr)
theorem je_callTy {x : Str} {T : String} {r : List V → Hp → VK → Prop} {g : List D → Option Slot} {os : List Opn} (hc : CallR X (.type T) r) (hr : RLJ X r g) (hg : Gl X x) (hm : X.mg x = none) (hv : bootBuiltins x = some (.type T)) (ha : JOs X W (e :: es) os)
    (hn : x ≠ "__name__" := by decide) (hdb : (x == ("__debug__" : Str)) = false := by decide)
    (he : starEach (e :: es) X.env = (false, eval e X.env) :: starEach es X.env := by rfl) (hpl : (backTo pos (starEach es X.env)).any (·.1) = false := by rfl) : JE X W (.Call (.Name x p) (e :: es) [] pos) (mC g os) :=
  (pe_callTy hc hg hm hv ha hn hdb he hpl).imp (mC_read hr)
theorem RLJ.or {r r' : List V → Hp → VK → Prop} {g g' : List D → Option Slot} (h : RLJ X r g) (h' : RLJ X r' g') : RLJ X (fun x H Q => r x H Q ∨ r' x H Q) (fun x => (g x).or (g' x)) := by
  intro Z F ρ μ δ σ H xs ds s Q S b e q
  have e : (g ds).or (g' ds) = some s := e
  cases eg : g ds with
  | some s' => rw [eg] at e; exact .inl (h Z F ρ μ δ σ H xs ds s Q S b (by rw [eg]; exact e) q)
  | none => rw [eg] at e; exact .inr (h' Z F ρ μ δ σ H xs ds s Q S b e q)
theorem BorL.one {F H : Hp} {ρ : List Addr} {xs : List V} {d : D} (h : BorL X.K X.mg F ρ H xs [d]) : ∃ v, xs = [v] ∧ Bor X.K X.mg F ρ H v d := by
  cases h with
  | cons h t => cases t; exact ⟨_, rfl, h⟩
theorem BorL.two {F H : Hp} {ρ : List Addr} {xs : List V} {d d' : D} (h : BorL X.K X.mg F ρ H xs [d, d']) : ∃ v w, xs = [v, w] ∧ Bor X.K X.mg F ρ H v d ∧ Bor X.K X.mg F ρ H w d' := by
  cases h with
  | cons h t => obtain ⟨w, rfl, h'⟩ := t.one; exact ⟨_, w, rfl, h, h'⟩
theorem rl1_flat {r : List V → Hp → VK → Prop} {g : D → Option Slot} (h : ∀ Z F ρ μ δ σ H x dx s Q, Sim X.K X.mg Z F ρ μ δ σ H → Bor X.K X.mg F ρ H x dx → g dx = some s → ∃ v, (Q v H → r [x] H Q) ∧ ∃ d, s = .fr d ∧ Rep X.K X.mg F ρ v d) :
    RLJ X r (fun ds => match ds with | [d] => g d | _ => none) := by
  intro Z F ρ μ δ σ H xs ds s Q S b e q
  cases ds with
  | nil => cases e
  | cons d r' =>
    cases r' with
    | cons _ _ => cases e
    | nil =>
      obtain ⟨v, rfl, hb⟩ := b.one
      obtain ⟨w, h1, d', rfl, h2⟩ := h Z F ρ μ δ σ H v d s Q S hb e
      exact h1 (q w H F .refl S ⟨h2, fun o p z => by cases z⟩)
def gLen1 : D → Option Slot
  | .str x => if x.length ≤ 16777216 then some (.fr (.int x.length)) else none
  | .lst x => some (.fr (.int x.length))
  | .tup x => some (.fr (.int x.length))
  | .fx .ro [] x => some (.fr (.int x.length))
  | .fx .rc [] x => some (.fr (.int x.length))
  | _ => none
def gLen : List D → Option Slot := fun ds => match ds with
  | [d] => gLen1 d
  | _ => none
abbrev rLen (K : PySem.W.Frag) : List V → Hp → VK → Prop := fun xs H Q => ∃ x n, xs = [x] ∧ LenV K x H n ∧ Q (.int n) H
theorem j_len : RLJ X (rLen X.K) gLen := rl1_flat fun Z F ρ μ δ σ H x dx s Q S b e => by
  unfold gLen1 at e
  cases dx <;> first | (cases e; done) | skip
  · rename_i t
    cases b.str
    by_cases hz : t.length ≤ 16777216
    · simp only [hz, if_true] at e
      cases e
      exact ⟨.int (toS t).length, fun q => ⟨_, _, rfl, ⟨by rw [toS_len, line_eq]; exact hz, rfl⟩, q⟩, _, rfl, by rw [toS_len]; exact .int⟩
    · simp only [hz] at e; cases e
  · cases e
    obtain ⟨p, vs, rfl, h, r⟩ := b.lst S
    exact ⟨.int vs.length, fun q => ⟨_, _, rfl, .inl ⟨vs, .of h, rfl⟩, q⟩, _, rfl, by rw [r.len]; exact .int⟩
  · cases e
    obtain ⟨p, vs, rfl, h, r⟩ := b.tup S
    exact ⟨.int vs.length, fun q => ⟨_, _, rfl, .inr ⟨vs, h, rfl⟩, q⟩, _, rfl, by rw [r.len]; exact .int⟩
  · rename_i b' ks' x'
    cases b' <;> cases ks' <;> first | (cases e; done) | skip
    · cases e
      obtain ⟨p, vs, rfl, h, r⟩ := b.ro S
      exact ⟨.int vs.length, fun q => ⟨_, _, rfl, .inl ⟨vs, h, rfl⟩, q⟩, _, rfl, by rw [r.len]; exact .int⟩
    cases e
    obtain ⟨p, vs, rfl, h, r⟩ := b.rcT S
    exact ⟨.int vs.length, fun q => ⟨_, _, rfl, .inr ⟨vs, h, rfl⟩, q⟩, _, rfl, by rw [r.len]; exact .int⟩
theorem o_len : CallR X (.builtin "len") (rLen X.K) := call_len
def gMax2 : List D → Option Slot
  | [.int i, .int j] => some (.fr (.int (if j > i then j else i)))
  | _ => none
def gMin2 : List D → Option Slot
  | [.int i, .int j] => some (.fr (.int (if j < i then j else i)))
  | _ => none
theorem rl_ii {f : Int → Int → Int} {g : List D → Option Slot} (hg : ∀ ds s, g ds = some s → ∃ i j, ds = [.int i, .int j] ∧ s = .fr (.int (f i j))) : RLJ X (fun xs H Q => ∃ i j, xs = [.int i, .int j] ∧ Q (.int (f i j)) H) g := by
  intro Z F ρ μ δ σ H xs ds s Q S b e q
  obtain ⟨i, j, rfl, rfl⟩ := hg ds s e
  obtain ⟨v, w, rfl, h1, h2⟩ := b.two
  cases h1.int
  cases h2.int
  exact ⟨i, j, rfl, q _ H F .refl S ⟨.int, fun o p z => by cases z⟩⟩
theorem j_max2 : RLJ X (fun xs H Q => ∃ i j, xs = [V.int i, V.int j] ∧ Q (.int (if j > i then j else i)) H) gMax2 := rl_ii (f := fun i j => if j > i then j else i) fun ds s e => by
  unfold gMax2 at e
  split at e
  · cases e; exact ⟨_, _, rfl, rfl⟩
  · cases e
theorem j_min2 : RLJ X (fun xs H Q => ∃ i j, xs = [V.int i, V.int j] ∧ Q (.int (if j < i then j else i)) H) gMin2 := rl_ii (f := fun i j => if j < i then j else i) fun ds s e => by
  unfold gMin2 at e
  split at e
  · cases e; exact ⟨_, _, rfl, rfl⟩
  · cases e
def blsD : List D → Option (List Bool)
  | [] => some []
  | .bl i :: r => (blsD r).map (i :: ·)
  | _ :: _ => none
theorem blsD_map : ∀ {ds : List D} {ns : List Bool}, blsD ds = some ns → ds = ns.map .bl
  | [], ns, e => by cases e; rfl
  | d :: r, ns, e => by
    cases d <;> first | (cases e; done) | skip
    rename_i i
    unfold blsD at e
    obtain ⟨m, e1, e2⟩ := Option.map_eq_some_iff.mp e
    subst e2
    rw [blsD_map e1]; rfl
theorem blsD_of : ∀ ns : List Bool, blsD (ns.map .bl) = some ns
  | [] => rfl
  | n :: ns => by show (blsD (ns.map D.bl)).map (n :: ·) = _; rw [blsD_of ns]; rfl
def gAll : List D → Option Slot := fun ds => match ds with
  | [d] => match d with
    | .lst xs => (blsD xs).map fun ns => .fr (.bl (ns.all id))
    | _ => none
  | _ => none
theorem j_all : RLJ X (rAll X.K) gAll :=
  rl1_flat (g := fun d => match d with | .lst xs => (blsD xs).map fun ns => .fr (.bl (ns.all id)) | _ => none) fun Z F ρ μ δ σ H x dx s Q S b e => by
    cases dx <;> first | (cases e; done) | skip
    obtain ⟨ns, e1, e2⟩ := Option.map_eq_some_iff.mp e
    subst e2
    obtain ⟨p, vs, rfl, h, r⟩ := b.lst S
    rw [blsD_map e1] at r
    have ev := r.bls
    subst ev
    exact ⟨_, fun q => ⟨p, ns, rfl, .of h, q⟩, _, rfl, .bl⟩
def gTuple : List D → Option Slot
  | [.lst xs] => some (.fr (.tup xs))
  | [.tup xs] => some (.fr (.tup xs))
  | _ => none
abbrev rTuple (K : PySem.W.Frag) : List V → Hp → VK → Prop := fun xs H Q => ∃ p ys, xs = [.ref p] ∧ ((SqL K H p ys ∧ ∀ l, H l = none → Q (.ref l) (upd H l (.tup ys))) ∨ (SqT K H p ys ∧ Q (.ref p) H))
theorem j_tuple : RLJ X (rTuple X.K) gTuple := by
  intro Z F ρ μ δ σ H xs ds s Q S b e q
  unfold gTuple at e
  split at e
  · cases e
    obtain ⟨v, rfl, hb⟩ := b.one
    obtain ⟨p, vs, rfl, h, r⟩ := hb.lst S
    refine ⟨p, vs, rfl, .inl ⟨.of h, fun l hl => ?_⟩⟩
    obtain ⟨F', l', S', vr⟩ := vr_newT S hl r
    exact q _ _ F' l' S' vr
  · cases e
    obtain ⟨v, rfl, hb⟩ := b.one
    have rp := hb.rep fun o e => by cases o <;> cases e
    obtain ⟨p, vs, rfl, h, r⟩ := hb.tup S
    exact ⟨p, vs, rfl, .inr ⟨h, q _ H F .refl S ⟨rp, fun o p z => by cases z⟩⟩⟩
  · cases e
theorem o_tuple : CallR X (.type "tuple") (rTuple X.K) := call_tuple_of
def tyN : D → Option String
  | .non => some "NoneType"
  | .bl _ => some "bool"
  | .int _ => some "int"
  | .str _ => some "str"
  | .lst _ => some "list"
  | .tup _ => some "tuple"
  | .dct _ _ => some "dict"
  | .fx .rc [] _ => some "tuple"
  | .fx .df _ _ => some "dict"
  | _ => none
def gIsi : List D → Option Slot
  | [d, .ty T] => match tyN d with
    | some t => (kitB t T).map fun b => tb b
    | none => none
  | _ => none
theorem tyX_tup {H : Hp} {p : Addr} {vs : List V} (h : SqT X.K H p vs) : TyX X.K H (.ref p) (.type "tuple") := by
  rcases h with (h | ⟨ob, h⟩) | ⟨o, its, n, hk, hc, _⟩
  · exact .base (.tup h)
  · exact .fTuple h
  · exact .kTuple hk hc
theorem tyX_of {Z F H : Hp} {ρ : List Addr} {μ : Mem} {δ : Loc} {σ : St} {v : V} {d : D} {t : String} (S : Sim X.K X.mg Z F ρ μ δ σ H) (h : Bor X.K X.mg F ρ H v d) (e : tyN d = some t) : TyX X.K H v (.type t) := by
  cases d <;> first | (cases e; done) | skip
  · cases e; cases h.non; exact .base .non
  · cases e; cases h.bl; exact .base (.bl _)
  · cases e; cases h.int; exact .base (.int _)
  · cases e; cases h.str; exact .base (.str _)
  · cases e; obtain ⟨p, vs, rfl, q, _⟩ := h.lst S; exact .base (.lst q)
  · cases e; obtain ⟨p, vs, rfl, q, _⟩ := h.tup S; exact tyX_tup q
  · rename_i b' ks' x'
    cases b' <;> first | (cases e; done) | skip
    · cases ks' <;> first | (cases e; done) | skip
      cases e; obtain ⟨p, vs, rfl, q, _⟩ := h.rcT S; exact tyX_tup q
    · cases e; obtain ⟨p, o, vs, rfl, _, q, _⟩ := h.dcf S; exact .fDict q
  · cases e
    obtain ⟨p, vs, rfl, q, _⟩ := h.dct S
    rcases q with q | ⟨ob, q⟩
    · exact .base (.dK q)
    · exact .fDict q
theorem j_isi : RLJ X (rIsi X.K) gIsi := by
  intro Z F ρ μ δ σ H xs ds s Q S b e q
  unfold gIsi at e
  split at e
  · rename_i d T
    cases et : tyN d with
    | none => simp only [et] at e; cases e
    | some t =>
      simp only [et] at e
      obtain ⟨k, e1, e2⟩ := Option.map_eq_some_iff.mp e
      subst e2
      obtain ⟨v, w, rfl, h1, h2⟩ := b.two
      cases h2.ty
      exact ⟨v, _, _, _, k, rfl, .ty T, tyX_of S h1 et, kit_ty e1, q _ H F .refl S .bl⟩
  · cases e
def isTy (T : String) : D → Bool
  | .str _ => T == "str"
  | .lst _ => T == "list"
  | _ => false
def RMJ (X : Cx) (r : V → List V → Hp → VK → Prop) (g : D → List D → Option Slot) : Prop := ∀ Z F ρ μ δ σ H x xs dx ds s Q, Sim X.K X.mg Z F ρ μ δ σ H → Bor X.K X.mg F ρ H x dx → BorL X.K X.mg F ρ H xs ds → g dx ds = some s →
  (∀ v H' F', Le Z F F' → Sim X.K X.mg Z F' ρ μ δ σ H' → VR X.K X.mg Z F' ρ δ σ H' v s → Q v H') → r x xs H Q
def mM (T : String) (g : D → List D → Option Slot) (o : Opn) (os : List Opn) : ME := fun δ μ => (o.ev δ μ).bind fun r δ1 μ1 => match r.at δ1 μ1 with
  | some d0 => if isTy T d0 = true then (evs os δ1 μ1).bind fun rs δ2 μ2 => match r.at δ2 μ2, OR.ats δ2 μ2 rs with
      | some d, some ds => lift (g d ds) δ2 μ2
      | _, _ => .bad
    else .bad
  | none => .bad
theorem isTy_V {Z F H : Hp} {ρ : List Addr} {μ : Mem} {δ : Loc} {σ : St} {v : V} {d : D} {T : String} (S : Sim X.K X.mg Z F ρ μ δ σ H) (h : Bor X.K X.mg F ρ H v d) (e : isTy T d = true) : tyV X.K T v H := by
  cases d <;> first | (cases e; done) | skip
  · have e' : (T == "str") = true := e
    cases h.str
    exact beq_iff_eq.mp e'
  · have e' : (T == "list") = true := e
    obtain ⟨p, vs, rfl, q, _⟩ := h.lst S
    exact .inl ⟨beq_iff_eq.mp e', vs, .of q⟩
theorem mM_read {T : String} {r : V → List V → Hp → VK → Prop} {g : D → List D → Option Slot} {oo : Opn} {os : List Opn} (hr : RMJ X r g) : ∀ σ H Q, rdE X W (mM T g oo os) σ H Q → tBM X.K T r (rdO X W oo) (rdOs X W os) σ H Q := by
  intro σ H Q ⟨Z, F, ρ, μ, δ, S, q⟩
  refine ⟨Z, F, ρ, μ, δ, S, (FinE.bind q).imp fun ra δ1 μ1 H1 F1 ρ1 l lr S1 ⟨_, _, _, p⟩ x hx => ?_⟩
  cases e0 : ra.at δ1 μ1 with
  | none => simp only [e0] at p; exact p.elim
  | some d0 =>
    simp only [e0] at p
    by_cases ht : isTy T d0 = true
    · rw [if_pos ht] at p
      refine ⟨isTy_V S1 (hx.bor S1 e0) ht, Z, F1, ρ1, μ1, δ1, S1, p.bind.imp fun rs δ2 μ2 H2 F2 ρ2 l2 lr2 S2 ⟨_, _, _, p2⟩ xs hxs => ?_⟩
      cases ea : ra.at δ2 μ2 with
      | none => simp only [ea] at p2; exact p2.elim
      | some d =>
        cases eb : OR.ats δ2 μ2 rs with
        | none => simp only [ea, eb] at p2; exact p2.elim
        | some ds =>
          simp only [ea, eb] at p2
          unfold lift at p2
          cases eg : g d ds with
          | none => simp only [eg] at p2; exact p2.elim
          | some s =>
            simp only [eg] at p2
            exact hr Z F2 ρ2 μ2 δ2 σ H2 x xs d ds s Q S2 ((hx.up l2 lr2).bor S2 ea) (hxs.bor S2 eb) eg fun v H' F' l' S' vr => p2 H' F' ρ2 l' .refl S' v vr
    · rw [if_neg ht] at p; exact p.elim
theorem je_bm0 {T id : String} {name : Str} {r : V → List V → Hp → VK → Prop} {g : D → List D → Option Slot} {oo : Opn} (pa : PlainAttrs T) (slot : PySem.Slot T name id) (hty : typeOf (.builtin id) = pure (.type "method_descriptor")) (hm : MtR X id r) (hr : RMJ X r g) (ho : JO X W o oo)
    (hbase : attributeBase o name X.env (eval o X.env) = eval o X.env := by rfl) (hline : (apos.endLine == pos.line) = true := by rfl) :
    JE X W (.Call (.Attribute o name apos) [] [] pos) (mM T g oo []) := by
  refine (pe_bm0 pa slot hty hm ho hbase hline).imp fun σ H Q h => ?_
  obtain ⟨Z, F, ρ, μ, δ, S, q⟩ := mM_read hr σ H Q h
  refine ⟨Z, F, ρ, μ, δ, S, q.imp fun ra δ1 μ1 H1 F1 ρ1 l lr S1 p x hx => ?_⟩
  obtain ⟨ty, Z2, F2, ρ2, μ2, δ2, S2, q2⟩ := p x hx
  exact ⟨ty, q2 H1 F2 ρ2 .refl .refl S2 [] .nil⟩
def gLower : D → List D → Option Slot
  | .str x, [] => if x.all (· < 128) && decide (x.length ≤ 5592405) then some (.fr (.str (x.map PyProof.Rows.lo1))) else none
  | _, _ => none
theorem lower_tx {x : Tx} (h : x.all (· < 128) = true) : Txt.lower (toS x) = toS (x.map PyProof.Rows.lo1) := by
  rw [PyProof.Rows.lower_ascii fun c hc => of_decide_eq_true (List.all_eq_true.mp h c hc)]
  simp [toS]
theorem BorL.nil_of {F H : Hp} {ρ : List Addr} {xs : List V} (h : BorL X.K X.mg F ρ H xs []) : xs = [] := by cases h; rfl
theorem j_lower : RMJ X (fun x xs H Q => ∃ a, x = .str a ∧ xs = [] ∧ a.length ≤ 5592405 ∧ Q (.str (Txt.lower a)) H) gLower := by
  intro Z F ρ μ δ σ H x xs dx ds s Q S bx bs e q
  unfold gLower at e
  split at e
  · rename_i t
    by_cases h : (t.all (· < 128) && decide (t.length ≤ 5592405)) = true
    · rw [if_pos h] at e
      cases e
      have h' := Bool.and_eq_true_iff.mp h
      cases bx.str
      exact ⟨_, rfl, bs.nil_of, by rw [toS_len]; exact of_decide_eq_true h'.2, by rw [lower_tx h'.1]; exact q _ H F .refl S ⟨.str, fun o p z => by cases z⟩⟩
    · rw [if_neg h] at e; cases e
  · cases e
end
end FL
namespace FL
open PySem L2
section
variable {K : PySem.W.Frag} {mg : Str → Option Value} {Z F F' : Hp} {ρ ρ' : List Addr} {μ : Mem} {δ : Loc} {σ : St} {H H' : Hp} {p : Addr} {o : HO} {v : V} {s : Slot}
def Held (δ : Loc) (σ : St) (p : Addr) : Prop := ∃ (i : Nat) (s : Own), δ[i]? = some (some (.own s)) ∧ σ[i]? = some (some (.ref p))
open Classical in
noncomputable def zone (Z H : Hp) (δ : Loc) (σ : St) : Hp := fun p => if Held δ σ p then H p else Z p
theorem zone_in (h : Held δ σ p) : zone Z H δ σ p = H p := if_pos h
theorem zone_out (h : ¬ Held δ σ p) : zone Z H δ σ p = Z p := if_neg h
theorem Sim.held (S : Sim K mg Z F ρ μ δ σ H) (h : Held δ σ p) : Free Z F ρ p ∧ ∃ o, H p = some o := by
  obtain ⟨i, c, e1, e2⟩ := h
  obtain ⟨w, e3, q, ev, f1, r⟩ := S.slot i _ e1
  rw [e2] at e3; cases e3; cases ev
  exact ⟨f1, r.some⟩
theorem Sim.zone_none (S : Sim K mg Z F ρ μ δ σ H) (h : zone Z H δ σ p = none) : ¬ Held δ σ p ∧ Z p = none := by
  by_cases c : Held δ σ p
  · rw [zone_in c] at h
    obtain ⟨_, o, e⟩ := S.held c
    rw [e] at h; cases h
  · rw [zone_out c] at h; exact ⟨c, h⟩
theorem Sim.enter (S : Sim K mg Z F ρ μ δ σ H) : Sim K mg (zone Z H δ σ) F ρ μ [] [] H := by
  refine ⟨S.le, fun q u h => ?_, rfl, fun i s e => by simp at e, fun i j p s s' e => by simp at e, fun k c e => ?_, S.mlen, S.nod⟩
  · by_cases c : Held δ σ q
    · rw [zone_in c] at h; exact h
    · rw [zone_out c] at h; exact S.zk q u h
  · obtain ⟨a, e1, f1, f2, r⟩ := S.mem k c e
    refine ⟨a, e1, f1, ?_, r⟩
    rw [zone_out fun h => (S.held h).1.r (List.mem_of_getElem? e1)]
    exact f2
theorem Sim.leLeave (S : Sim K mg Z F ρ μ δ σ H) (l : Le (zone Z H δ σ) F F') : Le Z F F' := ⟨l.to, fun q u h => (l.new q u h).elim .inl fun z => .inr (S.zone_none z).2⟩
theorem Sim.leRLeave (S : Sim K mg Z F ρ μ δ σ H) (l : LeR (zone Z H δ σ) ρ ρ') : LeR Z ρ ρ' := ⟨l.to, fun q h => (l.new q h).elim .inl fun z => .inr (S.zone_none z).2⟩
theorem Sim.leave {μ' : Mem} (S : Sim K mg Z F ρ μ δ σ H) (S1 : Sim K mg (zone Z H δ σ) F' ρ' μ' [] [] H') (l : Le (zone Z H δ σ) F F') (lr : LeR (zone Z H δ σ) ρ ρ') : Sim K mg Z F' ρ' μ' δ σ H' := by
  refine ⟨S1.le, fun q u h => S1.zk q u ?_, S.len, fun i t e => ?_, S.apart, fun k c e => ?_, S1.mlen, S1.nod⟩
  · rw [zone_out fun c => by rw [(S.held c).1.z] at h; cases h]; exact h
  · obtain ⟨w, e1, r⟩ := S.slot i t e
    refine ⟨w, e1, ?_⟩
    cases t with
    | fr d => exact Rep.up l.to lr.to r
    | own c =>
      obtain ⟨q, ev, f1, r⟩ := r
      subst ev
      have hq : Held δ σ q := ⟨i, c, e, e1⟩
      obtain ⟨o, eo⟩ := r.some
      have z1 : zone Z H δ σ q = some o := by rw [zone_in hq]; exact eo
      refine ⟨q, rfl, ⟨?_, f1.z, fun hm => ?_⟩, r.up l.to lr.to (by rw [S1.zk q o z1, eo])⟩
      · cases e2 : F' q with
        | none => rfl
        | some u =>
          rcases l.new q u e2 with h | h
          · rw [f1.f] at h; cases h
          · rw [z1] at h; cases h
      · rcases lr.new q hm with h | h
        · exact f1.r h
        · rw [z1] at h; cases h
  · obtain ⟨a, e1, f1, f2, r⟩ := S1.mem k c e
    exact ⟨a, e1, f1, (S.zone_none f2).2, r⟩
theorem Sim.came (S : Sim K mg Z F ρ μ δ σ H) (h : SlotR K mg (zone Z H δ σ) F' ρ' H' v s) : VR K mg Z F' ρ' δ σ H' v s := by
  cases s with
  | fr d => exact ⟨h, fun o p z => by cases z⟩
  | own c =>
    obtain ⟨q, ev, f1, r⟩ := h
    obtain ⟨n1, n2⟩ := S.zone_none f1.z
    refine ⟨⟨q, ev, ⟨f1.f, n2, f1.r⟩, r⟩, fun o p z1 z2 i o' e1 e2 => ?_⟩
    rw [ev] at z2; cases z2
    exact n1 ⟨i, o', e1, e2⟩
end
def OutS.loop (r : OutS) (k : MS) : OutS :=
  match r with
  | .nx δ μ => k δ μ
  | .ct δ μ => k δ μ
  | .bk δ μ => .nx δ μ
  | .rt s μ => .rt s μ
  | .exc x δ μ => .exc x δ μ
  | .bad => .bad
abbrev JSs (X : Cx) (W : WX) (s : List Stmt) (m : MS) : Prop := PSs X s (rdS X W m)
section
variable {X : Cx} {W : WX} {Z F F1 : Hp} {ρ ρ1 : List Addr} {D : Ends} {σ : St} {H : Hp} {μ : Mem} {δ : Loc}
theorem FinS.loop {r : OutS} {k : MS} {N : St → Hp → Prop} (h : FinS X W Z F ρ D (r.loop k)) (hN : ∀ σ' H' F' ρ' μ δ, Le Z F F' → LeR Z ρ ρ' → Sim X.K X.mg Z F' ρ' μ δ σ' H' → FinS X W Z F' ρ' D (k δ μ) → N σ' H') :
    FinS X W Z F ρ { D with nx := N, ct := N, bk := D.nx } r := by
  cases r with
  | nx δ μ => exact fun σ' H' F' ρ' l lr S => hN σ' H' F' ρ' μ δ l lr S (FinS.mono h l lr)
  | ct δ μ => exact fun σ' H' F' ρ' l lr S => hN σ' H' F' ρ' μ δ l lr S (FinS.mono h l lr)
  | bk δ μ => exact h
  | rt s μ => exact h
  | exc x δ μ => exact h
  | bad => exact h
variable {st : Stmt} {sts rest : List Stmt} {e : Expr} {pos : Pos}
def mPass : MS := fun δ μ => .nx δ μ
def mSeq (m n : MS) : MS := fun δ μ => (m δ μ).seq n
theorem jss_nil : JSs X W [] mPass := pss_nil.imp fun D σ H ⟨Z, F, ρ, μ, δ, S, q⟩ => q.nx S
theorem jss_cons {m n : MS} (h : JS X W st m) (t : JSs X W rest n) : JSs X W (st :: rest) (mSeq m n) :=
  (pss_cons h t).imp fun D σ H ⟨Z, F, ρ, μ, δ, S, q⟩ => ⟨Z, F, ρ, μ, δ, S, FinS.seq q⟩
theorem jss_one {m : MS} (h : JS X W st m) : JSs X W [st] m := pss_one h
def mBad : MS := fun _ _ => .bad
theorem js_never : JS X W st mBad := ps_never.imp fun D σ H ⟨Z, F, ρ, μ, δ, S, q⟩ => q
def mEx (m : ME) : MS := fun δ μ => (m δ μ).thn fun _ δ1 μ1 => .nx δ1 μ1
theorem js_expr {m : ME} (he : JE X W e m) (hs : swapsWith e none pos.line X.env = pure false := by rfl) : JS X W (.Expr e pos) (mEx m) :=
  (ps_expr he hs).imp fun D σ H ⟨Z, F, ρ, μ, δ, S, q⟩ => ⟨Z, F, ρ, μ, δ, S, (FinS.thn q).imp fun a δ1 μ1 H1 F1 ρ1 l lr S1 ⟨_, p⟩ v vr => p.nx S1⟩
def mRet (m : ME) : MS := fun δ μ => (m δ μ).thn fun s _ μ1 => .rt s μ1
theorem js_ret {m : ME} (he : JE X W e m) : JS X W (.Return (some e) pos) (mRet m) :=
  (ps_ret he).imp fun D σ H ⟨Z, F, ρ, μ, δ, S, q⟩ => ⟨Z, F, ρ, μ, δ, S, (FinS.thn q).imp fun a δ1 μ1 H1 F1 ρ1 l lr S1 ⟨_, p⟩ v vr => p v H1 F1 ρ1 .refl .refl S1.drop vr.r⟩
def mIfS (t : MT) (m n : MS) : MS := fun δ μ => (t δ μ).thn fun b δ1 μ1 => if b = true then m δ1 μ1 else n δ1 μ1
theorem js_if {c : Expr} {a b : List Stmt} {t : MT} {m n : MS} (hc : JT X W c t) (ha : JSs X W a m) (hb : JSs X W b n) : JS X W (.If c a b pos) (mIfS t m n) := by
  refine (ps_if hc ha hb).imp fun D σ H ⟨Z, F, ρ, μ, δ, S, q⟩ => ⟨Z, F, ρ, μ, δ, S, (FinS.thn q).imp fun b δ1 μ1 H1 F1 ρ1 l lr S1 ⟨_, p⟩ => ?_⟩
  cases b with
  | true => exact ⟨Z, F1, ρ1, μ1, δ1, S1, p⟩
  | false => exact ⟨Z, F1, ρ1, μ1, δ1, S1, p⟩
end
end FL
namespace FL
open PySem L2
section
variable {X : Cx} {W : WX} {e a b : Expr} {es : List Expr} {pos : Pos}
abbrev TgsF := List D → Loc → Option Loc
def rdGs (X : Cx) (f : TgsF) (is : List Nat) : TGs := fun vs σ H Q => ∃ Z F ρ μ δ ds, Sim X.K X.mg Z F ρ μ δ σ H ∧ RepL X.K X.mg F ρ vs ds ∧ ∃ δ', f ds δ = some δ' ∧
  ∀ σ', (∀ j : Nat, j ∉ is → σ'[j]? = σ[j]?) → σ'.length = σ.length → Sim X.K X.mg Z F ρ μ δ' σ' H → Q σ' H
abbrev JGs (X : Cx) (e : List Expr) (f : TgsF) (is : List Nat) : Prop := PGs X e (rdGs X f is)
def tgN : TgsF := fun ds δ => match ds with
  | [] => some δ
  | _ => none
def tgC (f : TgF) (g : TgsF) : TgsF := fun ds δ => match ds with
  | d :: r => match f d δ with
    | some δ' => g r δ'
    | none => none
  | [] => none
theorem jgs_nil : JGs X [] tgN [] := pgs_nil.imp fun vs σ H Q ⟨Z, F, ρ, μ, δ, ds, S, r, δ', e1, q⟩ => by
  unfold tgN at e1
  cases ds with
  | cons _ _ => cases e1
  | nil =>
    cases e1
    cases r
    exact ⟨rfl, q _ (fun _ _ => rfl) rfl S⟩
theorem jgs_cons {f : TgF} {g : TgsF} {is js : List Nat} (h : JG X e f is) (t : JGs X es g js) (hs : (assignEach (e :: es) X.env).map (·.2) = assign e X.env :: (assignEach es X.env).map (·.2) := by rfl) : JGs X (e :: es) (tgC f g) (is ++ js) :=
  (pgs_cons h t hs).imp fun vs σ H Q ⟨Z, F, ρ, μ, δ, ds, S, r, δ', e1, q⟩ => by
    unfold tgC at e1
    cases r with
    | nil => cases e1
    | @cons v d vs ds h1 t1 =>
      simp only at e1
      cases ef : f d δ with
      | none => rw [ef] at e1; cases e1
      | some δ1 =>
        rw [ef] at e1
        refine ⟨v, vs, rfl, Z, F, ρ, μ, δ, d, S, h1, δ1, ef, fun σ1 k1 l1 S1 => ⟨Z, F, ρ, μ, δ1, ds, S1, t1, δ', e1, fun σ2 k2 l2 S2 => q σ2 (fun j hj => ?_) (l2.trans l1) S2⟩⟩
        rw [k2 j (fun z => hj (List.mem_append_right _ z)), k1 j (fun z => hj (List.mem_append_left _ z))]
def tgT (n : Nat) (g : TgsF) : TgF := fun d δ => match d with
  | .tup ds => if ds.length = n then g ds δ else none
  | _ => none
theorem jg_t {k : Nat} {g : TgsF} {is : List Nat} {n : Nat} (hc : X.calm = true) (h : JGs X es g is) (hn : (assignEach es X.env).length = n := by rfl) (hst : (assignEach es X.env).findIdx? (·.1) = none := by rfl) : JG X (.Tuple es k pos) (tgT n g) is :=
  (pg_tup hc h hn hst).imp fun v σ H Q ⟨Z, F, ρ, μ, δ, d, S, r, δ', e1, q⟩ => by
    unfold tgT at e1
    cases d <;> first | (cases e1; done) | skip
    rename_i ds
    by_cases hl : ds.length = n
    · simp only [hl, if_true] at e1
      obtain ⟨p, vs, rfl, hq, rl⟩ := Bor.tup S (Bor.fr r)
      exact ⟨p, vs, rfl, hq, by rw [rl.len]; exact hl, Z, F, ρ, μ, δ, ds, S, rl, δ', e1, q⟩
    · simp only [hl] at e1; cases e1
theorem itr_list {F : Hp} {ρ : List Addr} {p : Addr} {vs : List V} {ds : List D} (hq : ∀ Z' F' ρ' μ δ σ H, (∀ p o, F p = some o → F' p = some o) → Sim X.K X.mg Z' F' ρ' μ δ σ H → SqL X.K H p vs) (r : RepL X.K X.mg F ρ vs ds) : ItR X F ρ (Itl X.K p) ds := by
  intro Z' F' ρ' μ δ σ H i to tr S
  have q := hq Z' F' ρ' μ δ σ H to S
  refine ⟨fun hl => ⟨vs, q, by rw [r.len]; exact hl⟩, fun d hd => ?_⟩
  obtain ⟨v, hv, rv⟩ := r.get hd
  refine ⟨⟨vs, v, q, hv⟩, fun x H' y => ?_⟩
  obtain ⟨rfl, y⟩ := y
  have := y vs q
  rw [hv] at this; cases this
  exact ⟨F', .refl, S, rv.up to tr⟩
theorem itr_tup {F : Hp} {ρ : List Addr} {p : Addr} {vs : List V} {ds : List D} (hq : ∀ Z' F' ρ' μ δ σ H, (∀ p o, F p = some o → F' p = some o) → Sim X.K X.mg Z' F' ρ' μ δ σ H → SqT X.K H p vs) (r : RepL X.K X.mg F ρ vs ds) : ItR X F ρ (Itt X.K p) ds := by
  intro Z' F' ρ' μ δ σ H i to tr S
  have q := hq Z' F' ρ' μ δ σ H to S
  refine ⟨fun hl => ⟨vs, q, by rw [r.len]; exact hl⟩, fun d hd => ?_⟩
  obtain ⟨v, hv, rv⟩ := r.get hd
  refine ⟨⟨vs, v, q, hv⟩, fun x H' y => ?_⟩
  obtain ⟨rfl, y⟩ := y
  have := y vs q
  rw [hv] at this; cases this
  exact ⟨F', .refl, S, rv.up to tr⟩
def chars (x : Tx) : List D := x.map fun c => .str [c]
theorem itr_str {F : Hp} {ρ : List Addr} {x : Tx} : ItR X F ρ (Its (toS x)) (chars x) := by
  intro Z' F' ρ' μ δ σ H i to tr S
  refine ⟨fun hl => ?_, fun d hd => ?_⟩
  · show (toS x).cps.size ≤ i
    simpa [chars, toS] using hl
  · obtain ⟨c, hc, rfl⟩ : ∃ c, x[i]? = some c ∧ D.str [c] = d := by
      unfold chars at hd
      rw [List.getElem?_map] at hd
      cases e : x[i]? with
      | none => rw [e] at hd; cases hd
      | some c => rw [e] at hd; exact ⟨c, rfl, by injection hd⟩
    have hi : i < x.length := (List.getElem?_eq_some_iff.mp hc).1
    have hc2 : (toS x).cps[i]? = some c := by simpa [toS] using hc
    refine ⟨by show i < (toS x).cps.size; simpa [toS] using hi, fun v H' y => ?_⟩
    obtain ⟨rfl, c', e', rfl⟩ := y
    have e2 : some c' = some c := e'.symm.trans hc2
    cases e2
    exact ⟨F', .refl, S, Rep.str (x := [c])⟩
def itA : D → Option (List D)
  | .lst xs => some xs
  | .fx .ro [] xs => some xs
  | .fx .rc [] xs => some xs
  | .tup xs => some xs
  | .str x => some (chars x)
  | _ => none
abbrev iAny (K : PySem.W.Frag) (te : TE) : TI := fun σ H R => te σ H fun v H1 => (∃ a, v = .ref a ∧ (∃ xs, SqL K H1 a xs) ∧ R (Itl K a) H1) ∨ (∃ a, v = .ref a ∧ (∃ xs, SqT K H1 a xs) ∧ R (Itt K a) H1) ∨ ∃ x, v = .str x ∧ R (Its x) H1
theorem pi_any {tg : Expr} {te : TE} (he : PE X e te) : PI X tg e (iAny X.K te) := by
  refine ⟨fun pins s σ H R I h => thn (he.run pins s σ H _ I h) fun v s1 ⟨y, H1, I1, r1, q⟩ => ?_⟩
  rcases q with ⟨a, rfl, ⟨xs, hq⟩, q⟩ | ⟨a, rfl, ⟨xs, hq⟩, q⟩ | ⟨x, rfl, q⟩
  · cases r1
    obtain ⟨vals, _, isl, _⟩ := I1.list hq
    exact wpAny_pyIter_list isl.isList (pi_one (tk := s1.toks) I1 _ (turn_list a _) ⟨_, Heap.get?_push_size _ rfl, rfl, rfl⟩ q)
  · cases r1
    obtain ⟨vals, _, ist, _⟩ := I1.tuple hq
    exact wpAny_pyIter_tuple (show s1.heap.IsTuple a vals.toArray from ist) (pi_one (tk := s1.toks) I1 _ (turn_tuple a _) ⟨_, Heap.get?_push_size _ rfl, rfl, rfl⟩ q)
  · obtain ⟨t, rfl⟩ := r1
    cases hw : x.cps.all (· < 128)
    · exact wpAny_pyIter_wide hw (pi_one (tk := s1.toks) I1 _ (turn_str _ x t "str_iterator" (Or.inr rfl)) ⟨_, Heap.get?_push_size _ rfl, rfl, rfl⟩ q)
    · exact wpAny_pyIter_ascii hw (pi_one (tk := s1.toks) I1 _ (turn_str _ x t "str_ascii_iterator" (Or.inl rfl)) ⟨_, Heap.get?_push_size _ rfl, rfl, rfl⟩ q)
def mIt (m : ME) : MM (List D) := fun δ μ => (m δ μ).bind fun s δ1 μ1 => match itA s.d with
  | some ds => .ok ds δ1 μ1
  | none => .bad
theorem Sim.frozen {K : PySem.W.Frag} {mg : Str → Option Value} {Z F H : Hp} {ρ : List Addr} {μ : Mem} {δ : Loc} {σ : St} {p : Addr} {vs : List V} (S : Sim K mg Z F ρ μ δ σ H) (h : F p = some (.lst vs)) : H p = some (.lst vs) := by
  rcases S.le _ _ h with q | ⟨ob, kvs, e, q⟩
  · exact q
  · cases e
theorem ji_any {tg : Expr} {m : ME} (he : JE X W e m) : JI X W tg e (mIt m) := by
  refine (pi_any he.locked).imp fun σ H R ⟨Z, F, ρ, μ, δ, S, q⟩ => ⟨Z, F, ρ, μ, δ, S, (FinE.bind q).imp fun s δ1 μ1 H1 F1 ρ1 l lr S1 ⟨_, _, _, p⟩ v r => ?_⟩
  cases ea : itA s.d with
  | none => simp only [ea] at p; exact p.elim
  | some ds =>
    simp only [ea] at p
    have p' := p H1 F1 ρ1 .refl .refl S1
    unfold itA at ea
    generalize s.d = d at ea r
    cases d <;> first | (cases ea; done) | skip
    · cases ea
      cases (Bor.fr (H := H1) r).str
      exact .inr (.inr ⟨_, rfl, p' _ itr_str⟩)
    · cases ea
      cases r with
      | @lst a vs _ h r =>
        exact .inl ⟨a, rfl, ⟨vs, .of (S1.frozen h)⟩, p' _ (itr_list (fun Z' F' ρ' μ δ σ H to S => .of (S.frozen (to _ _ h))) r)⟩
    · cases ea
      cases r with
      | @tup a vs _ h r =>
        exact .inr (.inl ⟨a, rfl, ⟨vs, h.elim (fun h => .inl (S1.rd h)) .inr⟩, p' _ (itr_tup (fun Z' F' ρ' μ δ σ H to S => h.elim (fun h => .inl (S.rd (Rd.up to h))) .inr) r)⟩)
    · rename_i b' ks' x'
      cases b' <;> cases ks' <;> first | (cases ea; done) | skip
      · cases ea
        cases r with
        | @ro a vs _ h r =>
          exact .inl ⟨a, rfl, ⟨vs, h.elim (fun h => .inl (S1.rd h)) .inr⟩, p' _ (itr_list (fun Z' F' ρ' μ δ σ H to S => h.elim (fun h => .inl (S.rd (Rd.up to h))) .inr) r)⟩
      cases ea
      cases r with
      | @rc o a vs _ h hd r =>
        exact .inr (.inl ⟨a, rfl, ⟨vs, .inl (S1.rd (.inr ⟨o, h⟩))⟩, p' _ (itr_tup (fun Z' F' ρ' μ δ σ H to S => .inl (S.rd (Rd.up to (.inr ⟨o, h⟩)))) r)⟩)
def rangeD (lo : Int) (n : Nat) : List D := (List.range n).map fun i => .int (lo + (i : Nat))
theorem itr_range {F : Hp} {ρ : List Addr} {lo : Int} {n : Nat} : ItR X F ρ (Itr lo n) (rangeD lo n) := by
  intro Z' F' ρ' μ δ σ H i to tr S
  refine ⟨fun hl => ?_, fun d hd => ?_⟩
  · show n ≤ i
    simpa [rangeD] using hl
  · unfold rangeD at hd
    rw [List.getElem?_map] at hd
    by_cases hi : i < n
    · rw [List.getElem?_range hi] at hd
      cases hd
      refine ⟨hi, fun x H' y => ?_⟩
      obtain ⟨rfl, rfl⟩ := y
      exact ⟨F', .refl, S, .int⟩
    · rw [List.getElem?_eq_none (by simp; omega)] at hd; cases hd
def mRange1 (o : Opn) : MM (List D) := fun δ μ => (evs [o] δ μ).bind fun rs δ1 μ1 => match OR.ats δ1 μ1 rs with
  | some [.int j] => if -(2 ^ 62) ≤ j ∧ j < 2 ^ 62 then .ok (rangeD 0 j.toNat) δ1 μ1 else .bad
  | _ => .bad
theorem ji_range1 {tg : Expr} {o : Opn} {p : Pos} (hg : Gl X "range") (hm : X.mg "range" = none) (ha : JOs X W [a] [o]) (hs : starEach [a] X.env = [(false, eval a X.env)] := by rfl) : JI X W tg (.Call (.Name "range" p) [a] [] pos) (mRange1 o) := by
  refine (pi_range1 hg hm ha hs).imp fun σ H R ⟨Z, F, ρ, μ, δ, S, q⟩ => ⟨Z, F, ρ, μ, δ, S, (FinE.bind q).imp fun rs δ1 μ1 H1 F1 ρ1 l lr S1 ⟨_, _, _, p⟩ vs hv => ?_⟩
  split at p
  · rename_i j ej
    obtain ⟨v, rfl, hb⟩ := (hv.bor S1 ej).one
    cases hb.int
    by_cases c : -(2 ^ 62) ≤ j ∧ j < 2 ^ 62
    · rw [if_pos c] at p
      exact ⟨j, rfl, c.1, c.2, p H1 F1 ρ1 .refl .refl S1 _ itr_range⟩
    · rw [if_neg c] at p; exact p.elim
  · exact p.elim
def turnD (f : TgF) (m : MS) : D → MS := fun d δ μ => match f d δ with
  | some δ' => m δ' μ
  | none => .bad
def forD (g : D → MS) : List D → MS
  | [] => fun δ μ => .nx δ μ
  | d :: ds => fun δ μ => (g d δ μ).loop (forD g ds)
def mFor (mi : MM (List D)) (f : TgF) (m : MS) : MS := fun δ μ => (mi δ μ).thn fun ds δ1 μ1 => forD (turnD f m) ds δ1 μ1
theorem js_for {tg iter : Expr} {body : List Stmt} {mi : MM (List D)} {f : TgF} {is : List Nat} {m : MS} (hp : PassesOwn (model X.prog X.w) X.A X.env X.xe) (hc : X.calm = true) (hi : JI X W tg iter mi) (hg : JG X tg f is) (hb : JSs X W body m)
    (hs : ∀ x, foldedSetIterable iter X.env x = pure x := by intro _; rfl) : JS X W (.For tg iter body [] pos) (mFor mi f m) := by
  refine (ps_for hp hc hi hg hb hs).imp fun E σ H ⟨Z, F, ρ, μ, δ, S, q⟩ => ⟨Z, F, ρ, μ, δ, S, (FinS.thn q).imp fun ds δ1 μ1 H1 F1 ρ1 l lr S1 ⟨_, p⟩ J hJ => ?_⟩
  let Wd : Nat → Nat → St → Hp → Prop := fun i k σ H => k = ds.length - i ∧ i ≤ ds.length ∧ ∃ F' ρ' μ δ, (∀ p o, F1 p = some o → F' p = some o) ∧ (∀ (k : Nat) p, ρ1[k]? = some p → ρ'[k]? = some p) ∧ Sim X.K X.mg Z F' ρ' μ δ σ H ∧ FinS X W Z F' ρ' E (forD (turnD f m) (ds.drop i) δ μ)
  refine ⟨Wd, ⟨ds.length, by simp, Nat.zero_le _, F1, ρ1, μ1, δ1, fun _ _ h => h, fun _ _ h => h, S1, by rw [List.drop_zero]; exact p⟩, ?_⟩
  rintro i k σ2 H2 ⟨rfl, hle, F2, ρ2, μ2, δ2, to, tr, S2, p2⟩
  obtain ⟨j1, j2⟩ := hJ Z F2 ρ2 μ2 δ2 σ2 H2 i to tr S2
  by_cases hlt : i < ds.length
  · refine .inr ?_
    have hd : ds.drop i = ds[i] :: ds.drop (i + 1) := List.drop_eq_getElem_cons hlt
    obtain ⟨go, yl⟩ := j2 ds[i] (List.getElem?_eq_getElem hlt)
    refine ⟨go, fun σ' H' => Wd (i + 1) (ds.length - (i + 1)) σ' H', fun σ' H' w => ⟨ds.length - (i + 1), by omega, w⟩, fun x H' y => ?_⟩
    obtain ⟨F3, l3, S3, r3⟩ := yl x H' y
    rw [hd] at p2
    unfold forD at p2
    cases ef : f ds[i] δ2 with
    | none =>
      have e : turnD f m ds[i] δ2 μ2 = .bad := by unfold turnD; rw [ef]
      simp only [e] at p2
      exact p2.elim
    | some δ3 =>
      have e : turnD f m ds[i] δ2 μ2 = m δ3 μ2 := by unfold turnD; rw [ef]
      simp only [e] at p2
      refine ⟨Z, F3, ρ2, μ2, δ2, _, S3, r3, δ3, ef, fun σ4 _ _ S4 => ⟨Z, F3, ρ2, μ2, δ3, S4, (p2.mono l3 .refl).loop fun σ' H' F' ρ' μ' δ' l' lr' S' q' => ?_⟩⟩
      exact ⟨rfl, hlt, F', ρ', μ', δ', fun p o h => l'.to p o (l3.to p o (to p o h)), fun k p h => lr'.to k p (tr k p h), S', q'⟩
  · have e : i = ds.length := by omega
    subst e
    rw [List.drop_length] at p2
    exact .inl ⟨j1 (Nat.le_refl _), p2.nx S2⟩
def mYes : MT := fun δ μ => .ok true δ μ
theorem jts_nil : JTs X W [] mYes := ⟨fun pins s σ H Q I ⟨Z, F, ρ, μ, δ, S, q⟩ => pts_nil.run pins s σ H Q I (q H F ρ .refl .refl S)⟩
theorem jts_one {c : Expr} {m : MT} (h : JT X W c m) : JTs X W [c] m := pts_one h
def mPar (i j : Nat) (ma mb : ME) : MS := fun δ μ => (ma δ μ).thn fun s δ1 μ1 => (mb δ1 μ1).thn fun t δ2 μ2 => .nx ((δ2.set i (some s)).set j (some t)) μ2
theorem par_read {i j : Nat} {ma mb : ME} : ∀ E σ H, rdS X W (mPar i j ma mb) E σ H → tPar i j (tCons (rdE X W ma) (tCons (rdE X W mb) tNil)) E σ H := by
  intro E σ H ⟨Z, F, ρ, μ, δ, S, q⟩
  refine ⟨Z, F, ρ, μ, δ, S, (FinS.thn q).imp fun s δ1 μ1 H1 F1 ρ1 l lr S1 ⟨_, p⟩ v vr => ?_⟩
  cases s with
  | fr d =>
    refine ⟨Z, F1, ρ1, μ1, δ1, S1, (FinS.thn p).imp fun t δ2 μ2 H2 F2 ρ2 l2 lr2 S2 ⟨_, p2⟩ w wr => ⟨v, w, rfl, p2.nx ?_⟩⟩
    have r : Rep X.K X.mg F2 ρ2 v d := Rep.up l2.to lr2.to vr.r
    refine (S2.put (i := i) (v := v) (s := .fr d) ⟨r, fun o p z => by cases z⟩).put ⟨wr.r, fun o p z1 z2 k o' e1 e2 => ?_⟩
    by_cases z : k = i
    · subst z
      by_cases hl : k < δ2.length
      · rw [List.getElem?_set_self hl] at e1; cases e1
      · rw [List.getElem?_eq_none (by simpa using hl)] at e1; cases e1
    · rw [List.getElem?_set_ne (Ne.symm z)] at e1 e2
      exact wr.no o p z1 z2 k o' e1 e2
  | own c =>
    obtain ⟨A, ev, fA, rA⟩ := vr.r
    obtain ⟨o, hA⟩ := rA.some
    have SG := S1.guard hA fA (vr.no c A rfl ev)
    refine ⟨upd Z A o, F1, ρ1, μ1, δ1, SG, ?_⟩
    have p' := FinS.thn (σ := σ) p
    generalize mb δ1 μ1 = r2 at p'
    cases r2 with
    | bad => exact p'
    | exc x δ2 μ2 => exact fun c' d' H2 F2 ρ2 l2 lr2 S2 er => p' c' d' H2 F2 ρ2 l2.unguard lr2.unguard (S2.unguard fA.z) er
    | ok t δ2 μ2 =>
      intro H2 F2 ρ2 l2 lr2 S2 w wr
      obtain ⟨_, p2⟩ := p' H2 F2 ρ2 l2.unguard lr2.unguard (S2.unguard fA.z)
      refine ⟨v, w, rfl, p2.nx ?_⟩
      have fA2 := fA.on l2 lr2
      have hA2 : H2 A = some o := S2.guarded
      have vr2 : VR X.K X.mg Z F2 ρ2 δ2 σ H2 v (.own c) := ⟨⟨A, ev, fA2, rA.up l2.to lr2.to (by rw [hA2, hA])⟩, fun o' p' z1 z2 => by
        rw [ev] at z2; cases z2
        exact S2.guardNo⟩
      have S3 := (S2.unguard fA.z).put (i := i) vr2
      cases t with
      | fr d => exact S3.put ⟨wr.r, fun o p z => by cases z⟩
      | own c2 =>
        obtain ⟨B, ew, fB, rB⟩ := wr.r
        have nBA : B ≠ A := (guard_z fB.z).1
        refine S3.put ⟨⟨B, ew, ⟨fB.f, (guard_z fB.z).2, fB.r⟩, rB⟩, fun o p z1 z2 k o' e1 e2 => ?_⟩
        rw [ew] at z2; cases z2
        by_cases z : k = i
        · subst z
          by_cases hl : k < σ.length
          · rw [List.getElem?_set_self hl, ev] at e2
            cases e2
            exact nBA rfl
          · rw [List.getElem?_eq_none (by simpa using hl)] at e2; cases e2
        · rw [List.getElem?_set_ne (Ne.symm z)] at e1 e2
          exact wr.no c2 B rfl ew k o' e1 e2
theorem js_par {i j : Nat} {x y : Str} {ma mb : ME} {px py pt : Pos} {kt k2 pt2} (hc : X.calm = true) (hN : X.N.Nodup) (hi : X.N[i]? = some x) (hj : X.N[j]? = some y) (hij : i ≠ j)
    (hx : X.env.scope.names.lookup x = some .local) (hy : X.env.scope.names.lookup y = some .local) (ha : JE X W a ma) (hb : JE X W b mb)
    (hw : swappedStores [.Tuple [.Name x px, .Name y py] kt pt] (.Tuple [a, b] k2 pt2) X.env = pure (some [x, y]))
    (hs : swapsWithSole [.Tuple [.Name x px, .Name y py] kt pt] (.Tuple [a, b] k2 pt2) pos.line X.env = pure false := by rfl)
    (h1 : starEach [a, b] X.env = (false, eval a X.env) :: starEach [b] X.env := by rfl) (h2 : starEach [b] X.env = (false, eval b X.env) :: starEach [] X.env := by rfl) :
    JS X W (.Assign [.Tuple [.Name x px, .Name y py] kt pt] (.Tuple [a, b] k2 pt2) pos) (mPar i j ma mb) := by
  exact (ps_par hc hN hi hj hij hx hy (pa_cons ha (pa_cons hb pa_nil h2) h1) hw hs).imp par_read
theorem FinS.laid {r : OutS} {E : Ends} {Z F : Hp} {ρ : List Addr} (h : FinS X W Z F ρ E r) : FinS X W Z F ρ { E with nx := fun σ H => ∀ p o, H p = none → E.nx σ (upd H p o) } r := by
  cases r with
  | nx δ μ => exact fun σ' H' F' ρ' l lr S p o hp => h σ' _ F' ρ' l lr (S.laid hp)
  | bk δ μ => exact h
  | ct δ μ => exact h
  | rt s μ => exact h
  | exc x δ μ => exact h
  | bad => exact h
end
end FL
namespace FL
open PySem L2
section
variable {X : Cx} {W : WX} {e a b o : Expr} {es : List Expr} {pos p apos : Pos}
def cutD {α : Type} (xs : List α) (lo hi : Option Int) : List α := (xs.drop (HT.sIx xs.length 0 lo)).take (HT.sIx xs.length xs.length hi - HT.sIx xs.length 0 lo)
def SlJ (X : Cx) (r : V → Option Int → Option Int → Hp → VK → Prop) (g : D → Option Int → Option Int → Option Slot) : Prop := ∀ Z F ρ μ δ σ H x dx lo hi s Q, Sim X.K X.mg Z F ρ μ δ σ H → Bor X.K X.mg F ρ H x dx → g dx lo hi = some s →
  (∀ v H' F', Le Z F F' → Sim X.K X.mg Z F' ρ μ δ σ H' → VR X.K X.mg Z F' ρ δ σ H' v s → Q v H') → r x lo hi H Q
def rdP (X : Cx) (W : WX) (m : MM (Option Int)) : TO := fun σ H Q => ∃ Z F ρ μ δ, Sim X.K X.mg Z F ρ μ δ σ H ∧ FinE X W Z F ρ σ (fun i _ _ _ _ H' => Q i H') (m δ μ)
theorem _root_.L2.PO.imp {X : Cx} {e : Option Expr} {t t' : TO} (h : PO X e t) (hi : ∀ σ H Q, t' σ H Q → t σ H Q) : PO X e t' := ⟨fun pins s σ H Q I q => h.run pins s σ H Q I (hi σ H Q q)⟩
abbrev JP (X : Cx) (W : WX) (e : Option Expr) (m : MM (Option Int)) : Prop := PO X e (rdP X W m)
def mNoP : MM (Option Int) := fun δ μ => .ok none δ μ
def mP (m : ME) : MM (Option Int) := fun δ μ => (m δ μ).bind fun s δ1 μ1 => match s with
  | .fr (.int i) => .ok (some i) δ1 μ1
  | _ => .bad
theorem jp_none : JP X W none mNoP := po_none.imp fun σ H Q ⟨Z, F, ρ, μ, δ, S, q⟩ => q H F ρ .refl .refl S
theorem jp_some {m : ME} (h : JE X W e m) : JP X W (some e) (mP m) := by
  refine (po_some h).imp fun σ H Q ⟨Z, F, ρ, μ, δ, S, q⟩ => ⟨Z, F, ρ, μ, δ, S, (FinE.bind q).imp fun s δ1 μ1 H1 F1 ρ1 l lr S1 ⟨_, _, _, p⟩ v vr => ?_⟩
  cases s with
  | own o => exact p.elim
  | fr d =>
    cases d with
    | int i =>
      cases vr.r
      exact ⟨i, rfl, p H1 F1 ρ1 .refl .refl S1⟩
    | _ => exact p.elim
def mSl (g : D → Option Int → Option Int → Option Slot) (o : Opn) (lo hi : MM (Option Int)) : ME := fun δ μ => (o.ev δ μ).bind fun r δ1 μ1 => (lo δ1 μ1).bind fun l δ2 μ2 => (hi δ2 μ2).bind fun h δ3 μ3 =>
  match r.at δ3 μ3 with
  | some d => lift (g d l h) δ3 μ3
  | none => .bad
theorem je_slice {lo hi : Option Expr} {p2 : Pos} {r : V → Option Int → Option Int → Hp → VK → Prop} {g : D → Option Int → Option Int → Option Slot} {oo : Opn} {ml mh : MM (Option Int)} (hs : SlR X r) (hr : SlJ X r g) (ho : JO X W e oo) (hl : JP X W lo ml) (hh : JP X W hi mh) :
    JE X W (.Subscript e (.Slice lo hi none p2) pos) (mSl g oo ml mh) := by
  refine (pe_slice hs ho hl hh).imp fun σ H Q ⟨Z, F, ρ, μ, δ, S, q⟩ => ⟨Z, F, ρ, μ, δ, S, (FinE.bind q).imp fun ra δ1 μ1 H1 F1 ρ1 l1 lr1 S1 ⟨_, _, _, p⟩ x hx => ?_⟩
  refine ⟨Z, F1, ρ1, μ1, δ1, S1, p.bind.imp fun l δ2 μ2 H2 F2 ρ2 l2 lr2 S2 ⟨_, _, _, p2⟩ => ?_⟩
  refine ⟨Z, F2, ρ2, μ2, δ2, S2, p2.bind.imp fun h δ3 μ3 H3 F3 ρ3 l3 lr3 S3 ⟨_, _, _, p3⟩ => ?_⟩
  cases ea : ra.at δ3 μ3 with
  | none => simp only [ea] at p3; exact p3.elim
  | some d =>
    simp only [ea] at p3
    unfold lift at p3
    cases eg : g d l h with
    | none => simp only [eg] at p3; exact p3.elim
    | some s =>
      simp only [eg] at p3
      exact hr Z F3 ρ3 μ3 δ3 σ H3 x d l h s Q S3 (((hx.up l2 lr2).up l3 lr3).bor S3 ea) eg fun v H' F' l' S' vr => p3 H' F' ρ3 l' .refl S' v vr
def gSl : D → Option Int → Option Int → Option Slot
  | .str x, lo, hi => if x.length ≤ 16777216 then some (.fr (.str (cutD x lo hi))) else none
  | .lst x, lo, hi => some (.own (.lst (cutD x lo hi)))
  | .fx .ro [] x, lo, hi => some (.own (.lst (cutD x lo hi)))
  | .tup x, lo, hi => some (.fr (.tup (cutD x lo hi)))
  | _, _, _ => none
abbrev rSlAny (K : PySem.W.Frag) : V → Option Int → Option Int → Hp → VK → Prop := fun x lo hi H Q => rSlS x lo hi H Q ∨ (rSlL K x lo hi H Q ∨ rSlA K x lo hi H Q)
theorem o_slice : SlR X (rSlAny X.K) := sl_str.or (sl_list.or sl_tupA)
theorem cut_whole {α : Type} {xs : List α} {lo hi : Option Int} (h1 : HT.sIx xs.length 0 lo = 0) (h2 : HT.sIx xs.length xs.length hi = xs.length) : cutD xs lo hi = xs := by
  unfold cutD
  rw [h1, h2]; simp
theorem j_slice : SlJ X (rSlAny X.K) gSl := by
  intro Z F ρ μ δ σ H x dx lo hi s Q S bx e q
  unfold gSl at e
  cases dx <;> first | (cases e; done) | skip
  · rename_i t
    by_cases hz : t.length ≤ 16777216
    · simp only [hz, if_true] at e
      cases e
      cases bx.str
      refine .inl ⟨_, rfl, by rw [toS_len, line_eq]; exact hz, ?_⟩
      have ec : cutS (toS t) lo hi = toS (cutD t lo hi) := by
        unfold cutS cutD
        rw [toS_len]
        rfl
      rw [ec]
      exact q _ H F .refl S ⟨.str, fun o p z => by cases z⟩
    · simp only [hz] at e; cases e
  · rename_i ds
    cases e
    obtain ⟨p, vs, rfl, h, r⟩ := bx.lst S
    refine .inr (.inl ⟨p, vs, rfl, .of h, fun a ha => ?_⟩)
    have r2 : RepL X.K X.mg F ρ (cutV vs lo hi) (cutD ds lo hi) := by unfold cutV cutD; rw [r.len]; exact (r.drop _).take _
    obtain ⟨S', vr⟩ := vr_newL S ha r2
    exact q _ _ F .refl S' vr
  · rename_i ds
    cases e
    have rp := bx.rep fun o e => by cases o <;> cases e
    obtain ⟨p, vs, rfl, h, r⟩ := bx.tup S
    refine .inr (.inr ⟨p, vs, rfl, h, fun hw => ?_, fun _ a ha => ?_⟩)
    · rw [r.len] at hw
      rw [cut_whole hw.1 hw.2] at q
      exact q _ H F .refl S ⟨rp, fun o p z => by cases z⟩
    · have r2 : RepL X.K X.mg F ρ (cutV vs lo hi) (cutD ds lo hi) := by unfold cutV cutD; rw [r.len]; exact (r.drop _).take _
      obtain ⟨F', l', S', vr⟩ := vr_newT S ha r2
      exact q _ _ F' l' S' vr
  · rename_i b' ks' ds
    cases b' <;> cases ks' <;> first | (cases e; done) | skip
    cases e
    obtain ⟨p, vs, rfl, h, r⟩ := bx.ro S
    refine .inr (.inl ⟨p, vs, rfl, h, fun a ha => ?_⟩)
    have r2 : RepL X.K X.mg F ρ (cutV vs lo hi) (cutD ds lo hi) := by unfold cutV cutD; rw [r.len]; exact (r.drop _).take _
    obtain ⟨S', vr⟩ := vr_newL S ha r2
    exact q _ _ F .refl S' vr
def recv (δ : Loc) (μ : Mem) : OR → Option (Own × (Own → Loc × Mem))
  | .d (.obj k) => match μ[k]? with
    | some c => some (c, fun c' => (δ, μ.set k c'))
    | none => none
  | .d _ => none
  | .i j => match δ[j]? with
    | some (some (.own c)) => some (c, fun c' => (δ.set j (some (.own c')), μ))
    | some (some (.fr (.obj k))) => match μ[k]? with
      | some c => some (c, fun c' => (δ, μ.set k c'))
      | none => none
    | _ => none
theorem recv_ok {K : PySem.W.Frag} {mg : Str → Option Value} {Z F H : Hp} {ρ : List Addr} {μ : Mem} {δ : Loc} {σ : St} {v : V} {r : OR} {c : Own} {w : Own → Loc × Mem} (S : Sim K mg Z F ρ μ δ σ H) (h : OrR K mg F ρ σ v r) (e : recv δ μ r = some (c, w)) :
    ∃ p, v = .ref p ∧ OwnR K mg F ρ H p c ∧ ∀ o c', OwnR K mg F ρ (upd H p o) p c' → Sim K mg Z F ρ (w c').2 (w c').1 σ (upd H p o) := by
  have mem : ∀ {k : Nat}, Rep K mg F ρ v (.obj k) → (match μ[k]? with | some c => some (c, fun c' => (δ, μ.set k c')) | none => (none : Option (Own × (Own → Loc × Mem)))) = some (c, w) →
      ∃ p, v = .ref p ∧ OwnR K mg F ρ H p c ∧ ∀ o c', OwnR K mg F ρ (upd H p o) p c' → Sim K mg Z F ρ (w c').2 (w c').1 σ (upd H p o) := by
    intro k hr he
    cases hr with
    | @obj _ p hp =>
      cases em : μ[k]? with
      | none => simp only [em] at he; cases he
      | some c0 =>
        simp only [em] at he
        cases he
        obtain ⟨a, ea, _, _, r⟩ := S.mem k _ em
        rw [hp] at ea; cases ea
        exact ⟨p, rfl, r, fun o c' hc => S.writeM em hp hc⟩
  cases r with
  | d d =>
    cases d <;> first | (cases e; done) | skip
    exact mem h e
  | i j =>
    have h' : σ[j]? = some (some v) := h
    unfold recv at e
    cases ej : δ[j]? with
    | none => simp only [ej] at e; cases e
    | some so =>
      cases so with
      | none => simp only [ej] at e; cases e
      | some s =>
        obtain ⟨u, eu, rr⟩ := S.slot j s ej
        rw [h'] at eu; cases eu
        cases s with
        | own c0 =>
          simp only [ej] at e
          cases e
          obtain ⟨p, rfl, _, ro⟩ := rr
          exact ⟨p, rfl, ro, fun o c' hc => S.write ej h' hc⟩
        | fr d =>
          cases d <;> first | (simp only [ej] at e; cases e; done) | skip
          simp only [ej] at e
          exact mem rr e
def ownTy (T : String) : Own → Bool
  | .lst _ => T == "list"
  | .dct _ _ => T == "dict"
  | .tab _ _ => false
  | .ins _ _ _ _ => false
  | .idc _ => false
def MutJ (X : Cx) (r : V → List V → Hp → VK → Prop) (g : Own → List D → Option (D × Own)) : Prop := ∀ Z F ρ μ δ σ H p c xs ds d c' Q, Sim X.K X.mg Z F ρ μ δ σ H → OwnR X.K X.mg F ρ H p c → RepL X.K X.mg F ρ xs ds → g c ds = some (d, c') →
  (∀ v o, Rep X.K X.mg F ρ v d → OwnR X.K X.mg F ρ (upd H p o) p c' → Q v (upd H p o)) → r (.ref p) xs H Q
def mMut (T : String) (g : Own → List D → Option (D × Own)) (o : Opn) (ms : List ME) : ME := fun δ μ => (o.ev δ μ).bind fun r δ1 μ1 => match recv δ1 μ1 r with
  | some (c0, _) => if ownTy T c0 = true then (evA ms δ1 μ1).bind fun ds δ2 μ2 => match recv δ2 μ2 r with
      | some (c, w) => match g c ds with
        | some (d, c') => .ok (.fr d) (w c').1 (w c').2
        | none => .bad
      | none => .bad
    else .bad
  | none => .bad
theorem ownTy_V {F H : Hp} {ρ : List Addr} {p : Addr} {c : Own} {T : String} (hT : T = "list") (h : OwnR X.K X.mg F ρ H p c) (e : ownTy T c = true) : tyV X.K T (.ref p) H := by
  subst hT
  cases c with
  | lst xs => obtain ⟨vs, h, r⟩ := h; exact .inl ⟨rfl, vs, .of h⟩
  | dct ks xs =>
    have e' : (("list" : String) == "dict") = true := e
    exact absurd e' (by decide)
  | tab P q => cases e
  | ins c kd ks xs => cases e
  | idc k => cases e
theorem mMut_read {T : String} {r : V → List V → Hp → VK → Prop} {g : Own → List D → Option (D × Own)} {oo : Opn} {ms : List ME} (hT : T = "list") (hr : MutJ X r g) : ∀ σ H Q, rdE X W (mMut T g oo ms) σ H Q → tBM X.K T r (rdO X W oo) (rdA X W ms) σ H Q := by
  intro σ H Q ⟨Z, F, ρ, μ, δ, S, q⟩
  refine ⟨Z, F, ρ, μ, δ, S, (FinE.bind q).imp fun ra δ1 μ1 H1 F1 ρ1 l lr S1 ⟨_, _, _, p⟩ x hx => ?_⟩
  cases e0 : recv δ1 μ1 ra with
  | none => simp only [e0] at p; exact p.elim
  | some cw =>
    obtain ⟨c0, w0⟩ := cw
    simp only [e0] at p
    obtain ⟨pa, rfl, ow, _⟩ := recv_ok S1 hx e0
    by_cases ht : ownTy T c0 = true
    · rw [if_pos ht] at p
      refine ⟨ownTy_V hT ow ht, Z, F1, ρ1, μ1, δ1, S1, p.bind.imp fun ds δ2 μ2 H2 F2 ρ2 l2 lr2 S2 ⟨_, _, _, p2⟩ xs hxs => ?_⟩
      cases e1 : recv δ2 μ2 ra with
      | none => simp only [e1] at p2; exact p2.elim
      | some cw =>
        obtain ⟨c, w⟩ := cw
        simp only [e1] at p2
        cases eg : g c ds with
        | none => simp only [eg] at p2; exact p2.elim
        | some dc =>
          obtain ⟨d, c'⟩ := dc
          simp only [eg] at p2
          obtain ⟨pa', ep, ow2, hw⟩ := recv_ok S2 (hx.up l2 lr2) e1
          cases ep
          exact hr Z F2 ρ2 μ2 δ2 σ H2 _ c xs ds d c' Q S2 ow2 hxs eg fun v o' rv ho => p2 _ F2 ρ2 .refl .refl (hw o' c' ho) v ⟨rv, fun o p z => by cases z⟩
    · rw [if_neg ht] at p; exact p.elim
theorem je_mut {id : String} {name : Str} {r : V → List V → Hp → VK → Prop} {g : Own → List D → Option (D × Own)} {oo : Opn} {ms : List ME} (pa : PlainAttrs "list") (slot : PySem.Slot "list" name id) (hty : typeOf (.builtin id) = pure (.type "method_descriptor")) (hm : MtR X id r) (hr : MutJ X r g) (ho : JO X W o oo) (ha : JA X W (e :: es) ms)
    (hbase : attributeBase o name X.env (eval o X.env) = eval o X.env := by rfl)
    (hfew : ((backTo pos (starEach (e :: es) X.env)).all (fun x => !x.1) && (backToKw pos (keywordEach [] X.env)).all (fun x => x.1.isSome)
      && decide ((e :: es).length + ([] : List Keyword).length + (if ([] : List Keyword).isEmpty then 0 else 1) < 30)) = true := by rfl)
    (hline : (apos.endLine == pos.line) = true := by rfl) (hs : starEach (e :: es) X.env = (false, eval e X.env) :: starEach es X.env := by rfl) (hplain : (backTo pos (starEach es X.env)).any (·.1) = false := by rfl) :
    JE X W (.Call (.Attribute o name apos) (e :: es) [] pos) (mMut "list" g oo ms) :=
  (pe_bm pa slot hty hm ho ha hbase hfew hline hs hplain).imp (mMut_read rfl hr)
def gAppend : Own → List D → Option (D × Own)
  | .lst xs, [d] => if xs.length < 16777216 then some (.non, .lst (xs ++ [d])) else none
  | _, _ => none
theorem RepL.single {F : Hp} {ρ : List Addr} {vs : List V} {d : D} (h : RepL X.K X.mg F ρ vs [d]) : ∃ v, vs = [v] ∧ Rep X.K X.mg F ρ v d := by
  cases h with
  | cons h t => cases t; exact ⟨_, rfl, h⟩
theorem j_append : MutJ X rAppend gAppend := by
  intro Z F ρ μ δ σ H p c xs ds d c' Q S ow rx e q
  unfold gAppend at e
  split at e
  · rename_i ys d0
    by_cases hz : ys.length < 16777216
    · rw [if_pos hz] at e
      cases e
      obtain ⟨v, rfl, hv⟩ := rx.single
      obtain ⟨vs, hH, r⟩ := ow
      exact ⟨p, vs, v, rfl, rfl, hH, by rw [r.len, line_eq]; exact hz, q _ _ .non ⟨_, upd_same, r.app (.cons hv .nil)⟩⟩
    · rw [if_neg hz] at e; cases e
  · cases e
theorem RepL.dropLast {F : Hp} {ρ : List Addr} {vs : List V} {ds : List D} (h : RepL X.K X.mg F ρ vs ds) : RepL X.K X.mg F ρ vs.dropLast ds.dropLast := by
  rw [List.dropLast_eq_take, List.dropLast_eq_take, h.len]
  exact h.take _
def SetJ (X : Cx) (t : TSet) (g : Own → D → D → Option Own) : Prop := ∀ Z F ρ μ δ σ H p c i v di dv c' Q, Sim X.K X.mg Z F ρ μ δ σ H → OwnR X.K X.mg F ρ H p c → Bor X.K X.mg F ρ H i di → Rep X.K X.mg F ρ v dv → g c di dv = some c' →
  (∀ o, OwnR X.K X.mg F ρ (upd H p o) p c' → Q (upd H p o)) → t (.ref p) i v H Q
def mSetI (g : Own → D → D → Option Own) (oo oi : Opn) (m : ME) : MS := fun δ μ => (m δ μ).thn fun s δ1 μ1 => (oo.ev δ1 μ1).thn fun r δ2 μ2 => (oi.ev δ2 μ2).thn fun ri δ3 μ3 => match recv δ3 μ3 r, ri.at δ3 μ3 with
  | some (c, w), some di => match g c di s.d with
    | some c' => .nx (w c').1 (w c').2
    | none => .bad
  | _, _ => .bad
theorem js_setI {i : Expr} {spos : Pos} {t : TSet} {g : Own → D → D → Option Own} {oo oi : Opn} {m : ME} (hp : PSet X t) (hr : SetJ X t g) (he : JE X W e m) (ho : JO X W o oo) (hi : JO X W i oi)
    (ha : ∀ v, assign (.Subscript o i spos) X.env v = (do
      let ov ← holding [v] (eval o X.env)
      let iv ← holding [v, ov] (eval i X.env)
      standAt spos
      holding [v, ov, iv] (setItem ov iv v)
      release [v, ov, iv] []) := by intro _; rfl)
    (hs : swapsWithSole [.Subscript o i spos] e pos.line X.env = pure false := by rfl) (hw : swappedStores [.Subscript o i spos] e X.env = pure none := by rfl)
    (h1 : (assignEach [.Subscript o i spos] X.env).map (·.2) = [assign (.Subscript o i spos) X.env] := by rfl) : JS X W (.Assign [.Subscript o i spos] e pos) (mSetI g oo oi m) := by
  refine (ps_asg he.locked (L2.pg_sub ho hi hp ha) hs hw h1).imp fun E σ H ⟨Z, F, ρ, μ, δ, S, q⟩ => ⟨Z, F, ρ, μ, δ, S, (FinS.thn q).imp fun s δ1 μ1 H1 F1 ρ1 l1 lr1 S1 ⟨_, p1⟩ v rv => ?_⟩
  refine ⟨Z, F1, ρ1, μ1, δ1, S1, (FinS.thn p1).imp fun r δ2 μ2 H2 F2 ρ2 l2 lr2 S2 ⟨_, p2⟩ x hx => ?_⟩
  refine ⟨Z, F2, ρ2, μ2, δ2, S2, (FinS.thn p2).imp fun ri δ3 μ3 H3 F3 ρ3 l3 lr3 S3 ⟨_, p3⟩ y hy => ?_⟩
  cases e0 : recv δ3 μ3 r with
  | none => simp only [e0] at p3; exact p3.elim
  | some cw =>
    obtain ⟨c, w⟩ := cw
    cases e1 : ri.at δ3 μ3 with
    | none => simp only [e0, e1] at p3; exact p3.elim
    | some di =>
      simp only [e0, e1] at p3
      cases eg : g c di s.d with
      | none => simp only [eg] at p3; exact p3.elim
      | some c' =>
        simp only [eg] at p3
        obtain ⟨pa, rfl, ow, hw'⟩ := recv_ok S3 (hx.up l3 lr3) e0
        exact hr Z F3 ρ3 μ3 δ3 σ H3 pa c y v di s.d c' _ S3 ow (hy.bor S3 e1) ((Rep.up l2.to lr2.to rv).up l3.to lr3.to) eg fun o' ho' => p3.nx (hw' o' c' ho')
def gSetL : Own → D → D → Option Own
  | .lst xs, .int k, d => match ixN xs.length k with
    | some j => some (.lst (xs.set j d))
    | none => none
  | _, _, _ => none
theorem j_setL : SetJ X rSetL gSetL := by
  intro Z F ρ μ δ σ H p c i v di dv c' Q S ow bi rv e q
  unfold gSetL at e
  split at e
  · rename_i xs k
    cases ej : ixN xs.length k with
    | none => simp only [ej] at e; cases e
    | some j =>
      simp only [ej] at e
      cases e
      cases bi.int
      obtain ⟨vs, hH, r⟩ := ow
      exact ⟨p, vs, k, j, rfl, rfl, hH, by rw [r.len]; exact ej, q _ ⟨_, upd_same, r.set rv j⟩⟩
  · cases e
end
end FL
namespace FL
open PySem PySem.Spec PyProof.Rows L2
theorem RmG.mono {j k : Nat} {A : Around} (r : RmG k A) (h : j ≤ k) : RmG j A := ⟨r.r.mono h, r.g⟩
theorem RmG.deeper {k : Nat} {A : Around} (r : RmG (k + 1) A) (env : Env) : RmG k (A.deeper env) := ⟨r.r.deeper env, r.g⟩
theorem FnG.mono {P : Program} {w : World} {K : PySem.W.Frag} {mg : Str → Option Value} {base : Heap} {Y : CXT} {j k : Nat} {f : Addr} {fd : FuncData} {ps : List Str} {sp : Sp} (h : FnG P w K mg base Y j f fd ps sp) (le : j ≤ k) : FnG P w K mg base Y k f fd ps sp :=
  ⟨h.len, fun A outer s H args us vs Q E hr => h.run A outer s H args us vs Q E (hr.mono le)⟩
theorem fnG_of {Y : CXT} {P : Program} {w : World} {K : PySem.W.Frag} {mg : Str → Option Value} {base : Heap} {k : Nat} {f : Addr} {x qual : Str} {st : Stmt} {fd : FuncData} {N ps : List Str} {sp : Sp} {dV : Value} (F : Fd K x qual st f fd dV) (S : FnScope N ps (defScope st))
    (len : ∀ vs H Q E, sp vs H Q E → vs.length = ps.length)
    (hbody : ∀ (cdv : Value) (A : Around) (outer : List Env) (s : Shared) (H : Hp) (vs : List V) (Q : VK) (E : XK), RmG k (A.deeper (envOfC qual (defScope st) s.heap.objs.size f cdv)) → sp vs H Q E →
      ∃ t, PSs (cxOf Y P w K mg base N qual (defScope st) f cdv A outer s H E) (defBody st) t ∧ t { nx := fun _ H' => Q .non H', rt := Q } (L2.start N vs) H) : FnG P w K mg base Y (k + 1) f fd ps sp := by
  obtain ⟨oc, od, kV, doc, pm, an, cdv, ct, osl, rfl, lk, hcd⟩ := F.ex
  refine ⟨len, fun A outer s H args us vs Q E hr e0 hb r hsp => ?_⟩
  have hlen := len _ _ _ _ hsp
  have inK : K.In s.heap := e0.mod.kin.keeps fun b o e => (e0.bs b o e).1
  have lim : s.heap.NoLimit := e0.mod.nolimit.keeps fun b o e => (e0.bs b o e).1
  have kinds : ∀ y ∈ ps.zip us, (defScope st).names.lookup y.1 = some .local ∨ ((defScope st).names.lookup y.1 = some .cell ∧ ((cellsFrom (s.heap.objs.size + 1) (defScope st).names []).lookup y.1).isSome = true) := fun ⟨n, u⟩ hy => by
    rcases S.par n (List.of_mem_zip hy).1 with q | q
    · exact Or.inl q
    · exact Or.inr ⟨q, PySem.W.cellsFrom_some _ _ _ (Or.inl q)⟩
  refine codeAny_call_function hr.r.depth (inK _ _ lk) rfl S.co S.gen rfl (PySem.W.codeRec_of inK hcd) (hb _ _ _ _ ?_)
  refine wpAny_newFunctionEnv_cells S.kind kinds fun env eenv s1 xx => ?_
  subst eenv
  refine ⟨lim.keeps xx.toInCall.keep, codeAny_func ?_⟩
  obtain ⟨t, ht, hq⟩ := hbody cdv A outer s H vs Q E (hr.deeper _) hsp
  have I : Inv (cxOf Y P w K mg base N qual (defScope st) f cdv A outer s H E) [] (L2.start N vs) H s1 := inv_start S hr.r.hd e0 hlen r xx
  refine wpAny_mono (ht.run [] s1 (L2.start N vs) H _ I hq) (fun fl s' hs => ?_) fun e s' hs => hs
  cases fl with
  | ret u =>
    obtain ⟨v, σ', H', J, rv, q⟩ := hs
    exact ⟨v, H', J.os, J.bare, J.base, J.hok, rv, q⟩
  | next =>
    obtain ⟨σ', H', J, q⟩ := hs
    exact ⟨.non, H', J.os, J.bare, J.base, J.hok, rfl, q⟩
  | brk =>
    obtain ⟨_, _, _, z⟩ := hs
    exact z.elim
  | cont =>
    obtain ⟨_, _, _, z⟩ := hs
    exact z.elim
def startD (n : Nat) (ds : List D) : Loc := ds.map (fun d => some (.fr d)) ++ List.replicate (n - ds.length) none
def OutS.fin (r : OutS) : OutF := match r with
  | .nx _ μ => .ok (.fr .non) μ
  | .rt s μ => .ok s μ
  | .exc x _ μ => .exc x μ
  | _ => .bad
theorem sealed {α : Type} (a : α) : ∃ r : α, r = a := ⟨a, rfl⟩
noncomputable def mFn (n : Nat) (m : MS) : MF := Classical.choose (sealed fun ds μ => (m (startD n ds) μ).fin)
theorem mFn_eq {n : Nat} {m : MS} {ds : List D} {μ : Mem} : mFn n m ds μ = (m (startD n ds) μ).fin := congrFun (congrFun (Classical.choose_spec (sealed fun ds μ => (m (startD n ds) μ).fin)) ds) μ
theorem start_get {N : List Str} {vs : List V} {i : Nat} (hi : i < vs.length) : (L2.start N vs)[i]? = some (vs[i]?) := by
  unfold L2.start
  rw [List.getElem?_append_left (by simpa using hi), List.getElem?_map]
  rw [List.getElem?_eq_getElem hi]; rfl
theorem Sim.begin {K : PySem.W.Frag} {mg : Str → Option Value} {Z F H : Hp} {ρ : List Addr} {μ : Mem} {N : List Str} {vs : List V} {ds : List D} (S : Sim K mg Z F ρ μ [] [] H) (r : RepL K mg F ρ vs ds) : Sim K mg Z F ρ μ (startD N.length ds) (L2.start N vs) H := by
  have hl := r.len
  have none_own : ∀ (i : Nat) c, (startD N.length ds)[i]? ≠ some (some (.own c)) := by
    intro i c h
    unfold startD at h
    by_cases hi : i < ds.length
    · rw [List.getElem?_append_left (by simpa using hi), List.getElem?_map, List.getElem?_eq_getElem hi] at h
      cases h
    · rw [List.getElem?_append_right (by simpa using hi), List.getElem?_replicate] at h
      split at h <;> cases h
  refine ⟨S.le, S.zk, ?_, fun i s e => ?_, fun i j p s s' e => absurd e (none_own i s), S.mem, S.mlen, S.nod⟩
  · unfold L2.start startD
    rw [List.length_append, List.length_append, List.length_map, List.length_map, List.length_replicate, List.length_replicate, hl]
  · by_cases hi : i < ds.length
    · have hv : i < vs.length := by rw [hl]; exact hi
      unfold startD at e
      rw [List.getElem?_append_left (by simpa using hi), List.getElem?_map, List.getElem?_eq_getElem hi] at e
      cases e
      obtain ⟨v, ev, rv⟩ := r.get (List.getElem?_eq_getElem hi)
      exact ⟨v, by rw [start_get hv, ev], rv⟩
    · unfold startD at e
      rw [List.getElem?_append_right (by simpa using hi), List.getElem?_replicate] at e
      split at e <;> cases e
theorem fnG_m {P : Program} {w : World} {K : PySem.W.Frag} {mg : Str → Option Value} {base : Heap} {k n : Nat} {f : Addr} {x qual : Str} {st : Stmt} {fd : FuncData} {N ps : List Str} {m : MS} {dV : Value} (F : Fd K x qual st f fd dV) (S : FnScope N ps (defScope st)) (hn : ps.length = n)
    (hbody : ∀ (X : Cx) (W : WX), X.prog = P → X.w = w → X.K = K → X.mg = mg → X.base = base → Cd X W k N (defScope st) → JSs X W (defBody st) m) : FnG P w K mg base (L2.CX P w) (k + 1) f fd ps (spM K mg (mFn N.length m) n) := by
  subst hn
  refine fnG_of F S (fun vs H Q E h => h.1) (fun cdv A outer s H vs Q E hr h => ?_)
  obtain ⟨hl, Z, F0, ρ, μ, ds, S0, r, q⟩ := h
  refine ⟨_, hbody (cxOf (L2.CX P w) P w K mg base N qual (defScope st) f cdv A outer s H E) (fun c d _ H => E c d H) rfl rfl rfl rfl rfl ⟨⟨rfl, hr, takes_of rfl rfl rfl rfl, rfl, rfl, S.nd⟩, passes_of rfl, fun _ _ => rfl⟩, ?_⟩
  refine ⟨Z, F0, ρ, μ, _, S0.begin r, ?_⟩
  rw [mFn_eq] at q
  generalize m (startD N.length ds) μ = o at q
  cases o with
  | nx δ μ' => exact fun σ' H' F' ρ' l lr S' => q .non H' F' ρ' l lr S'.drop .non
  | rt s μ' => exact fun v H' F' ρ' l lr S' rv => q v H' F' ρ' l lr S' rv
  | bk δ μ' => exact q.elim
  | ct δ μ' => exact q.elim
  | exc x δ μ' => exact fun c d σ' H' F' ρ' l lr S' er => q c d H' F' ρ' l lr S'.drop er
  | bad => exact q
section
variable {X : Cx} {W : WX} {k j : Nat} {N : List Str} {sc : Scope} {e : Expr} {es : List Expr} {pos p : Pos} {f : Addr} {fd : FuncData} {ps : List Str} {x : Str}
def mCall (m : MF) (ms : List ME) (dds : List D) : ME := fun δ μ => (evA ms δ μ).bind fun ds δ1 μ1 => match m (ds ++ dds) μ1 with
  | .ok s μ2 => .ok s δ1 μ2
  | .exc x μ2 => .exc x δ1 μ2
  | .bad => .bad
theorem evA_len : ∀ {ms : List ME} {δ : Loc} {μ : Mem} {ds : List D} {δ' : Loc} {μ' : Mem}, evA ms δ μ = .ok ds δ' μ' → ms.length = ds.length := by
  intro ms
  induction ms with
  | nil => intro δ μ ds δ' μ' e; cases e; rfl
  | cons m ms ih =>
    intro δ μ ds δ' μ' e
    have e : ((m δ μ).bind fun s δ1 μ1 => (evA ms δ1 μ1).bind fun ds δ2 μ2 => Out.ok (s.d :: ds) δ2 μ2) = .ok ds δ' μ' := e
    cases em : m δ μ with
    | ok s δ1 μ1 =>
      rw [em] at e
      have e : ((evA ms δ1 μ1).bind fun ds δ2 μ2 => Out.ok (s.d :: ds) δ2 μ2) = .ok ds δ' μ' := e
      cases er : evA ms δ1 μ1 with
      | ok ds2 δ2 μ2 =>
        rw [er] at e
        cases e
        rw [List.length_cons, List.length_cons, ih er]
      | exc x δ2 μ2 => rw [er] at e; cases e
      | bad => rw [er] at e; cases e
    | exc x δ1 μ1 => rw [em] at e; cases e
    | bad => rw [em] at e; cases e
theorem call_end {m : MF} {n : Nat} {dds : List D} {ms : List ME} {dvs : List V} (hdd : ∀ F ρ, RepL X.K X.mg F ρ dvs dds) (hn : ∀ ds, ms.length = ds.length → (ds ++ dds).length = n) : ∀ σ H Q, rdE X W (mCall m ms dds) σ H Q → tCallSD (spM X.K X.mg m n) dvs (WE W) (rdA X W ms) σ H Q := by
  intro σ H Q ⟨Z, F, ρ, μ, δ, S, q⟩
  refine ⟨Z, F, ρ, μ, δ, S, ?_⟩
  cases ea : evA ms δ μ with
  | bad => unfold mCall at q; rw [ea] at q; exact q
  | exc x δ1 μ1 => unfold mCall at q; rw [ea] at q; exact q
  | ok ds δ1 μ1 =>
    unfold mCall at q
    rw [ea, Out.bind_ok] at q
    intro H1 F1 ρ1 l1 lr1 S1 vs hv
    have q1 := q.mono l1 lr1
    have hvd := hv.app (hdd F1 ρ1)
    refine ⟨by rw [hvd.len]; exact hn ds (evA_len ea), zone Z H1 δ1 σ, F1, ρ1, μ1, ds ++ dds, S1.enter, hvd, ?_⟩
    generalize m (ds ++ dds) μ1 = o at q1
    cases o with
    | ok s μ2 => exact fun v H' F' ρ' l lr S' rv => q1 H' F' ρ' (S1.leLeave l) (S1.leRLeave lr) (S1.leave S' l lr) v (S1.came rv)
    | exc x μ2 => exact fun c d H' F' ρ' l lr S' er => q1 c d H' F' ρ' (S1.leLeave l) (S1.leRLeave lr) (S1.leave S' l lr) er
    | bad => exact q1
theorem pe_callG {Y : CXT} {sp : Sp} {dvs : List V} {ds : List Value} {E : L2.St → XK} {t : TA} (F : FnG X.prog X.w X.K X.mg X.base Y j f fd ps sp) (hr : RmG j X.A) (hg : Gl X x) (hm : X.mg x = some (.ref f)) (hk : PySem.W.keepIn X.K (.ref f) = true) (hb : Binds X.K fd ps ds) (hd : Vals dvs ds) (hx : ∀ σ, PassesAt Y X σ (E σ))
    (ha : PA X (e :: es) t) (hdb : (x == ("__debug__" : Str)) = false) (he : starEach (e :: es) X.env = (false, eval e X.env) :: starEach es X.env) (hpl : (backTo pos (starEach es X.env)).any (·.1) = false) :
    PE X (.Call (.Name x p) (e :: es) [] pos) (tCallSD sp dvs E t) :=
  ⟨fun pins s σ H Q I h => wpAny_Call_Name_kw (ld_glob I hg hm (PySem.W.callWith_K (h₀ := X.base) I.ok.mod.kin hk (thn (ha.run pos pins s σ H _ I h) fun us s1 ⟨vs, H1, I1, r, q⟩ => ⟨I1.kIn, run_callG F hr hb hd (hx σ) I1 r q⟩) he hpl) hdb)⟩
theorem je_call {m : MF} {n : Nat} {dds : List D} {ms : List ME} (C : Cs X W k N sc) (F : FuX X j x m n dds) (hjk : j ≤ k) (hg : glC sc x = true) (ha : JA X W (e :: es) ms) (hn : ms.length + dds.length = n)
    (he : starEach (e :: es) X.env = (false, eval e X.env) :: starEach es X.env := by rfl) (hpl : (backTo pos (starEach es X.env)).any (·.1) = false := by rfl) : JE X W (.Call (.Name x p) (e :: es) [] pos) (mCall m ms dds) := by
  obtain ⟨f, fd, ps, ds, dvs, F, hm, hk, hb, hd, hdd⟩ := F.ex
  obtain ⟨g1, g2, g3⟩ := C.gl hg
  exact (pe_callG F (C.rm.mono hjk) g1 hm hk hb hd (passAt C.tk) ha g2 he hpl).imp (call_end (ms := ms) hdd fun ds hl => by rw [List.length_append]; omega)
theorem Cs.ov {i : Nat} (C : Cs X W k N sc) (h : varC N sc i x = true) : JO X W (.Name x p) (.v i) := jo_v (C.var h)
end
end FL
namespace FL
open PySem PySem.Spec PyProof.Rows L2
def gMulA : D → D → Option Slot := fun x y => (gMul x y).or (gRep x y)
abbrev rMulA : R2 := fun x y H Q => rI CMulW (fun i j => .int (i * j)) x y H Q ∨ rRep x y H Q
section
variable {X : Cx} {W : WX} {k j : Nat} {N : List Str} {sc : Scope} {a b c e o : Expr} {es : List Expr} {pos p apos : Pos} {x : Str} {oa ob : Opn}
theorem o_mulA : OpR X (binaryOp .Mult) rMulA := op_mulW.or op_rep
theorem j_mulA : R2J X rMulA gMulA := R2J.or j_mulI j_rep
theorem Cs.hu (C : Cs X W k N sc) : X.A.units + 64 < cLine := by have := C.rm.r.un; omega
theorem add_ (ha : JO X W a oa) (hb : JO X W b ob) : JE X W (.BinOp a .Add b pos) (m2 gAdd oa ob) := je_bin o_add j_add ha hb
theorem sub_ (ha : JO X W a oa) (hb : JO X W b ob) : JE X W (.BinOp a .Sub b pos) (m2 gSub oa ob) := je_bin o_sub j_sub ha hb
theorem mul_ (ha : JO X W a oa) (hb : JO X W b ob) : JE X W (.BinOp a .Mult b pos) (m2 gMulA oa ob) := je_bin o_mulA j_mulA ha hb
theorem div_ (ha : JO X W a oa) (hb : JO X W b ob) : JE X W (.BinOp a .FloorDiv b pos) (m2 gDiv oa ob) := je_bin op_fdivW j_div ha hb
theorem mod_ (ha : JO X W a oa) (hb : JO X W b ob) : JE X W (.BinOp a .Mod b pos) (m2 gMod oa ob) := je_bin op_mod j_mod ha hb
theorem pow_ (ha : JO X W a oa) (hb : JO X W b ob) : JE X W (.BinOp a .Pow b pos) (m2 gPow oa ob) := je_bin op_pow j_pow ha hb
theorem le_ (ha : JO X W a oa) (hb : JO X W b ob) : JE X W (.Compare a [.LtE] [b] pos) (m2 gLe oa ob) := je_cmp o_le j_le ha hb (nomark _)
theorem Cs.eq (C : Cs X W k N sc) (ha : JO X W a oa) (hb : JO X W b ob) : JE X W (.Compare a [.Eq] [b] pos) (m2 (gEq false) oa ob) := je_cmp (o_eq C.hu) j_eq ha hb (nomark _)
theorem Cs.ne (C : Cs X W k N sc) (ha : JO X W a oa) (hb : JO X W b ob) : JE X W (.Compare a [.NotEq] [b] pos) (m2 (gEq true) oa ob) := je_cmp (o_ne C.hu) j_ne ha hb (nomark _)
theorem in_ (ha : JO X W a oa) (hb : JO X W b ob) (hm : behindInMarks .In b = false := by rfl) : JE X W (.Compare a [.In] [b] pos) (m2 (gIn false) oa ob) := je_cmp o_in (j_in false) ha hb hm
theorem isN_ (ha : JO X W a oa) (hb : JO X W b ob) : JE X W (.Compare a [.Is] [b] pos) (m2 (gIsN false) oa ob) := je_cmp o_isN (j_isN false) ha hb (nomark _)
theorem ltT (ha : JO X W a oa) (hb : JO X W b ob) : JT X W (.Compare a [.Lt] [b] pos) (mTb (m2 gLt oa ob)) := jt_cmp o_lt j_lt ha hb (nomark _)
theorem gtT (ha : JO X W a oa) (hb : JO X W b ob) : JT X W (.Compare a [.Gt] [b] pos) (mTb (m2 gGt oa ob)) := jt_cmp o_gt j_gt ha hb (nomark _)
theorem geT (ha : JO X W a oa) (hb : JO X W b ob) : JT X W (.Compare a [.GtE] [b] pos) (mTb (m2 gGe oa ob)) := jt_cmp o_ge j_ge ha hb (nomark _)
theorem Cs.eqT (C : Cs X W k N sc) (ha : JO X W a oa) (hb : JO X W b ob) : JT X W (.Compare a [.Eq] [b] pos) (mTb (m2 (gEq false) oa ob)) := jt_cmp (o_eq C.hu) j_eq ha hb (nomark _)
theorem Cs.neT (C : Cs X W k N sc) (ha : JO X W a oa) (hb : JO X W b ob) : JT X W (.Compare a [.NotEq] [b] pos) (mTb (m2 (gEq true) oa ob)) := jt_cmp (o_ne C.hu) j_ne ha hb (nomark _)
theorem inT (ha : JO X W a oa) (hb : JO X W b ob) (hm : behindInMarks .In b = false := by rfl) : JT X W (.Compare a [.In] [b] pos) (mTb (m2 (gIn false) oa ob)) := jt_cmp o_in (j_in false) ha hb hm
theorem ninT (ha : JO X W a oa) (hb : JO X W b ob) (hm : behindInMarks .NotIn b = false := by rfl) : JT X W (.Compare a [.NotIn] [b] pos) (mTb (m2 (gIn true) oa ob)) := jt_cmp o_nin (j_in true) ha hb hm
theorem notNT (ha : JO X W a oa) (hb : JO X W b ob) : JT X W (.Compare a [.IsNot] [b] pos) (mTb (m2 (gIsN true) oa ob)) := jt_cmp o_notN (j_isN true) ha hb (nomark _)
theorem ix_ (ha : JO X W a oa) (hb : JO X W b ob) (hs : PlainIx b) : JE X W (.Subscript a b pos) (m2 gIxL oa ob) := je_ix ix_seq j_ix ha hb hs
theorem Cs.bi {id : String} {r : List V → Hp → VK → Prop} {g : List D → Option Slot} {os : List Opn} (C : Cs X W k N sc) (h : glC sc x = true) (hm : X.mg x = none) (hv : bootBuiltins x = some (.builtin id)) (hc : CallR X (.builtin id) r) (hr : RLJ X r g) (ha : JOs X W (e :: es) os)
    (he : starEach (e :: es) X.env = (false, eval e X.env) :: starEach es X.env := by rfl) (hpl : (backTo pos (starEach es X.env)).any (·.1) = false := by rfl) : JE X W (.Call (.Name x p) (e :: es) [] pos) (mC g os) :=
  let ⟨g1, g2, g3⟩ := C.gl h
  je_callB hc hr g1 hm hv ha g3 g2 he hpl
theorem Cs.bt {T : String} {r : List V → Hp → VK → Prop} {g : List D → Option Slot} {os : List Opn} (C : Cs X W k N sc) (h : glC sc x = true) (hm : X.mg x = none) (hv : bootBuiltins x = some (.type T)) (hc : CallR X (.type T) r) (hr : RLJ X r g) (ha : JOs X W (e :: es) os)
    (he : starEach (e :: es) X.env = (false, eval e X.env) :: starEach es X.env := by rfl) (hpl : (backTo pos (starEach es X.env)).any (·.1) = false := by rfl) : JE X W (.Call (.Name x p) (e :: es) [] pos) (mC g os) :=
  let ⟨g1, g2, g3⟩ := C.gl h
  je_callTy hc hr g1 hm hv ha g3 g2 he hpl
theorem Cs.gInt {i : Int} (C : Cs X W k N sc) (h : glC sc x = true) (hm : ∃ t, X.mg x = some (.int i t)) : JE X W (.Name x pos) (mD (.int i)) :=
  let ⟨g1, g2, g3⟩ := C.gl h
  let ⟨t, hm⟩ := hm
  je_mod g1 hm (v := .int i) ⟨t, rfl⟩ (fun _ _ => .int) g2
theorem Cs.gStr {s : String} (C : Cs X W k N sc) (h : glC sc x = true) (hm : ∃ t, X.mg x = some (.str (Str.ofString s) t)) : JE X W (.Name x pos) (mD (.str (lit s))) :=
  let ⟨g1, g2, g3⟩ := C.gl h
  let ⟨t, hm⟩ := hm
  je_mod g1 hm (v := .str (Str.ofString s)) ⟨t, rfl⟩ (fun _ _ => by rw [ofS_lit]; exact .str) g2
def mChain (g g' : D → D → Option Slot) (oa ob oc : Opn) : ME := fun δ μ => (oa.ev δ μ).bind fun ra δ1 μ1 => (ob.ev δ1 μ1).bind fun rb δ2 μ2 => match ra.at δ2 μ2, rb.at δ2 μ2 with
  | some da, some db => match g da db with
    | some (.fr (.bl true)) => (oc.ev δ2 μ2).bind fun rc δ3 μ3 => match rb.at δ3 μ3, rc.at δ3 μ3 with
      | some db', some dc => lift (g' db' dc) δ3 μ3
      | _, _ => .bad
    | some (.fr (.bl false)) => .ok (.fr (.bl false)) δ2 μ2
    | _ => .bad
  | _, _ => .bad
theorem chain_read {r r' : R2} {g g' : D → D → Option Slot} {oc : Opn} (hr : R2J X r g) (hr' : R2J X r' g') : ∀ σ H Q, rdE X W (mChain g g' oa ob oc) σ H Q → tChain r r' (rdO X W oa) (rdO X W ob) (rdO X W oc) σ H Q := by
  intro σ H Q ⟨Z, F, ρ, μ, δ, S, q⟩
  refine ⟨Z, F, ρ, μ, δ, S, (FinE.bind q).imp fun ra δ1 μ1 H1 F1 ρ1 l1 lr1 S1 ⟨_, _, _, p1⟩ x hx => ?_⟩
  refine ⟨Z, F1, ρ1, μ1, δ1, S1, p1.bind.imp fun rb δ2 μ2 H2 F2 ρ2 l2 lr2 S2 ⟨_, _, _, p2⟩ y hy => ?_⟩
  cases ea : ra.at δ2 μ2 with
  | none => simp only [ea] at p2; exact p2.elim
  | some da =>
    cases eb : rb.at δ2 μ2 with
    | none => simp only [ea, eb] at p2; exact p2.elim
    | some db =>
      simp only [ea, eb] at p2
      cases eg : g da db with
      | none => simp only [eg] at p2; exact p2.elim
      | some s =>
        refine hr Z F2 ρ2 μ2 δ2 σ H2 x y da db s _ S2 ((hx.up l2 lr2).bor S2 ea) (hy.bor S2 eb) eg fun v H3 F3 l3 S3 vr => ?_
        cases s with
        | own o => simp only [eg] at p2; exact p2.elim
        | fr d =>
          cases d with
          | bl kk =>
            cases vr.r
            refine ⟨kk, rfl, ?_⟩
            cases kk with
            | false =>
              simp only [eg] at p2
              rw [if_neg Bool.false_ne_true]
              exact p2 H3 F3 ρ2 l3 .refl S3 _ .bl
            | true =>
              simp only [eg] at p2
              rw [if_pos rfl]
              refine ⟨Z, F3, ρ2, μ2, δ2, S3, (p2.mono l3 .refl).bind.imp fun rc δ4 μ4 H4 F4 ρ4 l4 lr4 S4 ⟨_, _, _, p4⟩ w hw => ?_⟩
              cases eb' : rb.at δ4 μ4 with
              | none => simp only [eb'] at p4; exact p4.elim
              | some db' =>
                cases ec : rc.at δ4 μ4 with
                | none => simp only [eb', ec] at p4; exact p4.elim
                | some dc =>
                  simp only [eb', ec] at p4
                  unfold lift at p4
                  cases eg' : g' db' dc with
                  | none => simp only [eg'] at p4; exact p4.elim
                  | some s' =>
                    simp only [eg'] at p4
                    exact hr' Z F4 ρ4 μ4 δ4 σ H4 y w db' dc s' Q S4 (((hy.up l3 .refl).up l4 lr4).bor S4 eb') (hw.bor S4 ec) eg' fun v H' F' l' S' vr => p4 H' F' ρ4 l' .refl S' v vr
          | _ => simp only [eg] at p2; exact p2.elim
theorem chain_ {op op' : CmpOp} {r r' : R2} {g g' : D → D → Option Slot} {oc : Opn} (ho : OpR X (compareOp op) r) (hr : R2J X r g) (ho' : OpR X (compareOp op') r') (hr' : R2J X r' g') (ha : JO X W a oa) (hb : JO X W b ob) (hc : JO X W c oc)
    (hm : lastMarks [op, op'] [b, c] = false := by with_unfolding_all rfl) : JE X W (.Compare a [op, op'] [b, c] pos) (mChain g g' oa ob oc) := (pe_chain ho ho' ha hb hc hm).imp (chain_read hr hr')
theorem chainT {op op' : CmpOp} {r r' : R2} {g g' : D → D → Option Slot} {oc : Opn} (ho : OpR X (compareOp op) r) (hr : R2J X r g) (ho' : OpR X (compareOp op') r') (hr' : R2J X r' g') (ha : JO X W a oa) (hb : JO X W b ob) (hc : JO X W c oc)
    (hm : lastMarks [op, op'] [b, c] = false := by with_unfolding_all rfl) : JT X W (.Compare a [op, op'] [b, c] pos) (mTb (mChain g g' oa ob oc)) := (pt_chain ho ho' ha hb hc hm).imp (mTb_read (chain_read hr hr'))
theorem Cs.par {i j : Nat} {x y : Str} {ma mb : ME} {px py pt : Pos} {kt k2 pt2} (C : Cs X W k N sc) (hi : ownC N sc i x = true) (hj : ownC N sc j y = true) (hij : i ≠ j) (ha : JE X W a ma) (hb : JE X W b mb)
    (hw : ∀ env : Env, env.scope = sc → swappedStores [.Tuple [.Name x px, .Name y py] kt pt] (.Tuple [a, b] k2 pt2) env = pure (some [x, y]))
    (hs : swapsWithSole [.Tuple [.Name x px, .Name y py] kt pt] (.Tuple [a, b] k2 pt2) pos.line X.env = pure false := by rfl)
    (h1 : starEach [a, b] X.env = (false, eval a X.env) :: starEach [b] X.env := by rfl) (h2 : starEach [b] X.env = (false, eval b X.env) :: starEach [] X.env := by rfl) :
    JS X W (.Assign [.Tuple [.Name x px, .Name y py] kt pt] (.Tuple [a, b] k2 pt2) pos) (mPar i j ma mb) :=
  let ⟨n, i1, i2⟩ := C.own hi
  let ⟨_, j1, j2⟩ := C.own hj
  js_par C.calm n i1 j1 hij i2 j2 ha hb (hw X.env C.hsc) hs h1 h2
theorem lower_ {oo : Opn} (ho : JO X W o oo) (hbase : attributeBase o "lower" X.env (eval o X.env) = eval o X.env := by rfl) (hline : (apos.endLine == pos.line) = true := by rfl) : JE X W (.Call (.Attribute o "lower" apos) [] [] pos) (mM "str" gLower oo []) :=
  je_bm0 PySem.F.plainAttrs_str PySem.F.slot_str_lower PySem.F.type_str_lower mt_lower j_lower ho hbase hline
theorem append_ {ms : List ME} {oo : Opn} (ho : JO X W o oo) (ha : JA X W [e] ms) (hbase : attributeBase o "append" X.env (eval o X.env) = eval o X.env := by rfl)
    (hline : (apos.endLine == pos.line) = true := by rfl) (hs : starEach [e] X.env = (false, eval e X.env) :: starEach [] X.env := by rfl)
    (hfew : ((backTo pos (starEach [e] X.env)).all (fun x => !x.1) && (backToKw pos (keywordEach [] X.env)).all (fun x => x.1.isSome)
      && decide ([e].length + ([] : List Keyword).length + (if ([] : List Keyword).isEmpty then 0 else 1) < 30)) = true := by rfl) : JE X W (.Call (.Attribute o "append" apos) [e] [] pos) (mMut "list" gAppend oo ms) :=
  je_mut PySem.F.plainAttrs_list PySem.F.slot_list_append PySem.F.type_list_append mt_append j_append ho ha hbase hfew hline hs
theorem range1_ {tg : Expr} {o : Opn} (C : Cs X W k N sc) (h : glC sc "range" = true) (hm : X.mg "range" = none) (ha : JOs X W [a] [o]) (hs : starEach [a] X.env = [(false, eval a X.env)] := by rfl) : JI X W tg (.Call (.Name "range" p) [a] [] pos) (mRange1 o) :=
  ji_range1 (C.gl h).1 hm ha hs
theorem slice_ {lo hi : Option Expr} {p2 : Pos} {oo : Opn} {ml mh : MM (Option Int)} (ho : JO X W e oo) (hl : JP X W lo ml) (hh : JP X W hi mh) : JE X W (.Subscript e (.Slice lo hi none p2) pos) (mSl gSl oo ml mh) := je_slice o_slice j_slice ho hl hh
theorem setI_ {i : Expr} {spos : Pos} {oo oi : Opn} {m : ME} (he : JE X W e m) (ho : JO X W o oo) (hi : JO X W i oi)
    (ha : ∀ v, assign (.Subscript o i spos) X.env v = (do
      let ov ← holding [v] (eval o X.env)
      let iv ← holding [v, ov] (eval i X.env)
      standAt spos
      holding [v, ov, iv] (setItem ov iv v)
      release [v, ov, iv] []) := by intro _; rfl)
    (hs : swapsWithSole [.Subscript o i spos] e pos.line X.env = pure false := by rfl) (hw : swappedStores [.Subscript o i spos] e X.env = pure none := by rfl)
    (h1 : (assignEach [.Subscript o i spos] X.env).map (·.2) = [assign (.Subscript o i spos) X.env] := by rfl) : JS X W (.Assign [.Subscript o i spos] e pos) (mSetI gSetL oo oi m) :=
  js_setI set_list j_setL he ho hi ha hs hw h1
def mNeg (m : ME) : ME := fun δ μ => (m δ μ).bind fun s δ1 μ1 => match s with
  | .fr (.int i) => .ok (.fr (.int (-i))) δ1 μ1
  | _ => .bad
theorem neg_ {m : ME} (h : JE X W a m) : JE X W (.UnaryOp .USub a pos) (mNeg m) := by
  refine (pe_un un_neg h).imp fun σ H Q ⟨Z, F, ρ, μ, δ, S, q⟩ => ⟨Z, F, ρ, μ, δ, S, (FinE.bind q).imp fun s δ1 μ1 H1 F1 ρ1 l lr S1 ⟨_, _, _, p⟩ v vr => ?_⟩
  cases s with
  | own o => exact p.elim
  | fr d =>
    cases d with
    | int i =>
      cases vr.r
      exact ⟨i, rfl, p H1 F1 ρ1 .refl .refl S1 _ ⟨.int, fun o p z => by cases z⟩⟩
    | _ => exact p.elim
end
theorem Fu.mk0 {P : Program} {w : World} {K : PySem.W.Frag} {mg : Str → Option Value} {base : Heap} {k n : Nat} {x : Str} {m : MF} {f : Addr} {fd : FuncData} {ps : List Str} (F : FnG P w K mg base (L2.CX P w) k f fd ps (spM K mg m n)) (hm : mg x = some (.ref f)) (hk : PySem.W.keepIn K (.ref f) = true)
    (hb : Binds K fd ps []) : Fu P w K mg base k x m n [] := ⟨f, fd, ps, [], [], F, hm, hk, hb, .nil, fun _ _ => .nil⟩
theorem Fd.binds {K : PySem.W.Frag} {x qual : Str} {st : Stmt} {f : Addr} {fd : FuncData} (F : Fd K x qual st f fd .none) {ps : List Str}
    (h : ∀ (kV doc pm : Value) (an : Option Addr) (cdv ct : Value) (us : List Value), us.length = ps.length → bindArgs (PySem.W.fnOf x qual (defArgs st) (defBody st) (defScope st) .none kV doc pm an cdv ct) ⟨us, []⟩ = pure (ps.zip us)) : Binds K fd ps [] := by
  obtain ⟨oc, od, kV, doc, pm, an, cdv, ct, osl, rfl, lk, hcd⟩ := F.ex
  exact .all (h kV doc pm an cdv ct)
theorem fnG_s {P : Program} {w : World} {K : PySem.W.Frag} {mg : Str → Option Value} {base : Heap} {k n : Nat} {f : Addr} {x qual : Str} {st : Stmt} {fd : FuncData} {N ps : List Str} {m : MS} {dV : Value} {sc : Scope} (F : Fd K x qual st f fd dV) (S : FnScope N ps sc) (hsc : defScope st = sc) (hn : ps.length = n)
    (hbody : ∀ (X : Cx) (W : WX), X.prog = P → X.w = w → X.K = K → X.mg = mg → X.base = base → Cd X W k N sc → JSs X W (defBody st) m) : FnG P w K mg base (L2.CX P w) (k + 1) f fd ps (spM K mg (mFn N.length m) n) := by
  subst hsc
  exact fnG_m F S hn hbody
end FL
namespace FL
open PySem PySem.Spec PyProof.Rows L2
abbrev supE (qual : Str) (scope : Scope) (L f : Addr) (cd : Value) (cc : Addr) : Env := PySem.W.ksEnv qual scope L f cd cc
def supX (P : Program) (w : World) (K : PySem.W.Frag) (mg : Str → Option Value) (base : Heap) (N : List Str) (qual : Str) (scope : Scope) (f : Addr) (cd : Value) (cc : Addr) (A : Around) (outer : List Env) (s : Shared) (H : Hp) (E : XK) : Cx where
  prog := P
  w := w
  K := K
  mg := mg
  base := base
  A := A.deeper (supE qual scope s.heap.objs.size f cd cc)
  N := N
  s_0 := s
  H_0 := H
  env := supE qual scope s.heap.objs.size f cd cc
  outer := outer
  stack := supE qual scope s.heap.objs.size f cd cc :: outer
  ex := []
  calm := true
  fn := fun _ => false
  pn := []
  xe := fun e s' => wpAny (model P w) (A.deeper (supE qual scope s.heap.objs.size f cd cc)) (leaving (supE qual scope s.heap.objs.size f cd cc) e) (fun _ s'' => L2.CX P w outer H s E e s'') (fun e' s'' => L2.CX P w outer H s E e' s'') s'
theorem sup_start {P : Program} {w : World} {K : PySem.W.Frag} {mg : Str → Option Value} {base : Heap} {qual : Str} {scope : Scope} {f cc D : Addr} {cd : Value} {A : Around} {outer : List Env} {s : Shared} {H : Hp} {E : XK} {p0 p1 : Str} {u0 u1 : Value} {v0 v1 : V} {h₁ : Heap} {tk : Nat} {cl : Value} {cld : Option Addr} {csl : Array (Option Value)}
    (hk : scope.kind = .function) (hc : ∀ y ∈ scope.names, y.2 ≠ .cell ∧ (y.2 = .free → y.1 = "__class__")) (h01 : p0 ≠ p1) (l0 : scope.names.lookup p0 = some .local) (l1 : scope.names.lookup p1 = some .local) (hd : A.handled = none) (e0 : Env0 P w K mg base A outer s H)
    (hcell : K.lookup cc = some ⟨cl, cld, .cell (some (.ref D)), csl⟩) (r0 : RelV v0 u0) (r1 : RelV v1 u1) (hns : h₁.Ns s.heap.objs.size fun y => ([(p0, u0), (p1, u1)] : List (Str × Value)).reverse.lookup y) (kp : ∀ b o, s.heap.get? b = some o → h₁.get? b = some o) :
    Inv (supX P w K mg base [p0, p1] qual scope f cd cc A outer s H E) [] [some v0, some v1] H { s with heap := h₁, toks := tk } := by
  have noA : ∀ b : Addr, b ∉ (supX P w K mg base [p0, p1] qual scope f cd cc A outer s H E).ex := fun b z => absurd (show b ∈ ([] : List Addr) from z) (by simp)
  have look : ∀ {y : Str} {c : Addr}, ([(("__class__" : Str), cc)] : List (Str × Addr)).lookup y = some c → y = "__class__" ∧ c = cc := fun {y c} e => by
    rw [List.lookup_cons] at e
    by_cases z : y = "__class__"
    · subst z
      simp at e
      exact ⟨rfl, e.symm⟩
    · have : (y == ("__class__" : Str)) = false := by simpa using z
      rw [this] at e
      cases e
  have hbase := e0.mod.kin _ _ hcell
  refine ⟨⟨e0.mod, hk, rfl, rfl, Nat.le_refl _, fun y z c e1 e2 => ?_, fun y hy => ?_, fun y c z _ => ?_, fun _ => hd, Around.frames_deeper e0.frames, .inr ⟨rfl, rfl⟩, fun b z => absurd z (noA b), e0.bs, e0.bsz, fun b _ _ => noA b, fun b z => absurd z (noA b), e0.funs, e0.frf⟩,
    rfl, e0.bare, Un.kept kp, ⟨_, hns, fun i y v e1 e2 e3 => ?_⟩, fun y c e => ?_, e0.hok.fresh (Nat.le_refl _), fun y c e => ?_, fun q hq => absurd (show q ∈ ([] : List (Addr × Obj)) from hq) (by simp), e0.hok.kept kp, rfl⟩
  · rw [(look e1).1, (look e2).1]
  · have hy : scope.names.lookup y = some .cell ∨ scope.names.lookup y = some .free := hy
    rcases hy with hy | hy
    · exact absurd rfl (hc _ (PySem.mem_of_lookup hy)).1
    · have e := (hc _ (PySem.mem_of_lookup hy)).2 rfl
      have e : y = "__class__" := e
      exact ⟨cc, by rw [e]; show ([(("__class__" : Str), cc)] : List (Str × Addr)).lookup ("__class__" : Str) = some cc; simp⟩
  · have z : false = true := z
    cases z
  · match i, e1, e2 with
    | 0, e1, e2 =>
      cases e1
      cases e2
      refine ⟨u0, r0, .inl ⟨l0, ?_⟩⟩
      show ([(p1, u1), (p0, u0)] : List (Str × Value)).lookup p0 = some u0
      rw [List.lookup_cons, show (p0 == p1) = false by simpa using h01]
      simp
    | 1, e1, e2 =>
      cases e1
      cases e2
      refine ⟨u1, r1, .inl ⟨l1, ?_⟩⟩
      show ([(p1, u1), (p0, u0)] : List (Str × Value)).lookup p1 = some u1
      simp
    | i + 2, e1, e2 =>
      have e1 : ([p0, p1] : List Str)[i + 2]? = some y := e1
      simp at e1
  · have e : ([(("__class__" : Str), cc)] : List (Str × Addr)).lookup y = some c := e
    rw [(look e).2]
    exact ⟨_, _, kp _ _ (e0.bs _ _ hbase).1, rfl⟩
  · have e : ([(("__class__" : Str), cc)] : List (Str × Addr)).lookup y = some c := e
    rw [(look e).2]
    exact (e0.bs _ _ hbase).2
theorem sup_call {X : Cx} {pins : List (Addr × Obj)} {σ : L2.St} {H : Hp} {s : Shared} {A : Around} {E : Value → Shared → Prop} {a C u : Addr} {us : List Value} {Q : Value → Shared → Prop} (T : OexC X.K C) (I : Inv X pins σ H s) (e : H a = some (exo a C none))
    (hu : s.heap.get? u = some (PySem.W.kxs_mw "ValueError.__init__" a)) (hl : us.length ≤ sizeLine) (h : ∀ s', Inv X pins σ H s' → Q .none s') : wpAny (model X.prog X.w) A (call (.ref u) us) Q E s := by
  obtain ⟨nm, q, N, bs, bm, sn, sub, ab, col, dd, k0, k1, k2, k3, k5, hC, hbm⟩ := T.cls
  obtain ⟨t1, ho⟩ := exo_at I.hok e
  obtain ⟨hp, g, d, t, os⟩ := s
  refine wpAny_call (codeAny_of_tree ?_)
  show wpAny _ A.in1 (callAny (.ref u) ⟨us, []⟩) _ _ _
  simp only [callAny]
  refine wpAny_bind (wpAny_load hu ?_)
  simp only [PySem.W.kxs_mw, show (Value.type "method-wrapper" == Value.type "method" || Value.type "method-wrapper" == Value.type "builtin_function_or_method" || Value.type "method-wrapper" == Value.type "method-wrapper") = true by decide, if_true]
  refine PySem.W.KFB.if_so (by decide) ?_
  refine wpAny_bind (PySem.W.check_bound_init F.excBase_ValueError.toExcCallFacts (I.kIn _ _ hC) ho rfl ?_)
  refine wpAny_bind (wpAny_pure (wpAny_pure ?_))
  refine ⟨plainId_quiet F.excBase_ValueError.init.plain _, codeAny_builtin F.excBase_ValueError.initEntry ?_⟩
  refine PySem.W.exc_init_tree (cls := .ref C) (t0 := t1) (dv := none) (c2 := .none) (c3 := .none) (b4 := .bool false) ho hl fun h' k hx _ => ?_
  have J := I.write (t' := t) (x := a) (e := a) (o := exo a C none) (by rw [e]; exact True.intro) (.inl rfl) k ⟨_, hx⟩ (exo_ok hx)
  have eu : upd H a (exo a C none) = H := by
    funext b
    by_cases hb : b = a
    · rw [hb, upd_same, e]
    · rw [upd_ne hb]
  rw [eu] at J
  exact h _ J
def spSup (K : PySem.W.Frag) (D : Addr) (at_ : Str) : Sp := fun vs H Q E => ∃ (a C : Addr) (r : V), vs = [.ref a, r] ∧ OexC K C ∧ PySem.W.mroIn K C (.ref D) = some true ∧ PySem.W.ks_superIn K C D "__init__" = some (some (.builtin "ValueError.__init__")) ∧
  PySem.W.subIn K (.ref C) (.type "ValueError") = some true ∧ PySem.W.findIn K (.ref C) at_ = some none ∧ H a = some (exo a C none) ∧ ∀ dx, H dx = none → dx ≠ a → Q .non (upd (upd H dx (exd dx [(at_, r)])) a (exo a C (some dx)))
abbrev supC (p1 : Str) (q : Nat → Pos) : Expr := .Call (.Attribute (.Call (.Name "super" (q 0)) [] [] (q 1)) "__init__" (q 2)) [.Name p1 (q 3)] [] (q 4)
abbrev supB (p0 p1 at_ : Str) (q : Nat → Pos) : List Stmt := [.Expr (supC p1 q) (q 5), .Assign [.Attribute (.Name p0 (q 6)) at_ (q 7)] (.Name p1 (q 8)) (q 9)]
structure SupF (K : PySem.W.Frag) (P : Program) (fI D cc cda : Addr) (qual p0 p1 at_ : Str) (params : Arguments) (q : Nat → Pos) (scope : Scope) (fd : FuncData) : Prop where
  lk : ∃ oc od dV kV doc pm an ct osl, fd = PySem.W.ksFn "__init__" qual params (supB p0 p1 at_ q) scope dV kV doc pm an (.ref cda) ct cc ∧ K.lookup fI = some { cls := oc, dict := od, data := .func fd, slots := osl }
  cd : PySem.W.codeIn K (.ref cda) qual = true
  code : ∃ ccl cdd vs ccs file tf, K.lookup cda = some { cls := ccl, dict := cdd, data := .fields vs, slots := ccs } ∧ vs[2]? = some (.str file tf) ∧ ((P.main.file : Str) == file) = true
  cell : ∃ cl cld csl, K.lookup cc = some { cls := cl, dict := cld, data := .cell (some (.ref D)), slots := csl }
  clsD : ∃ cdD, PySem.W.clsIn K D = some cdD
  any : PySem.W.nsIn K cStatics "thirdparty.any" = some none
  top : (P.main.scope.names.lookup ("super" : Str)).isSome = false
  ev : ∃ pl : Sem Bool, ∀ L : Addr, eval (supC p1 q) (supE qual scope L fI (.ref cda) cc) = (do
      let ov ← attributeBase (.Call (.Name "super" (q 0)) [] [] (q 1)) "__init__" (supE qual scope L fI (.ref cda) cc) (eval (.Call (.Name "super" (q 0)) [] [] (q 1)) (supE qual scope L fI (.ref cda) cc))
      standAt (q 2).atName
      let (f, first) ← holding [ov] (getMethod ov "__init__" pl)
      callWith (q 4) f first (backTo (q 4) (starEach [.Name p1 (q 3)] (supE qual scope L fI (.ref cda) cc))) [])
  sw1 : ∀ L : Addr, swapsWith (supC p1 q) none (q 5).line (supE qual scope L fI (.ref cda) cc) = pure false
  sw2 : ∀ L : Addr, swapsWith (.Name p1 (q 8)) (some (.Attribute (.Name p0 (q 6)) at_ (q 7))) (q 9).line (supE qual scope L fI (.ref cda) cc) = pure false
  self : ∃ ar, (params.posonlyargs ++ params.args).head? = some ar ∧ ar.arg = p0
  kind : scope.kind = .function
  co : scope.isCoroutine = false
  gen : scope.isGenerator = false
  names : ∀ y ∈ scope.names, y.2 ≠ .cell ∧ (y.2 = .free → y.1 = "__class__")
  ne : p0 ≠ p1
  l0 : scope.names.lookup p0 = some .local
  l1 : scope.names.lookup p1 = some .local
  ls : scope.names.lookup ("super" : Str) = some .globalImplicit
  lc : scope.names.lookup ("__class__" : Str) = some .free
  d0 : (p0 == ("__debug__" : Str)) = false ∧ (p0 == ("__classdict__" : Str)) = false
  d1 : (p1 == ("__debug__" : Str)) = false ∧ (p1 == ("__classdict__" : Str)) = false
theorem fn_sup {P : Program} {w : World} {K : PySem.W.Frag} {mg : Str → Option Value} {base : Heap} {fI D cc cda : Addr} {qual p0 p1 at_ : Str} {params : Arguments} {q : Nat → Pos} {scope : Scope} {fd : FuncData} (S : SupF K P fI D cc cda qual p0 p1 at_ params q scope fd) (hsup : mg "super" = none) :
    FnOk P w K mg base (L2.CX P w) 2 fI fd [p0, p1] (spSup K D at_) := by
  refine ⟨fun vs H Q E ⟨_, _, _, e, _⟩ => by rw [e]; rfl, fun A outer s H args us vs Q E hr e0 hb r h => ?_⟩
  obtain ⟨a, C, r1, rfl, T, hsub, hm, hB, hno, ha, hq⟩ := h
  obtain ⟨oc, od, dV, kV, doc, pm, an, ct, osl, rfl, lk⟩ := S.lk
  obtain ⟨ccl, cdd, cvs, ccs, file, tf, hcode, hvs, hfile⟩ := S.code
  obtain ⟨cl, cld, csl, hcell⟩ := S.cell
  obtain ⟨cdD, hD⟩ := S.clsD
  obtain ⟨pl, ev⟩ := S.ev
  obtain ⟨ar, har, har2⟩ := S.self
  obtain ⟨u0, u1, rfl, ra, rr⟩ := vals2 r
  cases ra
  have KX : K.In s.heap := e0.mod.kin.keeps fun b o e => (e0.bs b o e).1
  have lim : s.heap.NoLimit := e0.mod.nolimit.keeps fun b o e => (e0.bs b o e).1
  have binds : [p0, p1].zip [Value.ref a, u1] = [(p0, Value.ref a), (p1, u1)] := rfl
  rw [binds] at hb
  refine PySem.ks_codeAny_call_defAt hr.depth (KX _ _ lk) rfl lim (PySem.W.codeRec_of KX S.cd) rfl hb (fun y hy => (S.names y hy).1) (fun y hy => ?_) (fun h₁ hns kp => ?_) S.co S.gen S.kind
  · simp only [List.mem_cons, List.not_mem_nil, or_false] at hy
    rcases hy with rfl | rfl
    · exact S.l0
    · exact S.l1
  have I : Inv (supX P w K mg base [p0, p1] qual scope fI (.ref cda) cc A outer s H E) [] [some (.ref a), some r1] H { s with heap := h₁, toks := s.toks + ([(p0, Value.ref a), (p1, u1)] : List (Str × Value)).length } :=
    sup_start S.kind S.names S.ne S.l0 S.l1 hr.hd e0 hcell rfl rr hns kp
  have gv0 := hns
  obtain ⟨mb, hmb, hbb⟩ := e0.mod.blt
  have KX1 : K.In h₁ := I.kIn
  have ga : (fun y => ([(p0, Value.ref a), (p1, u1)] : List (Str × Value)).reverse.lookup y) p0 = some (.ref a) := by
    show ([(p1, u1), (p0, Value.ref a)] : List (Str × Value)).lookup p0 = some (.ref a)
    rw [List.lookup_cons, show (p0 == p1) = false by simpa using S.ne]
    simp
  show _root_.PySem.wpAt (model P w) (A.deeper (supE qual scope s.heap.objs.size fI (.ref cda) cc)) (.func (supB p0 p1 at_ q) (supE qual scope s.heap.objs.size fI (.ref cda) cc)) (execs (supB p0 p1 at_ q) (supE qual scope s.heap.objs.size fI (.ref cda) cc)) _ _ _
  refine ks_wpAt_execs_cons (ks_wpAt_Expr_any (ks_wpAt_MethodCall (pl := pl) ?_ (ev _)) (by unfold interactive; simp [S.kind]) (S.sw1 _))
  refine ks_wpAt_super_base S.ls S.lc (by decide) rfl (KX1 _ _ lk) rfl har rfl (KX1 _ _ hcode) rfl hvs hfile S.top ?_
  have oD : ∃ o : Obj, K.lookup D = some o ∧ o.data = .cls cdD := by
    unfold PySem.W.clsIn at hD
    split at hD
    · rename_i ho
      cases hD
      exact ⟨_, ho, rfl⟩
    · cases hD
  obtain ⟨oD, hoD, hdD⟩ := oD
  have lcell : h₁.IsCell cc (some (.ref D)) := ⟨_, KX1 _ _ hcell, rfl⟩
  have hcl : ([(("__class__" : Str), cc)] : List (Str × Addr)).lookup ("__class__" : Str) = some cc := by simp
  obtain ⟨t1, hox⟩ := exo_at I.hok ha
  refine PySem.W.ks_loadName_global S.kind S.ls (PySem.Calls.loadGlobal_builtin (mg := mg) (by exact e0.mod.glob.keeps I.bk) hsup (by exact hmb.keeps I.bk) ((hbb "super" (by decide)).trans PyProof.Rows.Boot.«super») ⟨rfl, ?_⟩)
  refine wpAny_loadName_free S.kind S.lc hcl lcell ?_
  refine wpAny_loadName_local (m := fun y => ([(p0, Value.ref a), (p1, u1)] : List (Str × Value)).reverse.lookup y) S.kind (by rw [har2]; exact S.l0) hns (by rw [har2]; exact ga) ?_
  refine PySem.ks_wpAny_isType_cls (KX1 _ _ hoD) hdD ⟨rfl, ?_⟩
  refine PySem.ks_wpAny_call_super (KX1 _ _ hoD) hdD hox rfl (fun c z => by cases z) (PySem.W.looks_mroIn KX1 hsub) fun h2 hso k2 => ?_
  have KX2 : K.In h2 := KX1.keeps k2
  have I2 := I.kept (t' := s.toks + ([(p0, Value.ref a), (p1, u1)] : List (Str × Value)).length) k2
  obtain ⟨nm, qq, NN, bs, bm, sn, sub, ab, col, dd, x0, x1, x2, x3, x5, hC, hbm⟩ := T.cls
  have hcd : ∃ cd, PySem.W.clsIn K C = some cd := by
    unfold PySem.W.clsIn
    rw [hC]
    exact ⟨_, rfl⟩
  obtain ⟨cdC, hcC⟩ := hcd
  have hal : PySem.W.alongIn K "__init__" ((cdC.mro.dropWhile (· != .ref D)).drop 1) = some (some (.builtin "ValueError.__init__")) := by
    unfold PySem.W.ks_superIn at hm
    rw [hcC] at hm
    exact hm
  have hox2 := k2 _ _ hox
  have hne : a ≠ C := fun z => by
    have y := KX2 _ _ hC
    rw [← z, hox2] at y
    have y2 := congrArg Obj.data (Option.some.inj y)
    cases y2
  refine PySem.W.kxs_getMethod PySem.W.kxs_ValueError hso (PySem.W.looks_opaque KX2 S.any) (l₀ := cdC.mro) (fun A Q E s k q => wpAny_bind ((PySem.W.looks_clsIn KX2 hcC) A _ E s k (wpAny_pure q))) rfl KX2 hal ?_ hne (by decide) ?_
  · exact (PySem.W.InstAt.type (od := none) ⟨hox2, rfl, rfl, trivial⟩).andThen (PySem.W.looks_subIn KX2 hB)
  have k3 : ∀ b o, h2.get? b = some o → (h2.push (PySem.W.kxs_mw "ValueError.__init__" a)).get? b = some o := fun b o e => Heap.get?_push_of_some _ e
  have I3 := I2.kept (t' := s.toks + ([(p0, Value.ref a), (p1, u1)] : List (Str × Value)).length + 1) k3
  have hmw := Heap.get?_push_size h2 (o := PySem.W.kxs_mw "ValueError.__init__" a) rfl
  refine PySem.W.kxs_callWith (i := "ValueError.__init__") (x := a) rfl ?_
  refine PySem.Calls.evalArgs_plain (PySem.Calls.spliced_cons ?_)
  have hns3 := hns.at fun o y => k3 _ _ (k2 _ _ y)
  refine wpAny_Name (wpAny_loadName_local (v := u1) S.kind S.l1 hns3 (by simp) ?_) S.d1.1
  refine PySem.Calls.spliced_nil ⟨hmw, ?_⟩
  refine sup_call (H := H) (X := supX P w K mg base [p0, p1] qual scope fI (.ref cda) cc A outer s H E) T I3 ha hmw (by rw [sizeLine_eq]; simp) fun s4 I4 => ?_
  refine wpAt_of_wpAny ?_
  have go := (pss_one (ps_ost (f := at_) (p' := q 7) (pos := q 9) (pe_var (X := supX P w K mg base [p0, p1] qual scope fI (.ref cda) cc A outer s H E) (i := 0) (pos := q 6) rfl (.inl S.l0) S.d0.1 S.d0.2) (pe_var (i := 1) (pos := q 8) rfl (.inl S.l1) S.d1.1 S.d1.2) (S.sw2 _))).run [] s4 [some (.ref a), some r1] H { nx := fun σ' H' => Q .non H', rt := fun _ _ => False } I4 ?_
  · refine wpAny_mono go (fun fl s' hs => ?_) fun e s' hs => hs
    cases fl with
    | next =>
      obtain ⟨σ', H', J, qz⟩ := hs
      exact ⟨.non, H', J.os, J.bare, J.base, J.hok, rfl, qz⟩
    | ret u =>
      obtain ⟨v, σ', H', J, rv, qz⟩ := hs
      exact False.elim qz
    | brk =>
      obtain ⟨_, _, _, qz⟩ := hs
      exact False.elim qz
    | cont =>
      obtain ⟨_, _, _, qz⟩ := hs
      exact False.elim qz
  · exact ⟨r1, rfl, .ref a, rfl, a, C, rfl, T, hno, .inl ⟨ha, hq⟩⟩
structure Xc (P : Program) (w : World) (K : PySem.W.Frag) (mg : Str → Option Value) (base : Heap) (c at_ : String) : Prop where
  ex : ∃ (C fI : Addr) (fd : FuncData) (ps : List Str), mg (Str.ofString c) = some (.ref C) ∧ OexC K C ∧ PySem.W.findIn K (.ref C) "__init__" = some (some (.ref fI)) ∧ PySem.W.typeIn K (.ref fI) = some (.type "function") ∧
    FnOk P w K mg base (L2.CX P w) 2 fI fd ps (spSup K C (Str.ofString at_)) ∧ Binds K fd ps [] ∧ PySem.W.mroIn K C (.ref C) = some true ∧ PySem.W.ks_superIn K C C "__init__" = some (some (.builtin "ValueError.__init__")) ∧
    PySem.W.subIn K (.ref C) (.type "ValueError") = some true ∧ PySem.W.findIn K (.ref C) (Str.ofString at_) = some none
abbrev XcX (X : Cx) (c at_ : String) : Prop := Xc X.prog X.w X.K X.mg X.base c at_
def mRaise (c at_ : String) (m : ME) : MS := fun δ μ => (m δ μ).thn fun s δ1 μ1 => .exc ⟨c, at_, s.d⟩ δ1 μ1
theorem js_raise {X : Cx} {W : WX} {k : Nat} {N : List Str} {sc : Scope} {c at_ : String} {e : Expr} {m : ME} {p pos pos' : Pos} (C : Cs X W k N sc) (V : XcX X c at_) (hk : 3 ≤ k) (hg : glC sc (Str.ofString c) = true) (he : JE X W e m)
    (hs : starEach [e] X.env = (false, eval e X.env) :: starEach [] X.env := by rfl) : JS X W (.Raise (some (.Call (.Name (Str.ofString c) p) [e] [] pos)) none pos') (mRaise c at_ m) := by
  obtain ⟨A, fI, fd, ps, h1, T, h3, h4, F, hb, h6, h7, h8, h9⟩ := V.ex
  obtain ⟨g1, g2, g3⟩ := C.gl hg
  have mk := pmk_oex (pos := pos) (p := p) T h3 h4 F ((C.rm.mono hk).r) hb (.nil) (passes_call C.tk (fun _ _ _ _ z => z.elim)) g1 h1 (ja_cons he ja_nil hs) g2 hs
  refine (ps_raise C.calm C.tk mk).imp fun D σ H ⟨Z, F, ρ, μ, δ, S, q⟩ => ?_
  refine ⟨Z, F, ρ, μ, δ, S, ?_⟩
  unfold mRaise at q
  show FinE X W Z F ρ σ _ ((m δ μ).bind fun s δ1 μ1 => (evA [] δ1 μ1).bind fun ds δ2 μ2 => .ok (s.d :: ds) δ2 μ2)
  cases em : m δ μ with
  | bad => rw [em] at q; exact q
  | exc x δ1 μ1 => rw [em] at q; exact fun c d H' F' ρ' l lr S e => q c d σ H' F' ρ' l lr S e
  | ok s δ1 μ1 =>
    rw [em] at q
    intro H1 F1 ρ1 l1 lr1 S1 vs hv
    cases hv with
    | @cons r _ _ _ hv hn =>
      cases hn
      refine ⟨by simp, fun a ha => ?_⟩
      refine ⟨a, A, _, rfl, T, h6, h7, h8, h9, upd_same, fun dx hdx hne => ?_⟩
      have hdx1 : H1 dx = none := by
        rw [upd_ne hne] at hdx
        exact hdx
      refine ⟨rfl, dx, [(Str.ofString at_, r)], upd_same, by rw [upd_ne hne, upd_same], hdx1, ?_⟩
      have eH : upd (del (upd (upd (upd H1 a (exo a A none)) dx (exd dx [(Str.ofString at_, r)])) a (exo a A (some dx))) a) dx (.xd [(Str.ofString at_, r)]) = upd H1 dx (.xd [(Str.ofString at_, r)]) := by
        funext b
        by_cases hb : b = dx
        · rw [hb, upd_same, upd_same]
        · rw [upd_ne hb, upd_ne hb]
          by_cases hb2 : b = a
          · rw [hb2, del_same, ha]
          · rw [del_ne hb2, upd_ne hb2, upd_ne hb, upd_ne hb2]
      rw [eH]
      have S2 := S1.laid (o := .xd [(Str.ofString at_, r)]) hdx1
      have N1 := S1.notIn hdx1
      obtain ⟨l3, S3⟩ := S2.freeze upd_same ⟨N1.1, N1.2.1, N1.2.2.1⟩ N1.2.2.2
      exact q _ _ σ _ _ _ (l1.trans l3) lr1 S3 ⟨A, dx, _, rfl, rfl, h1, .inl upd_same, hv.up l3.to fun _ _ h => h⟩
structure SupS (P : Program) (st : Stmt) (p0 p1 at_ : Str) (q : Nat → Pos) (sc : Scope) : Prop where
  scope : defScope st = sc
  body : defBody st = supB p0 p1 at_ q
  self : ∃ ar, ((defArgs st).posonlyargs ++ (defArgs st).args).head? = some ar ∧ ar.arg = p0
  top : (P.main.scope.names.lookup ("super" : Str)).isSome = false
  ev : ∀ (qual : Str) (fI : Addr) (cda : Value) (cc : Addr), ∃ pl : Sem Bool, ∀ L : Addr, eval (supC p1 q) (supE qual sc L fI cda cc) = (do
      let ov ← attributeBase (.Call (.Name "super" (q 0)) [] [] (q 1)) "__init__" (supE qual sc L fI cda cc) (eval (.Call (.Name "super" (q 0)) [] [] (q 1)) (supE qual sc L fI cda cc))
      standAt (q 2).atName
      let (f, first) ← holding [ov] (getMethod ov "__init__" pl)
      callWith (q 4) f first (backTo (q 4) (starEach [.Name p1 (q 3)] (supE qual sc L fI cda cc))) [])
  sw1 : ∀ (qual : Str) (fI : Addr) (cda : Value) (cc L : Addr), swapsWith (supC p1 q) none (q 5).line (supE qual sc L fI cda cc) = pure false
  sw2 : ∀ (qual : Str) (fI : Addr) (cda : Value) (cc L : Addr), swapsWith (.Name p1 (q 8)) (some (.Attribute (.Name p0 (q 6)) at_ (q 7))) (q 9).line (supE qual sc L fI cda cc) = pure false
  kind : sc.kind = .function
  co : sc.isCoroutine = false
  gen : sc.isGenerator = false
  names : ∀ y ∈ sc.names, y.2 ≠ .cell ∧ (y.2 = .free → y.1 = "__class__")
  ne : p0 ≠ p1
  l0 : sc.names.lookup p0 = some .local
  l1 : sc.names.lookup p1 = some .local
  ls : sc.names.lookup ("super" : Str) = some .globalImplicit
  lc : sc.names.lookup ("__class__" : Str) = some .free
  d0 : (p0 == ("__debug__" : Str)) = false ∧ (p0 == ("__classdict__" : Str)) = false
  d1 : (p1 == ("__debug__" : Str)) = false ∧ (p1 == ("__classdict__" : Str)) = false
theorem xc_of {P : Program} {w : World} {K : PySem.W.Frag} {mg : Str → Option Value} {base : Heap} {c at_ : String} {st : Stmt} {p0 p1 : Str} {q : Nat → Pos} {sc : Scope} {C fI cc cda : Addr} {qual nm qn file : Str} {tf : Tok} {NN : Addr} {bs bm : List Value} {sn : List Str} {sub : List Value} {ab : Bool} {col : Option Bool} {dd : Option Addr} {k0 k1 k2 k3 k5 : Option Value}
    {oc kV doc pm ct ccl cl : Value} {od an cdd cld : Option Addr} {osl ccs csl : Array (Option Value)} {vs : Array Value}
    (S : SupS P st p0 p1 (Str.ofString at_) q sc) (hm : mg (Str.ofString c) = some (.ref C)) (hsup : mg "super" = none) (hC : K.lookup C = some (excClassObj nm qn C NN bs bm true sn sub ab col dd k0 k1 k2 k3 k5 "ValueError.__new__")) (hbm : PySem.HandSPX.refsVE bm = true)
    (sa : PySem.W.findIn K (.ref C) "__setattr__" = some (some (.builtin "object.__setattr__"))) (exC : PySem.W.subIn K (.ref C) (.type "BaseException") = some true) (tyC : PySem.W.typeIn K (.ref C) = some (.type "type")) (kC : PySem.W.keepIn K (.ref C) = true)
    (iC : PySem.W.findIn K (.ref C) "__init__" = some (some (.ref fI))) (tI : PySem.W.typeIn K (.ref fI) = some (.type "function"))
    (lI : K.lookup fI = some { cls := oc, dict := od, data := .func (PySem.W.ksFn "__init__" qual (defArgs st) (defBody st) (defScope st) .none kV doc pm an (.ref cda) ct cc), slots := osl })
    (cI : PySem.W.codeIn K (.ref cda) qual = true) (lcd : K.lookup cda = some { cls := ccl, dict := cdd, data := .fields vs, slots := ccs }) (hvs : vs[2]? = some (.str file tf)) (hfile : ((P.main.file : Str) == file) = true)
    (lcc : K.lookup cc = some { cls := cl, dict := cld, data := .cell (some (.ref C)), slots := csl }) (any : PySem.W.nsIn K cStatics "thirdparty.any" = some none) (mro : PySem.W.mroIn K C (.ref C) = some true)
    (sup : PySem.W.ks_superIn K C C "__init__" = some (some (.builtin "ValueError.__init__"))) (sB : PySem.W.subIn K (.ref C) (.type "ValueError") = some true) (fat : PySem.W.findIn K (.ref C) (Str.ofString at_) = some none)
    (hb : ∀ us : List Value, us.length = [p0, p1].length → bindArgs (PySem.W.ksFn "__init__" qual (defArgs st) (defBody st) (defScope st) .none kV doc pm an (.ref cda) ct cc) ⟨us, []⟩ = pure ([p0, p1].zip us)) : Xc P w K mg base c at_ := by
  have hcls : ∃ cd, PySem.W.clsIn K C = some cd := by
    unfold PySem.W.clsIn
    rw [hC]
    exact ⟨_, rfl⟩
  obtain ⟨pl, ev⟩ := S.ev qual fI (.ref cda) cc
  have e1 := S.scope
  have e2 := S.body
  have F : SupF K P fI C cc cda qual p0 p1 (Str.ofString at_) (defArgs st) q sc (PySem.W.ksFn "__init__" qual (defArgs st) (defBody st) (defScope st) .none kV doc pm an (.ref cda) ct cc) :=
    ⟨⟨oc, od, .none, kV, doc, pm, an, ct, osl, by rw [e1, e2], lI⟩, cI, ⟨_, _, _, _, _, _, lcd, hvs, hfile⟩, ⟨_, _, _, lcc⟩, hcls, any, S.top, ⟨pl, ev⟩, S.sw1 _ _ _ _, S.sw2 _ _ _ _, S.self, S.kind, S.co, S.gen, S.names, S.ne, S.l0, S.l1, S.ls, S.lc, S.d0, S.d1⟩
  exact ⟨C, fI, _, _, hm, ⟨⟨_, _, _, _, _, _, _, _, _, _, _, _, _, _, _, hC, hbm⟩, sa, exC, tyC, kC⟩, iC, tI, fn_sup F hsup, .all hb, mro, sup, sB, fat⟩
end FL
namespace FL
open PySem PySem.Spec PyProof.Rows L2 LamX
section
variable {K : PySem.W.Frag} {mg : Str → Option Value} {Z F F1 : Hp} {ρ ρ1 : List Addr} {μ : Mem} {δ : FL.Loc} {σ : L2.St} {H : Hp} {Q : VK} {E : XK}
theorem FinF.mono {r : OutF} (h : FinF K mg Z F ρ Q E r) (l : Le Z F F1) (lr : LeR Z ρ ρ1) : FinF K mg Z F1 ρ1 Q E r := by
  cases r with
  | ok s μ => exact fun v H' F' ρ' l' lr' S rv => h v H' F' ρ' (l.trans l') (lr.trans lr') S rv
  | exc x μ => exact fun c d H' F' ρ' l' lr' S er => h c d H' F' ρ' (l.trans l') (lr.trans lr') S er
  | bad => exact h
theorem Sim.frs (S : Sim K mg Z F ρ μ [] [] H) (hl : σ.length = δ.length) (h : ∀ (i : Nat) s, δ[i]? = some (some s) → ∃ d v, s = .fr d ∧ σ[i]? = some (some v) ∧ Rep K mg F ρ v d) : Sim K mg Z F ρ μ δ σ H := by
  refine ⟨S.le, S.zk, hl, fun i s e => ?_, fun i j p s s' e => ?_, S.mem, S.mlen, S.nod⟩
  · obtain ⟨d, v, rfl, ev, r⟩ := h i s e
    exact ⟨v, ev, r⟩
  · obtain ⟨d, v, z, _⟩ := h i _ e
    cases z
end
def mDct0 : ME := fun δ μ => .ok (.own (.dct [] [])) δ μ
theorem je_dict0 {X : Cx} {W : WX} {pos : Pos} : JE X W (.Dict [] [] pos) mDct0 := by
  refine pe_dnewK.imp fun σ H Q ⟨Z, F, ρ, μ, δ, S, q⟩ p hp => ?_
  obtain ⟨n1, n2, n3, n4⟩ := S.notIn hp
  exact q _ F ρ .refl .refl (S.laid hp) _ ⟨⟨p, rfl, ⟨n1, n2, n3⟩, [], upd_same, rfl, .nil⟩, fun o p' z z2 => by cases z2; exact n4⟩
end FL
namespace FL
open PySem PySem.Spec PyProof.Rows L2 LamX
def mMv (i : Nat) : ME := fun δ μ => match δ[i]? with
  | some (some s) => .ok s (δ.set i none) μ
  | _ => .bad
theorem je_mv {X : Cx} {W : WX} {e : Expr} {i : Nat} (h : PE X e (tVar i)) : JE X W e (mMv i) := by
  refine h.imp fun σ H Q ⟨Z, F, ρ, μ, δ, S, q⟩ => ?_
  unfold mMv at q
  cases e1 : δ[i]? with
  | none => simp only [e1] at q; exact q.elim
  | some o =>
    cases o with
    | none => simp only [e1] at q; exact q.elim
    | some s =>
      simp only [e1] at q
      obtain ⟨v, ev, r⟩ := S.slot i s e1
      have hi : i < σ.length := (List.getElem?_eq_some_iff.mp ev).1
      have same : σ.set i (some v) = σ := by
        apply List.ext_getElem?
        intro j
        by_cases z : j = i
        · subst z
          rw [List.getElem?_set_self hi, ev]
        · rw [List.getElem?_set_ne (Ne.symm z)]
      have S0 := S.forget (i := i) (x := some v)
      rw [same] at S0
      refine ⟨v, ev, q H F ρ .refl .refl S0 v ⟨r, fun o p z1 z2 j o' e2 e3 => ?_⟩⟩
      subst z1 z2
      have nj : j ≠ i := fun z => by
        subst z
        rw [List.getElem?_set_self (List.getElem?_eq_some_iff.mp e1).1] at e2
        cases e2
      rw [List.getElem?_set_ne (Ne.symm nj)] at e2
      exact nj (S.apart j i p o' o e2 e1 e3 ev)
end FL
namespace FL
open PySem L2
theorem ofS_inj {a b : String} (h : Str.ofString a = Str.ofString b) : a = b := by
  rw [ofS_lit, ofS_lit] at h
  have e := toS_inj h
  unfold lit at e
  have e2 : a.toList = b.toList := by
    have inj : ∀ l m : List Char, l.map Char.toNat = m.map Char.toNat → l = m := by
      intro l
      induction l with
      | nil => intro m h; cases m with
        | nil => rfl
        | cons _ _ => cases h
      | cons c l ih =>
        intro m h
        cases m with
        | nil => cases h
        | cons d m =>
          rw [List.map_cons, List.map_cons] at h
          injection h with h1 h2
          rw [ih m h2, Char.ext (UInt32.toNat_inj.mp h1)]
    exact inj _ _ e
  exact String.toList_inj.mp e2
def getF : List String → List D → String → Option D
  | k :: ks, d :: ds, f => if k = f then some d else getF ks ds f
  | _, _, _ => none
def putNm : List String → String → List String
  | [], f => [f]
  | k :: ks, f => if k = f then k :: ks else k :: putNm ks f
def putVs : List String → List D → String → D → List D
  | [], _, _, d => [d]
  | k :: ks, x :: xs, f, d => if k = f then d :: xs else x :: putVs ks xs f d
  | _ :: _, [], _, _ => []
abbrev rowF (ks : List String) (vs : List V) : List (Str × V) := (ks.map Str.ofString).zip vs
section
variable {K : PySem.W.Frag} {mg : Str → Option Value} {Z F F' : Hp} {ρ ρ' : List Addr} {μ : Mem} {δ : FL.Loc} {σ : L2.St} {H H' : Hp}
theorem getF_row : ∀ {ks : List String} {vs : List V} {ds : List D} {f : String} {d : D}, RepL K mg F ρ vs ds → getF ks ds f = some d → ∃ v, (rowF ks vs).lookup (Str.ofString f) = some v ∧ Rep K mg F ρ v d
  | k :: ks, _, _, f, d, .cons (v := v) (vs := vs) h t, e => by
    unfold getF at e
    by_cases hk : k = f
    · rw [if_pos hk] at e
      cases e
      exact ⟨v, by simp [rowF, hk], h⟩
    · rw [if_neg hk] at e
      obtain ⟨w, e1, e2⟩ := getF_row t e
      refine ⟨w, ?_, e2⟩
      have : (Str.ofString f == Str.ofString k) = false := beq_eq_false_iff_ne.mpr fun z => hk (ofS_inj z).symm
      simp only [rowF, List.map_cons, List.zip_cons_cons, List.lookup_cons, this]
      exact e1
  | [], _, _, _, _, _, e => by cases e
  | _ :: _, _, _, _, _, .nil, e => by cases e
theorem getF_none : ∀ {ks : List String} {vs : List V} {ds : List D} {f : String}, RepL K mg F ρ vs ds → ks.length = vs.length → getF ks ds f = none → (rowF ks vs).lookup (Str.ofString f) = none
  | k :: ks, _, _, f, .cons (v := v) (vs := vs) h t, n, e => by
    unfold getF at e
    by_cases hk : k = f
    · rw [if_pos hk] at e; cases e
    · rw [if_neg hk] at e
      have : (Str.ofString f == Str.ofString k) = false := beq_eq_false_iff_ne.mpr fun z => hk (ofS_inj z).symm
      simp only [rowF, List.map_cons, List.zip_cons_cons, List.lookup_cons, this]
      exact getF_none t (by simpa using n) e
  | [], _, _, _, _, _, _ => by simp [rowF]
  | _ :: _, _, _, _, .nil, n, _ => by simp at n
theorem putF_row {v : V} {d : D} (hv : Rep K mg F ρ v d) : ∀ {ks : List String} {vs : List V} {ds : List D} {f : String}, RepL K mg F ρ vs ds → ks.length = vs.length →
    ∃ vs', putF (Str.ofString f) v (rowF ks vs) = rowF (putNm ks f) vs' ∧ (putNm ks f).length = vs'.length ∧ RepL K mg F ρ vs' (putVs ks ds f d)
  | [], _, _, f, .nil, _ => ⟨[v], rfl, rfl, .cons hv .nil⟩
  | [], _, _, f, .cons _ _, n => by simp at n
  | _ :: _, _, _, _, .nil, n => by simp at n
  | k :: ks, _, _, f, .cons (v := x) (vs := vs) (ds := ds) h t, n => by
    by_cases hk : k = f
    · subst hk
      exact ⟨v :: vs, by simp [putNm, putF, rowF], by simpa [putNm] using n, by simp only [putVs, if_true]; exact .cons hv t⟩
    · obtain ⟨vs', e1, e2, e3⟩ := putF_row hv (f := f) t (by simpa using n)
      have hne : ¬ Str.ofString k = Str.ofString f := fun z => hk (ofS_inj z)
      refine ⟨x :: vs', ?_, by simpa [putNm, hk] using e2, by simp only [putVs, hk, if_false]; exact .cons h e3⟩
      simp only [putNm, hk, if_false, rowF, List.map_cons, List.zip_cons_cons, putF, hne]
      rw [show (ks.map Str.ofString).zip vs = rowF ks vs from rfl, e1]
mutual
def D.lowb (k : Nat) : D → Bool
  | .obj j => decide (j < k)
  | .lst xs => D.lowbs k xs
  | .tup xs => D.lowbs k xs
  | .dct _ xs => D.lowbs k xs
  | .exn _ _ v => D.lowb k v
  | .ins _ _ xs => D.lowbs k xs
  | .fx _ _ xs => D.lowbs k xs
  | _ => true
def D.lowbs (k : Nat) : List D → Bool
  | [] => true
  | d :: ds => D.lowb k d && D.lowbs k ds
end
mutual
theorem Rep.lowb : ∀ {v : V} {d : D}, Rep K mg F ρ v d → D.lowb ρ.length d = true
  | _, _, .non => by simp [D.lowb]
  | _, _, .bl => by simp [D.lowb]
  | _, _, .int => by simp [D.lowb]
  | _, _, .str => by simp [D.lowb]
  | _, _, .lst _ r => by simp only [D.lowb]; exact RepL.lowbs r
  | _, _, .ro _ r => by simp only [D.lowb]; exact RepL.lowbs r
  | _, _, .tup _ r => by simp only [D.lowb]; exact RepL.lowbs r
  | _, _, .dct _ _ r => by simp only [D.lowb]; exact RepL.lowbs r
  | _, _, .obj h => by simp only [D.lowb, decide_eq_true_eq]; exact (List.getElem?_eq_some_iff.mp h).1
  | _, _, .glo _ _ => by simp [D.lowb]
  | _, _, .ty => by simp [D.lowb]
  | _, _, .exn _ _ _ r => by simp only [D.lowb]; exact Rep.lowb r
  | _, _, .ins _ _ _ _ r => by simp only [D.lowb]; exact RepL.lowbs r
  | _, _, .unk => by simp [D.lowb]
  | _, _, .rc _ _ r => by simp only [D.lowb]; exact RepL.lowbs r
  | _, _, .dcf _ _ r => by simp only [D.lowb]; exact RepL.lowbs r
theorem RepL.lowbs : ∀ {vs : List V} {ds : List D}, RepL K mg F ρ vs ds → D.lowbs ρ.length ds = true
  | _, _, .nil => by simp [D.lowbs]
  | _, _, .cons h t => by simp only [D.lowbs, Bool.and_eq_true]; exact ⟨Rep.lowb h, RepL.lowbs t⟩
end
mutual
theorem Rep.down {k : Nat} (hk : ∀ j, j < k → ∀ p, ρ'[j]? = some p → ρ[j]? = some p) : ∀ {v : V} {d : D}, Rep K mg F ρ' v d → D.lowb k d = true → Rep K mg F ρ v d
  | _, _, .non, _ => .non
  | _, _, .bl, _ => .bl
  | _, _, .int, _ => .int
  | _, _, .str, _ => .str
  | _, _, .lst h r, b => .lst h (RepL.down hk r (by simpa only [D.lowb] using b))
  | _, _, .ro h r, b => .ro h (RepL.down hk r (by simpa only [D.lowb] using b))
  | _, _, .tup h r, b => .tup h (RepL.down hk r (by simpa only [D.lowb] using b))
  | _, _, .dct h l r, b => .dct h l (RepL.down hk r (by simpa only [D.lowb] using b))
  | _, _, .obj h, b => .obj (hk _ (by simpa only [D.lowb, decide_eq_true_eq] using b) _ h)
  | _, _, .glo h r, _ => .glo h r
  | _, _, .ty, _ => .ty
  | _, _, .exn h e o r, b => .exn h e o (Rep.down hk r (by simpa only [D.lowb] using b))
  | _, _, .ins h e o l r, b => .ins h e o l (RepL.down hk r (by simpa only [D.lowb] using b))
  | _, _, .unk, _ => .unk
  | _, _, .rc h hd r, b => .rc h hd (RepL.down hk r (by simpa only [D.lowb] using b))
  | _, _, .dcf h l r, b => .dcf h l (RepL.down hk r (by simpa only [D.lowb] using b))
theorem RepL.down {k : Nat} (hk : ∀ j, j < k → ∀ p, ρ'[j]? = some p → ρ[j]? = some p) : ∀ {vs : List V} {ds : List D}, RepL K mg F ρ' vs ds → D.lowbs k ds = true → RepL K mg F ρ vs ds
  | _, _, .nil, _ => .nil
  | _, _, .cons h t, b => by
    simp only [D.lowbs, Bool.and_eq_true] at b
    exact .cons (Rep.down hk h b.1) (RepL.down hk t b.2)
end
theorem OwnR.down {c : Own} {p q : Addr} {H0 : Hp} (h0 : OwnR K mg F ρ H0 q c) (h : OwnR K mg F' ρ' H p c) (hk : ∀ j, j < ρ.length → ∀ p, ρ'[j]? = Option.some p → ρ[j]? = Option.some p) : OwnR K mg F' ρ H p c := by
  cases c with
  | lst ds =>
    obtain ⟨_, _, r0⟩ := h0
    obtain ⟨vs, e, r⟩ := h
    exact ⟨vs, e, r.down hk r0.lowbs⟩
  | dct ks ds =>
    obtain ⟨_, _, _, r0⟩ := h0
    obtain ⟨vs, e, n, r⟩ := h
    exact ⟨vs, e, n, r.down hk r0.lowbs⟩
  | tab P q => exact h
  | ins c kd ks ds =>
    obtain ⟨_, _, _, _, e0, _, _, r0⟩ := h0
    obtain ⟨C, dx, vs, e1, e2, e3, n, r⟩ := h
    exact ⟨C, dx, vs, e1, hk _ (List.getElem?_eq_some_iff.mp e0).1 _ e2, e3, n, r.down hk r0.lowbs⟩
  | idc k =>
    obtain ⟨_, e0, _⟩ := h0
    obtain ⟨q, e1, e2⟩ := h
    exact ⟨q, hk _ (List.getElem?_eq_some_iff.mp e0).1 _ e1, e2⟩
theorem Sim.shrink {F1 H1 : Hp} {ρ1 : List Addr} {μ1 : Mem} (S : Sim K mg Z F ρ μ [] [] H) (S1 : Sim K mg Z F1 ρ1 μ1 [] [] H1) (lr : ∀ (k : Nat) p, ρ[k]? = some p → ρ1[k]? = some p) (ht : ∀ (j : Nat) c, μ[j]? = some c → μ1[j]? = some c) :
    Sim K mg Z F1 ρ μ [] [] H1 ∧ ∀ j, j < ρ.length → ∀ p, ρ1[j]? = some p → ρ[j]? = some p := by
  have hk : ∀ j, j < ρ.length → ∀ p, ρ1[j]? = some p → ρ[j]? = some p := fun j hj p e => by
    have := lr j _ (List.getElem?_eq_getElem hj)
    rw [e] at this
    cases this
    exact List.getElem?_eq_getElem hj
  refine ⟨⟨S1.le, S1.zk, rfl, fun i s e => by simp at e, fun i j p s s' e => by simp at e, fun j c e => ?_, S.mlen, S.nod⟩, hk⟩
  obtain ⟨a0, e0, _, _, r0⟩ := S.mem j c e
  obtain ⟨a, ea, f1, f2, r⟩ := S1.mem j c (ht j c e)
  rw [lr j a0 e0] at ea
  cases ea
  exact ⟨a0, e0, f1, f2, r0.down r hk⟩
theorem Sim.newIns {x dx C : Addr} {c : String} (S : Sim K mg Z F ρ μ [] [] H) (hx : H x = none) (hd : H dx = none) (ne : dx ≠ x) (hc : mg (Str.ofString c) = some (.ref C)) :
    Sim K mg Z F (ρ ++ [x, dx]) (μ ++ [.ins c (μ.length + 1) [] [], .idc μ.length]) [] [] (upd (upd H dx (.own x)) x (.ins C dx [])) ∧ LeR Z ρ (ρ ++ [x, dx]) ∧ Rep K mg F (ρ ++ [x, dx]) (.ref x) (.obj μ.length) := by
  obtain ⟨x1, x2, x3, _⟩ := S.notIn hx
  obtain ⟨d1, d2, d3, _⟩ := S.notIn hd
  have S1 := S.laid (o := .own x) hd
  have hx1 : upd H dx (.own x) x = none := by rw [upd_ne (Ne.symm ne)]; exact hx
  have S2 := S1.laid (o := .ins C dx []) hx1
  have to : ∀ (k : Nat) p, ρ[k]? = some p → (ρ ++ [x, dx])[k]? = some p := fun k p e => by rw [List.getElem?_append_left (List.getElem?_eq_some_iff.mp e).1]; exact e
  have i0 : (ρ ++ [x, dx])[μ.length]? = some x := by rw [← S.mlen]; simp
  have i1 : (ρ ++ [x, dx])[μ.length + 1]? = some dx := by rw [← S.mlen]; simp
  refine ⟨⟨S2.le, S2.zk, rfl, fun i s e => by simp at e, fun i j p s s' e => by simp at e, fun j u e => ?_, by simp [S.mlen], ?_⟩, ⟨to, fun p hp => ?_⟩, .obj i0⟩
  · by_cases hj : j < μ.length
    · rw [List.getElem?_append_left hj] at e
      obtain ⟨a, ea, f1, f2, r⟩ := S2.mem j u e
      exact ⟨a, to j a ea, f1, f2, r.up (fun _ _ z => z) to rfl⟩
    · rw [List.getElem?_append_right (by omega)] at e
      have hj2 : j - μ.length = 0 ∨ j - μ.length = 1 := by
        have := (List.getElem?_eq_some_iff.mp e).1
        simp at this
        omega
      rcases hj2 with hj2 | hj2
      · rw [hj2] at e
        simp at e
        subst e
        have : j = μ.length := by omega
        subst this
        exact ⟨x, i0, x1, x2, C, dx, [], hc, i1, upd_same, rfl, .nil⟩
      · rw [hj2] at e
        simp at e
        subst e
        have : j = μ.length + 1 := by omega
        subst this
        exact ⟨dx, i1, d1, d2, x, i0, by rw [upd_ne ne, upd_same]⟩
  · rw [List.nodup_append]
    refine ⟨S.nod, by simp [Ne.symm ne], fun a ha b hb z => ?_⟩
    subst z
    rcases List.mem_cons.mp hb with z | z
    · subst z; exact x3 ha
    · rw [List.mem_singleton.mp z] at ha; exact d3 ha
  · rcases List.mem_append.mp hp with hp | hp
    · exact .inl hp
    · rcases List.mem_cons.mp hp with z | z
      · subst z; exact .inr x2
      · rw [List.mem_singleton.mp z]; exact .inr d2
theorem Sim.settle {F1 H1 : Hp} {ρ1 : List Addr} {μ1 : Mem} {x dx : Addr} {c : String} {ks : List String} {ds : List D} (S : Sim K mg Z F ρ μ [] [] H) (S1 : Sim K mg Z F1 ρ1 μ1 [] [] H1) (l : Le Z F F1) (lr : LeR Z (ρ ++ [x, dx]) ρ1)
    (ht : ∀ (j : Nat) u, μ[j]? = some u → μ1[j]? = some u) (h0 : μ1[μ.length]? = some (.ins c (μ.length + 1) ks ds)) (h1 : μ1[μ.length + 1]? = some (.idc μ.length)) (hb : D.lowbs μ.length ds = true) :
    ∃ F2, Le Z F F2 ∧ Sim K mg Z F2 ρ μ [] [] H1 ∧ Rep K mg F2 ρ (.ref x) (.ins c ks ds) := by
  have to : ∀ (k : Nat) p, ρ[k]? = some p → ρ1[k]? = some p := fun k p e => lr.to k p (by rw [List.getElem?_append_left (List.getElem?_eq_some_iff.mp e).1]; exact e)
  have i0 : ρ1[μ.length]? = some x := lr.to _ _ (by rw [← S.mlen]; simp)
  have i1 : ρ1[μ.length + 1]? = some dx := lr.to _ _ (by rw [← S.mlen]; simp)
  obtain ⟨S2, hk⟩ := S.shrink S1 to ht
  obtain ⟨a, ea, fa, za, C, dx', vs, hc, hdx, hH, n, r⟩ := S1.mem _ _ h0
  rw [i0] at ea; cases ea
  rw [i1] at hdx; cases hdx
  obtain ⟨b, eb, fb, zb, q, hq, hHd⟩ := S1.mem _ _ h1
  rw [i1] at eb; cases eb
  rw [i0] at hq; cases hq
  have nx : x ∉ ρ := fun hm => by
    obtain ⟨j, hj⟩ := List.getElem?_of_mem hm
    have h3 := to j x hj
    have h4 := (List.getElem?_inj (List.getElem?_eq_some_iff.mp i0).1 S1.nod).mp (i0.trans h3.symm)
    have := (List.getElem?_eq_some_iff.mp hj).1
    rw [S.mlen] at this
    omega
  have nd : dx ∉ ρ := fun hm => by
    obtain ⟨j, hj⟩ := List.getElem?_of_mem hm
    have h3 := to j dx hj
    have h4 := (List.getElem?_inj (List.getElem?_eq_some_iff.mp i1).1 S1.nod).mp (i1.trans h3.symm)
    have := (List.getElem?_eq_some_iff.mp hj).1
    rw [S.mlen] at this
    omega
  have ne : dx ≠ x := fun z => by
    subst z
    rw [hH] at hHd
    cases hHd
  obtain ⟨l1, S3⟩ := S2.freeze hH ⟨fa, za, nx⟩ fun i s e => by simp at e
  have fd : upd F1 x (.ins C dx (rowF ks vs)) dx = none := by rw [upd_ne ne]; exact fb
  obtain ⟨l2, S4⟩ := S3.freeze hHd ⟨fd, zb, nd⟩ fun i s e => by simp at e
  have l12 := l1.trans l2
  refine ⟨_, l.trans l12, S4, .ins (dx := dx) hc ?_ upd_same n ?_⟩
  · rw [upd_ne (Ne.symm ne), upd_same]
  · have hb' : D.lowbs ρ.length ds = true := by rw [S.mlen]; exact hb
    exact (RepL.down hk r hb').up l12.to fun _ _ z => z
end
end FL
namespace FL
open PySem PySem.Spec PyProof.Rows L2
def insOf (μ : Mem) : D → Option (String × List String × List D)
  | .ins c ks vs => some (c, ks, vs)
  | .obj k => match μ[k]? with
    | some (.ins c _ ks vs) => some (c, ks, vs)
    | _ => none
  | _ => none
def OR.self (δ : FL.Loc) : OR → Option D
  | .d x => some x
  | .i j => match δ[j]? with
    | some (some (.fr x)) => some x
    | _ => none
section
variable {K : PySem.W.Frag} {mg : Str → Option Value} {Z F F' : Hp} {ρ ρ' : List Addr} {μ : Mem} {δ : FL.Loc} {σ : L2.St} {H H' : Hp} {v : V} {d : D}
theorem OR.self_rep {r : OR} (S : Sim K mg Z F ρ μ δ σ H) (h : OrR K mg F ρ σ v r) (e : r.self δ = some d) : Rep K mg F ρ v d := by
  cases r with
  | d d' => cases e; exact h
  | i j =>
    have h' : σ[j]? = some (some v) := h
    have e : (match δ[j]? with | some (some (.fr x)) => some x | _ => none) = some d := e
    cases q : δ[j]? with
    | none => rw [q] at e; cases e
    | some o =>
      cases o with
      | none => rw [q] at e; cases e
      | some s =>
        cases s with
        | own o => rw [q] at e; cases e
        | fr d' =>
          rw [q] at e
          cases e
          obtain ⟨w, ew, r⟩ := S.slot j _ q
          rw [h'] at ew
          cases ew
          exact r
theorem ins_at {c : String} {ks : List String} {ds : List D} (S : Sim K mg Z F ρ μ δ σ H) (h : Rep K mg F ρ v d) (e : insOf μ d = some (c, ks, ds)) :
    ∃ p C dx vs, v = .ref p ∧ mg (Str.ofString c) = some (.ref C) ∧ H p = some (.ins C dx (rowF ks vs)) ∧ ks.length = vs.length ∧ RepL K mg F ρ vs ds := by
  cases h with
  | ins hc e1 e2 n r =>
    cases e
    exact ⟨_, _, _, _, rfl, hc, (S.le _ _ e1).elim (fun q => q) fun ⟨_, _, z, _⟩ => (nomatch z), n, r⟩
  | @obj k p hp =>
    have e : (match μ[k]? with | some (.ins c _ ks vs) => some (c, ks, vs) | _ => none) = some (c, ks, ds) := e
    cases q : μ[k]? with
    | none => rw [q] at e; cases e
    | some o =>
      cases o with
      | ins c' kd ks' vs' =>
        rw [q] at e
        cases e
        obtain ⟨a, ea, _, _, C, dx, vs, e1, e2, e3, n, r⟩ := S.mem k _ q
        rw [hp] at ea
        cases ea
        exact ⟨p, C, dx, vs, rfl, e1, e3, n, r⟩
      | _ => rw [q] at e; cases e
  | _ => cases e
end
def Att.isF : Att → Bool
  | .fld => true
  | _ => false
theorem Att.isF_eq {a : Att} (h : a.isF = true) : a = .fld := by cases a <;> first | rfl | cases h
def AttOk (K : PySem.W.Frag) (mg : Str → Option Value) (f : String) (C : Addr) : Att → Prop
  | .fld => NoAttr K C (Str.ofString f)
  | .con d => ∃ v u, Con K C (Str.ofString f) v u ∧ ∀ F ρ, Rep K mg F ρ v d
  | .no => True
def AttsOk (K : PySem.W.Frag) (mg : Str → Option Value) (at_ : String → String → Att) : Prop := ∀ c f C, at_ c f ≠ .no → mg (Str.ofString c) = some (.ref C) → Cls K C ∧ AttOk K mg f C (at_ c f)
def mAt (at_ : String → String → Att) (f : String) (o : Opn) : ME := fun δ μ => (o.ev δ μ).bind fun r δ1 μ1 => match (r.self δ1).bind (insOf μ1) with
  | some (c, ks, ds) => (match at_ c f with
    | .fld => lift ((getF ks ds f).map .fr) δ1 μ1
    | .con d => if getF ks ds f = none then .ok (.fr d) δ1 μ1 else .bad
    | .no => .bad)
  | none => .bad
section
variable {X : Cx} {W : WX} {k : Nat} {e o : Expr} {pos pos' : Pos} {oo : Opn} {f : String} {at_ : String → String → Att}
theorem VR.fr' {Z F : Hp} {ρ : List Addr} {δ : FL.Loc} {σ : L2.St} {H : Hp} {v : V} {d : D} (r : Rep X.K X.mg F ρ v d) : VR X.K X.mg Z F ρ δ σ H v (.fr d) := ⟨r, fun o p z => by cases z⟩
def tAt (K : PySem.W.Frag) (ta : TE) (f : Str) : TE := fun σ H Q => ta σ H fun x H1 => ∃ a C dx fs, x = .ref a ∧ H1 a = some (.ins C dx fs) ∧ Cls K C ∧ ((NoAttr K C f ∧ ∃ v, fs.lookup f = some v ∧ Q v H1) ∨ ∃ v u, Con K C f v u ∧ fs.lookup f = none ∧ Q v H1)
theorem pe_at {ta : TE} {f : Str} (he : PE X e ta) (hb : attributeBase e f X.env (eval e X.env) = eval e X.env) : PE X (.Attribute e f pos) (tAt X.K ta f) :=
  ⟨fun pins s σ H Q I h => attr_of hb (thn (he.run pins s σ H _ I h) fun u s1 ⟨x, H1, I1, rx, a, C, dx, fs, ex, ea, c, q⟩ => by
    subst ex
    obtain rfl : u = Value.ref a := rx
    rcases q with ⟨n, v, l, q⟩ | ⟨v, u0, k, l, q⟩
    · exact getattr_ok I1 ea c n l fun u' s2 I2 ru => ⟨v, H1, I2, ru, q⟩
    · exact getcon_ok I1 ea c k l fun s2 I2 => ⟨v, H1, I2, k.rel, q⟩)⟩
theorem je_at (AO : AttsOk X.K X.mg at_) (ho : JO X W o oo) (hb : attributeBase o (Str.ofString f) X.env (eval o X.env) = eval o X.env := by rfl) : JE X W (.Attribute o (Str.ofString f) pos) (mAt at_ f oo) := by
  refine (pe_at ho hb).imp fun σ H Q ⟨Z, F, ρ, μ, δ, S, q⟩ => ⟨Z, F, ρ, μ, δ, S, (FinE.bind q).imp fun r δ1 μ1 H1 F1 ρ1 l lr S1 ⟨_, _, _, p⟩ x hx => ?_⟩
  cases es : (r.self δ1).bind (insOf μ1) with
  | none => simp only [es] at p; exact p.elim
  | some t =>
    obtain ⟨c, ks, ds⟩ := t
    simp only [es] at p
    obtain ⟨d, e1, e2⟩ := Option.bind_eq_some_iff.mp es
    obtain ⟨a, C, dx, vs, rfl, hc, hH, n, rl⟩ := ins_at S1 (OR.self_rep S1 hx e1) e2
    have ao := AO c f C
    cases ea : at_ c f with
    | no => simp only [ea] at p; exact p.elim
    | fld =>
      simp only [ea] at p ao
      obtain ⟨cl, no⟩ := ao (fun z => nomatch z) hc
      unfold lift at p
      cases eg : getF ks ds f with
      | none => simp only [eg] at p; exact p.elim
      | some d' =>
        simp only [eg] at p
        obtain ⟨v, lv, rv⟩ := getF_row rl eg
        exact ⟨a, C, dx, _, rfl, hH, cl, .inl ⟨no, v, lv, p H1 F1 ρ1 .refl .refl S1 v (VR.fr' rv)⟩⟩
    | con d' =>
      simp only [ea] at p ao
      obtain ⟨cl, v, u, co, rv⟩ := ao (fun z => nomatch z) hc
      by_cases eg : getF ks ds f = none
      · rw [if_pos eg] at p
        exact ⟨a, C, dx, _, rfl, hH, cl, .inr ⟨v, u, co, getF_none rl n eg, p H1 F1 ρ1 .refl .refl S1 v (VR.fr' (rv F1 ρ1))⟩⟩
      · rw [if_neg eg] at p; exact p.elim
def mStF (at_ : String → String → Att) (f : String) (o : Opn) (m : ME) : MS := fun δ μ => (m δ μ).thn fun s δ1 μ1 => (o.ev δ1 μ1).thn fun r δ2 μ2 => match r.self δ2 with
  | some (.obj k) => (match μ2[k]? with
    | some (.ins c kd ks vs) => if (at_ c f).isF = true ∧ ks.length < 1000 then .nx δ2 (μ2.set k (.ins c kd (putNm ks f) (putVs ks vs f s.d))) else .bad
    | _ => .bad)
  | _ => .bad
theorem js_stF {m : ME} (AO : AttsOk X.K X.mg at_) (ho : JO X W o oo) (he : JE X W e m) (hs : swapsWith e (some (.Attribute o (Str.ofString f) pos')) pos.line X.env = pure false := by rfl) : JS X W (.Assign [.Attribute o (Str.ofString f) pos'] e pos) (mStF at_ f oo m) := by
  refine (ps_fld ho he.locked hs).imp fun D' σ H ⟨Z, F, ρ, μ, δ, S, q⟩ => ⟨Z, F, ρ, μ, δ, S, (FinS.thn q).imp fun s δ1 μ1 H1 F1 ρ1 l lr S1 ⟨_, p⟩ y hy => ?_⟩
  refine ⟨Z, F1, ρ1, μ1, δ1, S1, (FinS.thn p).imp fun r δ2 μ2 H2 F2 ρ2 l2 lr2 S2 ⟨_, p2⟩ x hx => ?_⟩
  have hy2 := hy.up l2.to lr2.to
  cases es : r.self δ2 with
  | none => simp only [es] at p2; exact p2.elim
  | some d =>
    cases d with
    | obj k =>
      simp only [es] at p2
      cases em : μ2[k]? with
      | none => simp only [em] at p2; exact p2.elim
      | some u =>
        cases u with
        | ins c kd ks vs =>
          simp only [em] at p2
          by_cases hc : (at_ c f).isF = true ∧ ks.length < 1000
          · rw [if_pos hc] at p2
            have hr := OR.self_rep S2 hx es
            cases hr with
            | obj hp =>
              obtain ⟨a, ea, f1, f2, C, dx, ws, e1, e2, e3, n, rl⟩ := S2.mem k _ em
              rw [hp] at ea
              cases ea
              have ao := AO c f C
              simp only [Att.isF_eq hc.1] at ao
              obtain ⟨cl, no⟩ := ao (fun z => nomatch z) e1
              obtain ⟨vs', g1, g2, g3⟩ := putF_row hy2 (f := f) rl n
              refine ⟨_, C, dx, _, rfl, e3, cl, no, ?_, ?_⟩
              · have : (rowF ks ws).length ≤ ks.length := by simp [rowF]; omega
                exact Nat.lt_of_le_of_lt this hc.2
              · rw [g1]
                exact p2.nx (S2.writeM em hp ⟨C, dx, vs', e1, e2, upd_same, g2, g3⟩)
          · rw [if_neg hc] at p2; exact p2.elim
        | _ => simp only [em] at p2; exact p2.elim
    | _ => simp only [es] at p2; exact p2.elim
end
section
variable {X : Cx} {W : WX} {k j n : Nat} {N : List Str} {sc : Scope} {e : Expr} {es : List Expr} {pos p : Pos} {f C : Addr} {fd : FuncData} {ps : List Str} {ds : List Value} {dvs : List V} {dds : List D} {m : MF} {x : Str}
def mkS0 (c : String) (mi : MF) : MF := fun ds μ => match mi (.obj μ.length :: ds) (μ ++ [.ins c (μ.length + 1) [] [], .idc μ.length]) with
  | .ok (.fr .non) μ' => OutF.ok (.fr (.obj μ.length)) μ'
  | .exc x μ' => .exc x μ'
  | _ => .bad
noncomputable def mkS (c : String) (mi : MF) : MF := Classical.choose (sealed (mkS0 c mi))
theorem mkS_eq {c : String} {mi : MF} {ds : List D} {μ : Mem} : mkS c mi ds μ = mkS0 c mi ds μ := congrFun (congrFun (Classical.choose_spec (sealed (mkS0 c mi))) ds) μ
def Keeps (μ μ' : Mem) : Prop := ∀ (j : Nat) u, μ[j]? = some u → μ'[j]? = some u
open Classical in
noncomputable def lockI (c : String) (μ : Mem) : OutF → OutF
  | .ok (.fr .non) μ' => (match μ'[μ.length]?, μ'[μ.length + 1]? with
    | some (.ins c' kd ks vs), some (.idc k) => if (c' = c ∧ kd = μ.length + 1 ∧ k = μ.length) ∧ Keeps μ μ' ∧ D.lowbs μ.length vs = true then .ok (.fr (.ins c ks vs)) μ else .bad
    | _, _ => .bad)
  | .exc x μ' => if Keeps μ μ' ∧ D.lowb μ.length x.arg = true then .exc x μ else .bad
  | _ => .bad
noncomputable def mkF0 (c : String) (mi : MF) : MF := fun ds μ => lockI c μ (mi (.obj μ.length :: ds) (μ ++ [.ins c (μ.length + 1) [] [], .idc μ.length]))
noncomputable def mkF (c : String) (mi : MF) : MF := Classical.choose (sealed (mkF0 c mi))
theorem mkF_eq {c : String} {mi : MF} {ds : List D} {μ : Mem} : mkF c mi ds μ = mkF0 c mi ds μ := congrFun (congrFun (Classical.choose_spec (sealed (mkF0 c mi))) ds) μ
end
section
variable {K : PySem.W.Frag} {mg : Str → Option Value} {H : Hp} {C x dx : Addr} {c : String} {mi : MF} {n : Nat} {vs : List V} {Q : VK} {E : XK}
theorem ExcR.down {F1 : Hp} {ρ ρ1 : List Addr} {cv : Value} {d : Option Addr} {xx : Exc} {k : Nat} (hk : ∀ j, j < k → ∀ p, ρ1[j]? = some p → ρ[j]? = some p) (h : ExcR K mg F1 ρ1 cv d xx) (hb : D.lowb k xx.arg = true) : ExcR K mg F1 ρ cv d xx := by
  obtain ⟨Cc, dd, v, h1, h2, h3, h4, h5⟩ := h
  exact ⟨Cc, dd, v, h1, h2, h3, h4, h5.down hk hb⟩
theorem new_spS (hc : mg (Str.ofString c) = some (.ref C)) (hx : H x = none) (hd : H dx = none) (ne : dx ≠ x) (h : spM K mg (mkS c mi) n vs H Q E) :
    spM K mg mi (n + 1) (.ref x :: vs) (upd (upd H dx (.own x)) x (.ins C dx [])) (fun v H2 => v = .non ∧ Q (.ref x) H2) E := by
  obtain ⟨hl, Z, F, ρ, μ, ds, S, r, q⟩ := h
  obtain ⟨S2, lr, rp⟩ := S.newIns hx hd ne hc
  refine ⟨by rw [List.length_cons, hl], Z, F, _, _, .obj μ.length :: ds, S2, .cons rp (r.up (fun _ _ z => z) lr.to), ?_⟩
  rw [mkS_eq] at q
  unfold mkS0 at q
  generalize mi (.obj μ.length :: ds) (μ ++ [.ins c (μ.length + 1) [] [], .idc μ.length]) = o at q
  cases o with
  | bad => exact q
  | exc xx μ' => exact fun cv d H' F' ρ' l lr' S' er => q cv d H' F' ρ' l (lr.trans lr') S' er
  | ok s μ' =>
    cases s with
    | own o => exact q.elim
    | fr d =>
      cases d with
      | non =>
        intro v H' F' ρ' l lr' S' rv
        cases rv
        exact ⟨rfl, q (.ref x) H' F' ρ' l (lr.trans lr') S' (rp.up l.to lr'.to)⟩
      | _ => exact q.elim
theorem new_spF (hc : mg (Str.ofString c) = some (.ref C)) (hx : H x = none) (hd : H dx = none) (ne : dx ≠ x) (h : spM K mg (mkF c mi) n vs H Q E) :
    spM K mg mi (n + 1) (.ref x :: vs) (upd (upd H dx (.own x)) x (.ins C dx [])) (fun v H2 => v = .non ∧ Q (.ref x) H2) E := by
  obtain ⟨hl, Z, F, ρ, μ, ds, S, r, q⟩ := h
  obtain ⟨S2, lr, rp⟩ := S.newIns hx hd ne hc
  refine ⟨by rw [List.length_cons, hl], Z, F, _, _, .obj μ.length :: ds, S2, .cons rp (r.up (fun _ _ z => z) lr.to), ?_⟩
  rw [mkF_eq] at q
  unfold mkF0 at q
  generalize mi (.obj μ.length :: ds) (μ ++ [.ins c (μ.length + 1) [] [], .idc μ.length]) = o at q
  cases o with
  | bad => exact q
  | exc xx μ' =>
    intro cv d H' F' ρ' l lr' S' er
    unfold lockI at q
    dsimp only at q
    by_cases hk : Keeps μ μ' ∧ D.lowb μ.length xx.arg = true
    · rw [if_pos hk] at q
      obtain ⟨S3, dn⟩ := S.shrink S' (fun j p e => lr'.to j p (lr.to j p e)) hk.1
      exact q cv d H' F' ρ l .refl S3 (ExcR.down dn er (by rw [S.mlen]; exact hk.2))
    · rw [if_neg hk] at q; exact q.elim
  | ok s μ' =>
    cases s with
    | own o => exact q.elim
    | fr d =>
      cases d with
      | non =>
        intro v H' F' ρ' l lr' S' rv
        cases rv
        refine ⟨rfl, ?_⟩
        unfold lockI at q
        cases e0 : μ'[μ.length]? with
        | none => simp only [e0] at q; exact q.elim
        | some u0 =>
          cases u0 with
          | ins c' kd ks ws =>
            cases e1 : μ'[μ.length + 1]? with
            | none => simp only [e0, e1] at q; exact q.elim
            | some u1 =>
              cases u1 with
              | idc k =>
                simp only [e0, e1] at q
                by_cases hk : (c' = c ∧ kd = μ.length + 1 ∧ k = μ.length) ∧ Keeps μ μ' ∧ D.lowbs μ.length ws = true
                · rw [if_pos hk] at q
                  obtain ⟨⟨rfl, rfl, rfl⟩, h2, h3⟩ := hk
                  obtain ⟨F2, l2, S3, rp2⟩ := S.settle S' l lr' h2 e0 e1 h3
                  exact q (.ref x) H' F2 ρ l2 .refl S3 rp2
                · rw [if_neg hk] at q; exact q.elim
              | _ => simp only [e0, e1] at q; exact q.elim
          | _ => simp only [e0] at q; exact q.elim
      | _ => exact q.elim
end
section
variable {X : Cx} {W : WX} {k j n : Nat} {N : List Str} {sc : Scope} {e : Expr} {es : List Expr} {pos p : Pos} {f C : Addr} {fd : FuncData} {ps : List Str} {ds : List Value} {dvs : List V} {dds : List D} {m mi : MF} {x : Str} {c : String}
theorem RmG.make {A : Around} (r : RmG (k + 1) A) (C : Addr) (us : List Value) (kw : List (Str × Value)) : RmG k (A.under (.builtin "type.__call__" ⟨.ref C :: us, kw⟩)) :=
  ⟨r.r.make C us kw, by have := r.g; first | exact this | (simp [Around.under]; exact this)⟩
theorem run_makeG {pins : List (Addr × Obj)} {σ : L2.St} {H : Hp} {s : Shared} {Q : VK} {E : XK} {us : List Value} {vs : List V} (M : Mk X.K C f) (F : FnG X.prog X.w X.K X.mg X.base (L2.CX X.prog X.w) j f fd ps (spM X.K X.mg mi (n + 1))) (hr : RmG (j + 1) X.A) (hb : Binds X.K fd ps ds)
    (hd : Vals dvs ds) (hx : PassesAt (L2.CX X.prog X.w) X σ E) (I : Inv X pins σ H s) (r : Vals vs us)
    (h : ∀ xa dx, H xa = none → H dx = none → dx ≠ xa → spM X.K X.mg mi (n + 1) (.ref xa :: (vs ++ dvs)) (upd (upd H dx (.own xa)) xa (.ins C dx [])) (fun v H2 => v = .non ∧ Q (.ref xa) H2) E) :
    wpAny (model X.prog X.w) X.A (call (.ref C) us) (EP X pins σ Q) X.xe s := by
  have new := h (s.heap.objs.size + 1) s.heap.objs.size (I.hok.fresh (Nat.le_succ _)) (I.hok.fresh (Nat.le_refl _)) (Nat.ne_of_lt (Nat.lt_succ_self _))
  have J := Inv.made (C := C) I
  have rv : Vals (V.ref (s.heap.objs.size + 1) :: (vs ++ dvs)) (Value.ref (s.heap.objs.size + 1) :: (us ++ ds)) := .cons rfl (r.append hd)
  have many : (Value.ref (s.heap.objs.size + 1) :: us ++ ds).length = ps.length := (F.len _ _ _ _ new ▸ rv.length).symm
  refine wpAny_call (make_map (f := f) I.kIn M.makes M.init (beq_iff_eq.mp M.fn) (codeAny_mono (F.run _ X.stack _ _ ⟨Value.ref (s.heap.objs.size + 1) :: us, []⟩ _ _ _ E (hr.make C us []) (J.env0.make C us []) (hb _ (Value.ref (s.heap.objs.size + 1) :: us) J.kIn many) rv new) fun res t ht => ?_))
  match res, ht with
  | .error er, ht => exact hx pins _ _ er t J ht
  | .ok (.ret u), ht =>
    obtain ⟨v, H', I3, rvu, ev, q3⟩ := J.after ht
    cases ev
    exact ⟨rvu, V.ref (s.heap.objs.size + 1), H', I3, rfl, q3⟩
theorem CallD.mkF (hc : X.mg (Str.ofString c) = some (.ref C)) (M : Mk X.K C f) (F : FnG X.prog X.w X.K X.mg X.base (L2.CX X.prog X.w) j f fd ps (spM X.K X.mg mi (n + 1))) (hb : Binds X.K fd ps ds) (hd : Vals dvs ds) (hdd : ∀ F ρ, RepL X.K X.mg F ρ dvs dds) : CallD X (j + 1) C (FL.mkF c mi) n dds :=
  ⟨dvs, hdd, fun hr pins σ H s us vs Q E hx I r h => run_makeG M F hr hb hd hx I r fun xa dx h1 h2 h3 => new_spF hc h1 h2 h3 h⟩
theorem CallD.mkS (hc : X.mg (Str.ofString c) = some (.ref C)) (M : Mk X.K C f) (F : FnG X.prog X.w X.K X.mg X.base (L2.CX X.prog X.w) j f fd ps (spM X.K X.mg mi (n + 1))) (hb : Binds X.K fd ps ds) (hd : Vals dvs ds) (hdd : ∀ F ρ, RepL X.K X.mg F ρ dvs dds) : CallD X (j + 1) C (FL.mkS c mi) n dds :=
  ⟨dvs, hdd, fun hr pins σ H s us vs Q E hx I r h => run_makeG M F hr hb hd hx I r fun xa dx h1 h2 h3 => new_spS hc h1 h2 h3 h⟩
end
end FL
namespace FL
open PySem PySem.Spec PyProof.Rows L2
theorem rep_nth {K : PySem.W.Frag} {mg : Str → Option Value} {F : Hp} {ρ : List Addr} : ∀ {vs : List V} {ds : List D}, RepL K mg F ρ vs ds → ∀ i : Nat, (vs[i]? = none ∧ ds[i]? = none) ∨ ∃ v d, vs[i]? = some v ∧ ds[i]? = some d ∧ Rep K mg F ρ v d
  | _, _, .nil, i => .inl ⟨rfl, rfl⟩
  | _, _, .cons h t, 0 => .inr ⟨_, _, rfl, rfl, h⟩
  | _, _, .cons h t, i + 1 => by simpa using rep_nth t i
theorem pickS_rep {K : PySem.W.Frag} {mg : Str → Option Value} {F : Hp} {ρ : List Addr} {vs dv zs : List V} {us dw ws : List D} (h1 : RepL K mg F ρ vs us) (h2 : RepL K mg F ρ dv dw) (h3 : RepL K mg F ρ zs ws) : ∀ sel : List Sel, RepL K mg F ρ (pickS sel vs dv zs) (pickS sel us dw ws)
  | [] => .nil
  | a :: sel => by
    have ih := pickS_rep h1 h2 h3 sel
    have q : (a.get vs dv zs = none ∧ a.get us dw ws = none) ∨ ∃ v u, a.get vs dv zs = some v ∧ a.get us dw ws = some u ∧ Rep K mg F ρ v u := by
      cases a with
      | pos i => exact rep_nth h1 i
      | key i => exact rep_nth h3 i
      | dfl i => exact rep_nth h2 i
    unfold pickS at ih ⊢
    rcases q with ⟨e1, e2⟩ | ⟨v, u, e1, e2, r⟩
    · rw [List.filterMap_cons_none e1, List.filterMap_cons_none e2]; exact ih
    · rw [List.filterMap_cons_some e1, List.filterMap_cons_some e2]; exact .cons r ih
def BindW1 (K : PySem.W.Frag) (fd : FuncData) (ps : List Str) (n : Nat) (ks : List Str) (sel : List Sel) (dw : List Value) : Prop :=
  ∀ (s : Shared) (x : Value) (us ws : List Value), K.In s.heap → us.length = n → ws.length = ks.length → BindsTo s fd ⟨x :: us, ks.zip ws⟩ (ps.zip (x :: pickS sel us dw ws))
section
variable {X : Cx} {W : WX} {k j n N : Nat} {e : Expr} {es : List Expr} {kws : List Keyword} {pos p : Pos} {f C a : Addr} {fd : FuncData} {ps ks : List Str} {ds : List Value} {dvs : List V} {dds : List D} {m mi : MF} {x : Str} {c : String} {sel : List Sel}
theorem run_makeW {pins : List (Addr × Obj)} {σ : L2.St} {H : Hp} {s : Shared} {Q : VK} {E : XK} {us ws : List Value} {vs zs : List V} (M : Mk X.K C f) (F : FnG X.prog X.w X.K X.mg X.base (L2.CX X.prog X.w) j f fd ps (spM X.K X.mg mi (N + 1))) (hr : RmG (j + 1) X.A)
    (hb : BindW1 X.K fd ps n ks sel ds) (hd : Vals dvs ds) (hx : PassesAt (L2.CX X.prog X.w) X σ E) (I : Inv X pins σ H s) (r : Vals vs us) (rz : Vals zs ws) (l1 : vs.length = n) (l2 : zs.length = ks.length)
    (h : ∀ xa dx, H xa = none → H dx = none → dx ≠ xa → spM X.K X.mg mi (N + 1) (.ref xa :: pickS sel vs dvs zs) (upd (upd H dx (.own xa)) xa (.ins C dx [])) (fun v H2 => v = .non ∧ Q (.ref xa) H2) E) :
    wpAny (model X.prog X.w) X.A (call (.ref C) us (ks.zip ws)) (EP X pins σ Q) X.xe s := by
  have new := h (s.heap.objs.size + 1) s.heap.objs.size (I.hok.fresh (Nat.le_succ _)) (I.hok.fresh (Nat.le_refl _)) (Nat.ne_of_lt (Nat.lt_succ_self _))
  have J := Inv.made (C := C) I
  have rv : Vals (V.ref (s.heap.objs.size + 1) :: pickS sel vs dvs zs) (Value.ref (s.heap.objs.size + 1) :: pickS sel us ds ws) := .cons rfl (pickS_vals r hd rz sel)
  have b := hb _ (Value.ref (s.heap.objs.size + 1)) us ws J.kIn (by rw [← r.length, l1]) (by rw [← rz.length, l2])
  refine wpAny_call (make_map (f := f) I.kIn M.makes M.init (beq_iff_eq.mp M.fn) (codeAny_mono (F.run _ X.stack _ _ ⟨Value.ref (s.heap.objs.size + 1) :: us, ks.zip ws⟩ _ _ _ E (hr.make C us (ks.zip ws)) (J.env0.make C us (ks.zip ws)) b rv new) fun res t ht => ?_))
  match res, ht with
  | .error er, ht => exact hx pins _ _ er t J ht
  | .ok (.ret u), ht =>
    obtain ⟨v, H', I3, rvu, ev, q3⟩ := J.after ht
    cases ev
    exact ⟨rvu, V.ref (s.heap.objs.size + 1), H', I3, rfl, q3⟩
theorem CallW.mkF (hc : X.mg (Str.ofString c) = some (.ref C)) (M : Mk X.K C f) (F : FnG X.prog X.w X.K X.mg X.base (L2.CX X.prog X.w) j f fd ps (spM X.K X.mg mi (N + 1))) (hb : BindW1 X.K fd ps n ks sel ds) (hd : Vals dvs ds) (hdd : ∀ F ρ, RepL X.K X.mg F ρ dvs dds)
    (len : ∀ {α : Type} (vs ds zs : List α), vs.length = n → ds.length = dds.length → zs.length = ks.length → (pickS sel vs ds zs).length = N) : CallW X (j + 1) C n ks sel (FL.mkF c mi) N dds :=
  ⟨M.kp, len, dvs, hdd, fun hr pins σ H s us ws vs zs Q E hx I r rz l1 l2 h => run_makeW M F hr hb hd hx I r rz l1 l2 fun xa dx h1 h2 h3 => new_spF hc h1 h2 h3 h⟩
theorem CallW.mkS (hc : X.mg (Str.ofString c) = some (.ref C)) (M : Mk X.K C f) (F : FnG X.prog X.w X.K X.mg X.base (L2.CX X.prog X.w) j f fd ps (spM X.K X.mg mi (N + 1))) (hb : BindW1 X.K fd ps n ks sel ds) (hd : Vals dvs ds) (hdd : ∀ F ρ, RepL X.K X.mg F ρ dvs dds)
    (len : ∀ {α : Type} (vs ds zs : List α), vs.length = n → ds.length = dds.length → zs.length = ks.length → (pickS sel vs ds zs).length = N) : CallW X (j + 1) C n ks sel (FL.mkS c mi) N dds :=
  ⟨M.kp, len, dvs, hdd, fun hr pins σ H s us ws vs zs Q E hx I r rz l1 l2 h => run_makeW M F hr hb hd hx I r rz l1 l2 fun xa dx h1 h2 h3 => new_spS hc h1 h2 h3 h⟩
def tCallW (sp : Sp) (n l : Nat) (sel : List Sel) (dvs : List V) (E : L2.St → XK) (t tk : TA) : TE := fun σ H Q => t σ H fun vs H1 => tk σ H1 fun zs H2 => vs.length = n ∧ zs.length = l ∧ sp (pickS sel vs dvs zs) H2 Q (E σ)
theorem pe_callW {E : L2.St → XK} {t tk : TA} {sp : Sp} (hk : PySem.W.keepIn X.K (.ref a) = true) (hr : ∀ (pins : List (Addr × Obj)) (σ : L2.St) (H : Hp) (s : Shared) (us ws : List Value) (vs zs : List V) (Q : VK) (E : XK), PassesAt (L2.CX X.prog X.w) X σ E → Inv X pins σ H s → Vals vs us → Vals zs ws → vs.length = n → zs.length = ks.length →
      sp (pickS sel vs dvs zs) H Q E → wpAny (model X.prog X.w) X.A (call (.ref a) us (ks.zip ws)) (EP X pins σ Q) X.xe s)
    (hg : Gl X x) (hm : X.mg x = some (.ref a)) (hx : ∀ σ, PassesAt (L2.CX X.prog X.w) X σ (E σ)) (ha : PA X (e :: es) t) (hkw : PK X kws tk) (hdb : (x == ("__debug__" : Str)) = false)
    (hall : (backToKw pos (keywordEach kws X.env)).all (·.1.isSome) = true) (hks : (backToKw pos (keywordEach kws X.env)).filterMap (·.1) = ks)
    (he : starEach (e :: es) X.env = (false, eval e X.env) :: starEach es X.env) (hpl : ((backTo pos (starEach (e :: es) X.env)).any (·.1) || (backToKw pos (keywordEach kws X.env)).any (·.1.isNone)) = false) :
    PE X (.Call (.Name x p) (e :: es) kws pos) (tCallW sp n ks.length sel dvs E t tk) := by
  refine ⟨fun pins s σ H Q I h => wpAny_Call_Name_kw (ld_glob I hg hm (PySem.W.callWith_KW (h₀ := X.base) I.ok.mod.kin hk hall (thn (ha.run pos pins s σ H _ I h) fun us s1 ⟨vs, H1, I1, r, q⟩ => thn (hkw.run pos pins s1 σ H1 _ I1 q) fun ws s2 ⟨zs, H2, I2, rz, l1, l2, q2⟩ => ⟨I2.kIn, ?_⟩) hpl he) hdb)⟩
  rw [hks]
  exact hr pins σ H2 s2 us ws vs zs Q _ (hx σ) I2 r rz l1 l2 q2
abbrev JK (X : Cx) (W : WX) (kws : List Keyword) (ms : List ME) : Prop := PK X kws (rdA X W ms)
theorem pk_imp {t t' : TA} (h : PK X kws t) (i : ∀ σ H Q, t' σ H Q → t σ H Q) : PK X kws t' := ⟨fun pos pins s σ H Q I q => h.run pos pins s σ H Q I (i σ H Q q)⟩
theorem jk_nil : JK X W [] [] := pk_imp pk_nil fun σ H Q ⟨Z, F, ρ, μ, δ, S, q⟩ => q H F ρ .refl .refl S [] .nil
def mCallK (m : MF) (sel : List Sel) (ms mks : List ME) (dds : List D) : ME := fun δ μ => (evA ms δ μ).bind fun ds δ1 μ1 => (evA mks δ1 μ1).bind fun zs δ2 μ2 => match m (pickS sel ds dds zs) μ2 with
  | .ok s μ3 => .ok s δ2 μ3
  | .exc x μ3 => .exc x δ2 μ3
  | .bad => .bad
theorem callW_read {ms mks : List ME} (hdd : ∀ F ρ, RepL X.K X.mg F ρ dvs dds) (len : ∀ {α : Type} (vs ds zs : List α), vs.length = n → ds.length = dds.length → zs.length = ks.length → (pickS sel vs ds zs).length = N) (h1 : ms.length = n) (h2 : mks.length = ks.length) :
    ∀ σ H Q, rdE X W (mCallK m sel ms mks dds) σ H Q → tCallW (spM X.K X.mg m N) n ks.length sel dvs (WE W) (rdA X W ms) (rdA X W mks) σ H Q := by
  intro σ H Q ⟨Z, F, ρ, μ, δ, S, q⟩
  refine ⟨Z, F, ρ, μ, δ, S, ?_⟩
  unfold mCallK at q
  cases ea : evA ms δ μ with
  | bad => rw [ea] at q; exact q
  | exc x δ1 μ1 => rw [ea] at q; exact q
  | ok ds δ1 μ1 =>
    rw [ea, Out.bind_ok] at q
    intro H1 F1 ρ1 l1 lr1 S1 vs hv
    refine ⟨Z, F1, ρ1, μ1, δ1, S1, ?_⟩
    cases eb : evA mks δ1 μ1 with
    | bad => rw [eb] at q; exact q
    | exc x δ2 μ2 => rw [eb] at q; exact q.mono l1 lr1
    | ok zs δ2 μ2 =>
      rw [eb, Out.bind_ok] at q
      intro H2 F2 ρ2 l2 lr2 S2 ws hw
      have q2 := (q.mono l1 lr1).mono l2 lr2
      have hv2 := hv.up l2.to lr2.to
      have l3 : vs.length = n := by rw [hv2.len, ← evA_len ea, h1]
      have l4 : ws.length = ks.length := by rw [hw.len, ← evA_len eb, h2]
      have hp := pickS_rep hv2 (hdd F2 ρ2) hw sel
      refine ⟨l3, l4, len vs dvs ws l3 (hdd F2 ρ2).len l4, zone Z H2 δ2 σ, F2, ρ2, μ2, pickS sel ds dds zs, S2.enter, hp, ?_⟩
      generalize m (pickS sel ds dds zs) μ2 = o at q2
      cases o with
      | ok s μ3 => exact fun v H' F' ρ' l lr S' rv => q2 H' F' ρ' (S2.leLeave l) (S2.leRLeave lr) (S2.leave S' l lr) v (S2.came rv)
      | exc x μ3 => exact fun c d H' F' ρ' l lr S' er => q2 c d H' F' ρ' (S2.leLeave l) (S2.leRLeave lr) (S2.leave S' l lr) er
      | bad => exact q2
theorem je_callW {sc : Scope} {nm : List Str} {ms mks : List ME} (Cc : Cs X W k nm sc) (F : CallW X j a n ks sel m N dds) (hm : X.mg x = some (.ref a)) (hjk : j ≤ k) (hg : glC sc x = true) (ha : JA X W (e :: es) ms) (hkw : JK X W kws mks) (h1 : ms.length = n) (h2 : mks.length = ks.length)
    (hall : (backToKw pos (keywordEach kws X.env)).all (·.1.isSome) = true := by rfl) (hks : (backToKw pos (keywordEach kws X.env)).filterMap (·.1) = ks := by rfl)
    (he : starEach (e :: es) X.env = (false, eval e X.env) :: starEach es X.env := by rfl) (hpl : ((backTo pos (starEach (e :: es) X.env)).any (·.1) || (backToKw pos (keywordEach kws X.env)).any (·.1.isNone)) = false := by rfl) :
    JE X W (.Call (.Name x p) (e :: es) kws pos) (mCallK m sel ms mks dds) := by
  obtain ⟨dvs, hdd, run⟩ := F.ex
  obtain ⟨g1, g2, g3⟩ := Cc.gl hg
  exact (pe_callW F.kp (run (Cc.rm.mono hjk)) g1 hm (passAt Cc.tk) ha hkw g2 hall hks he hpl).imp (callW_read hdd F.len h1 h2)
end
end FL
namespace FL
open PySem PySem.Spec PyProof.Rows L2
theorem RmG.in1 {A : Around} {k : Nat} (r : RmG (k + 1) A) : RmG k A.in1 := ⟨r.r.in1, r.g⟩
def noX : XK := fun _ _ _ => False
section
variable {X : Cx} {W : WX} {k j n N : Nat} {e o : Expr} {es : List Expr} {kws : List Keyword} {pos p apos : Pos} {C g a dx q : Addr} {fd : FuncData} {ps : List Str} {fs : List (Str × V)} {f : Str} {sp : Sp} {nm : Str}
theorem getprop_G {pins : List (Addr × Obj)} {σ : L2.St} {H : Hp} {s : Shared} {Q : VK} {b : Bool} {E' : Value → Shared → Prop} (I : Inv X pins σ H s) (ea : H a = some (.ins C dx fs)) (c : Cls X.K C) (hp : PropOf X.K C f q g)
    (F : FnG X.prog X.w X.K X.mg X.base (L2.CX X.prog X.w) k g fd [nm] sp) (hr : RmG (k + 1) X.A) (hb : Binds X.K fd [nm] []) (h : sp [.ref a] H Q noX) : wpAny (model X.prog X.w) X.A (getAttr (.ref a) f b) (EP X pins σ Q) E' s := by
  obtain ⟨mA, O, _, _, _, _⟩ := ins_get I.hok ea
  obtain ⟨od, J, _⟩ := O.look
  obtain ⟨rest, rc⟩ := hp.rec_
  have I1 := I.tok (s.toks + 1)
  have hc : (PySem.W.clsIn X.K C).isSome = true := by
    obtain ⟨cd, e, _⟩ := PySem.W.any_some c.hd
    rw [e] <;> rfl
  refine PySem.W.get_bind I.kIn J (PySem.W.plainGet_of (c.get f)).1 (PySem.W.findObj_data hc hp.at_ hp.get hp.tak) (PySem.W.plainGet_of (c.get f)).2 (wpAny_call (PySem.W.prop_get (s := { s with toks := s.toks + 1 }) (K := X.K) I.kIn rc ?_))
  refine codeAny_mono (F.run X.A.in1 X.stack { s with toks := s.toks + 1 } H ⟨[.ref a], []⟩ [.ref a] [.ref a] Q noX hr.in1 I1.env0.in1 (hb _ [.ref a] I1.kIn rfl) (.cons rfl .nil) h) fun res t ht => ?_
  match res, ht with
  | .error er, ⟨_, _, _, _, _, _, _, _, _, _, _, _, z⟩ => exact z.elim
  | .ok (.ret u), ht =>
    obtain ⟨v, H', I3, rv, q3⟩ := I1.after ht
    show wpAny _ _ (handedOut u) _ _ _
    rw [PySem.W.handedOut_of (handed_of rv)]
    exact wpAny_pure ⟨v, H', I3, rv, q3⟩
def mProp (pt : String → String → Option MF) (f : String) (o : Opn) : ME := fun δ μ => (o.ev δ μ).bind fun r δ1 μ1 => match r.self δ1 with
  | some d => (match insOf μ1 d with
    | some (c, _, _) => (match pt c f with
      | some m => (match m [d] μ1 with
        | .ok s μ2 => .ok s δ1 μ2
        | _ => .bad)
      | none => .bad)
    | none => .bad)
  | none => .bad
def tPropG (X : Cx) (ta : TE) (f : Str) (k : Nat) : TE := fun σ H Q => ta σ H fun x H1 => ∃ a C dx fs p g fd nm sp, x = .ref a ∧ H1 a = some (.ins C dx fs) ∧ Cls X.K C ∧ PropOf X.K C f p g ∧ FnG X.prog X.w X.K X.mg X.base (L2.CX X.prog X.w) k g fd [nm] sp ∧ Binds X.K fd [nm] [] ∧ sp [.ref a] H1 Q noX
theorem pe_propG {ta : TE} (he : PE X e ta) (hr : RmG (k + 1) X.A) (hb : attributeBase e f X.env (eval e X.env) = eval e X.env) : PE X (.Attribute e f pos) (tPropG X ta f k) :=
  ⟨fun pins s σ H Q I h => attr_of hb (thn (he.run pins s σ H _ I h) fun u s1 ⟨x, H1, I1, rx, a, C, dx, fs, p, g, fd, nm, sp, ex, ea, c, hp, F, b, q⟩ => by
    subst ex
    obtain rfl : u = Value.ref a := rx
    exact getprop_G I1 ea c hp F hr b q)⟩
theorem prop_read {pt : String → String → Option MF} {f : String} {oo : Opn} (P : PropsOk X j pt) : ∀ σ H Q, rdE X W (mProp pt f oo) σ H Q → tPropG X (rdO X W oo) (Str.ofString f) j σ H Q := by
  intro σ H Q ⟨Z, F, ρ, μ, δ, S, q⟩
  refine ⟨Z, F, ρ, μ, δ, S, (FinE.bind q).imp fun r δ1 μ1 H1 F1 ρ1 l lr S1 ⟨_, _, _, z⟩ x hx => ?_⟩
  cases e1 : r.self δ1 with
  | none => simp only [e1] at z; exact z.elim
  | some d =>
    simp only [e1] at z
    cases e2 : insOf μ1 d with
    | none => simp only [e2] at z; exact z.elim
    | some t =>
      obtain ⟨c, ks, ds⟩ := t
      simp only [e2] at z
      cases e3 : pt c f with
      | none => simp only [e3] at z; exact z.elim
      | some m =>
        simp only [e3] at z
        have hr := OR.self_rep S1 hx e1
        obtain ⟨a, C, dx, vs, rfl, hc, hH, n, rl⟩ := ins_at S1 hr e2
        obtain ⟨cl, p, g, fd, nm, hp, G, b⟩ := P c f m e3 C hc
        refine ⟨a, C, dx, _, p, g, fd, nm, spM X.K X.mg m 1, rfl, hH, cl, hp, G, b, rfl, zone Z H1 δ1 σ, F1, ρ1, μ1, [d], S1.enter, .cons hr .nil, ?_⟩
        generalize m [d] μ1 = o at z
        cases o with
        | ok s μ2 => exact fun v H' F' ρ' l lr S' rv => z H' F' ρ' (S1.leLeave l) (S1.leRLeave lr) (S1.leave S' l lr) v (S1.came rv)
        | exc x μ2 => exact z.elim
        | bad => exact z.elim
theorem Cs.prop {sc : Scope} {nl : List Str} {pt : String → String → Option MF} {f : String} {oo : Opn} (Cc : Cs X W k nl sc) (P : PropsOk X j pt) (hjk : j + 1 ≤ k) (ho : JO X W o oo) (hb : attributeBase o (Str.ofString f) X.env (eval o X.env) = eval o X.env := by rfl) : JE X W (.Attribute o (Str.ofString f) pos) (mProp pt f oo) :=
  (pe_propG ho (Cc.rm.mono hjk) hb).imp (prop_read P)
def mMeth (mt : String → String → Nat → Option MF) (f : String) (o : Opn) (ms : List ME) : ME := fun δ μ => (o.ev δ μ).bind fun r δ1 μ1 => match r.self δ1 with
  | some d => (match insOf μ1 d with
    | some (c, ks, vs) => if getF ks vs f = none then (match mt c f ms.length with
      | some m => (evA ms δ1 μ1).bind fun ds δ2 μ2 => (match m (d :: ds) μ2 with
        | .ok s μ3 => .ok s δ2 μ3
        | .exc x μ3 => .exc x δ2 μ3
        | .bad => .bad)
      | none => .bad) else .bad
    | none => .bad)
  | none => .bad
def tMethG (X : Cx) (ta : TE) (m : Str) (k n : Nat) (E : L2.St → XK) (t : TA) : TE := fun σ H Q => ta σ H fun x H1 => ∃ a C dx fs g fd ps ds dvs sp, x = .ref a ∧ H1 a = some (.ins C dx fs) ∧ Cls X.K C ∧ Meth X.K C m g ∧ fs.lookup m = none ∧ FnG X.prog X.w X.K X.mg X.base (L2.CX X.prog X.w) k g fd ps sp ∧ Binds X.K fd ps ds ∧ Vals dvs ds ∧
  t σ H1 fun vs H2 => sp ((.ref a :: vs) ++ dvs) H2 Q (E σ)
theorem pe_methG {ta : TE} {t : TA} {m : Str} {E : L2.St → XK} {pl : Sem Bool} (he : PE X o ta) (hr : RmG k X.A) (hx : ∀ σ, PassesAt (L2.CX X.prog X.w) X σ (E σ)) (ha : PA X (e :: es) t)
    (hst : starEach (e :: es) X.env = (false, eval e X.env) :: starEach es X.env) (hpl : (backTo pos (starEach es X.env)).any (·.1) = false)
    (ht : eval (.Call (.Attribute o m apos) (e :: es) [] pos) X.env = (do
      let ov ← eval o X.env
      standAt apos.atName
      let (f, first) ← holding [ov] (getMethod ov m pl)
      callWith pos f first (backTo pos (starEach (e :: es) X.env)) (backToKw pos (keywordEach [] X.env)))) :
    PE X (.Call (.Attribute o m apos) (e :: es) [] pos) (tMethG X ta m k n E t) := by
  refine ⟨fun pins s σ H Q I h => PySem.W.methodCall_KW (pl := pl) (thn (he.run pins s σ H _ I h) fun u s1 ⟨x, H1, I1, rx, a, C, dx, fs, g, fd, ps, ds, dvs, sp, ex, ea, c, hm, l, F, b, hd, q⟩ => ?_) ht⟩
  subst ex
  obtain rfl : u = Value.ref a := rx
  refine getmeth_ok I1 ea c hm l ?_
  refine PySem.W.callWith_K (first := [.ref a]) (h₀ := X.base) I.ok.mod.kin hm.kp (thn (ha.run pos pins s1 σ H1 _ I1 q) fun us s2 ⟨vs, H2, I2, r, q2⟩ => ⟨I2.kIn, ?_⟩) hst hpl
  exact run_callG (us := .ref a :: us) (vs := .ref a :: vs) F hr b hd (hx σ) I2 (.cons rfl r) q2
theorem pe_methG0 {ta : TE} {m : Str} {E : L2.St → XK} {pl : Sem Bool} (he : PE X o ta) (hr : RmG k X.A) (hx : ∀ σ, PassesAt (L2.CX X.prog X.w) X σ (E σ))
    (ht : eval (.Call (.Attribute o m apos) [] [] pos) X.env = (do
      let ov ← eval o X.env
      standAt apos.atName
      let (f, first) ← holding [ov] (getMethod ov m pl)
      callWith pos f first (backTo pos (starEach [] X.env)) (backToKw pos (keywordEach [] X.env)))) :
    PE X (.Call (.Attribute o m apos) [] [] pos) (tMethG X ta m k n E tNil) := by
  refine ⟨fun pins s σ H Q I h => PySem.W.methodCall_KW (pl := pl) (thn (he.run pins s σ H _ I h) fun u s1 ⟨x, H1, I1, rx, a, C, dx, fs, g, fd, ps, ds, dvs, sp, ex, ea, c, hm, l, F, b, hd, q⟩ => ?_) ht⟩
  subst ex
  obtain rfl : u = Value.ref a := rx
  refine getmeth_ok I1 ea c hm l ?_
  exact PySem.W.callWith_K0 (first := [.ref a]) I1.kIn hm.kp (run_callG (us := [.ref a]) (vs := [.ref a]) F hr b hd (hx σ) I1 (.cons rfl .nil) q)
theorem meth_read {mt : String → String → Nat → Option MF} {f : String} {oo : Opn} {ms : List ME} (P : MethsOk X j mt) : ∀ σ H Q, rdE X W (mMeth mt f oo ms) σ H Q → tMethG X (rdO X W oo) (Str.ofString f) j n (WE W) (rdA X W ms) σ H Q := by
  intro σ H Q ⟨Z, F, ρ, μ, δ, S, q⟩
  refine ⟨Z, F, ρ, μ, δ, S, (FinE.bind q).imp fun r δ1 μ1 H1 F1 ρ1 l lr S1 ⟨_, _, _, z⟩ x hx => ?_⟩
  cases e1 : r.self δ1 with
  | none => simp only [e1] at z; exact z.elim
  | some d =>
    simp only [e1] at z
    cases e2 : insOf μ1 d with
    | none => simp only [e2] at z; exact z.elim
    | some t =>
      obtain ⟨c, ks, vs0⟩ := t
      simp only [e2] at z
      by_cases e0 : getF ks vs0 f = none
      · rw [if_pos e0] at z
        cases e3 : mt c f ms.length with
        | none => simp only [e3] at z; exact z.elim
        | some m =>
          simp only [e3] at z
          have hr := OR.self_rep S1 hx e1
          obtain ⟨a, C, dx, vs, rfl, hc, hH, n', rl⟩ := ins_at S1 hr e2
          obtain ⟨cl, g, fd, ps, ds, dvs, dds, m', N, hm, G, b, hd, hdd, hN, hmm⟩ := P c f _ m e3 C hc
          refine ⟨a, C, dx, _, g, fd, ps, ds, dvs, spM X.K X.mg m' N, rfl, hH, cl, hm, getF_none rl n' e0, G, b, hd, Z, F1, ρ1, μ1, δ1, S1, ?_⟩
          cases ea : evA ms δ1 μ1 with
          | bad => rw [ea] at z; exact z
          | exc x δ2 μ2 => rw [ea] at z; exact z
          | ok us δ2 μ2 =>
            rw [ea, Out.bind_ok] at z
            intro H2 F2 ρ2 l2 lr2 S2 ws hw
            have z2 := z.mono l2 lr2
            have hr2 := hr.up l2.to lr2.to
            have hp := (RepL.cons hr2 hw).app (hdd F2 ρ2)
            have lw : us.length = ms.length := (evA_len ea).symm
            refine ⟨by rw [hp.len, List.length_append, List.length_cons, lw]; exact (by omega : ms.length + 1 + dds.length = N), zone Z H2 δ2 σ, F2, ρ2, μ2, (d :: us) ++ dds, S2.enter, hp, ?_⟩
            rw [← hmm]
            generalize m (d :: us) μ2 = o at z2
            cases o with
            | ok s μ3 => exact fun v H' F' ρ' l lr S' rv => z2 H' F' ρ' (S2.leLeave l) (S2.leRLeave lr) (S2.leave S' l lr) v (S2.came rv)
            | exc x μ3 => exact fun c d H' F' ρ' l lr S' er => z2 c d H' F' ρ' (S2.leLeave l) (S2.leRLeave lr) (S2.leave S' l lr) er
            | bad => exact z2
      · rw [if_neg e0] at z; exact z.elim
theorem Cs.meth {sc : Scope} {nl : List Str} {mt : String → String → Nat → Option MF} {f : String} {oo : Opn} {ms : List ME} {pl : Sem Bool} (Cc : Cs X W k nl sc) (P : MethsOk X j mt) (hjk : j ≤ k) (ho : JO X W o oo) (ha : JA X W (e :: es) ms)
    (hst : starEach (e :: es) X.env = (false, eval e X.env) :: starEach es X.env := by rfl) (hpl : (backTo pos (starEach es X.env)).any (·.1) = false := by rfl)
    (ht : eval (.Call (.Attribute o (Str.ofString f) apos) (e :: es) [] pos) X.env = (do
      let ov ← eval o X.env
      standAt apos.atName
      let (f, first) ← holding [ov] (getMethod ov (Str.ofString f) pl)
      callWith pos f first (backTo pos (starEach (e :: es) X.env)) (backToKw pos (keywordEach [] X.env))) := by rfl) :
    JE X W (.Call (.Attribute o (Str.ofString f) apos) (e :: es) [] pos) (mMeth mt f oo ms) :=
  (pe_methG (n := 0) (pl := pl) ho (Cc.rm.mono hjk) (passAt Cc.tk) ha hst hpl ht).imp (meth_read P)
theorem Cs.meth0 {sc : Scope} {nl : List Str} {mt : String → String → Nat → Option MF} {f : String} {oo : Opn} {pl : Sem Bool} (Cc : Cs X W k nl sc) (P : MethsOk X j mt) (hjk : j ≤ k) (ho : JO X W o oo)
    (ht : eval (.Call (.Attribute o (Str.ofString f) apos) [] [] pos) X.env = (do
      let ov ← eval o X.env
      standAt apos.atName
      let (f, first) ← holding [ov] (getMethod ov (Str.ofString f) pl)
      callWith pos f first (backTo pos (starEach [] X.env)) (backToKw pos (keywordEach [] X.env))) := by rfl) :
    JE X W (.Call (.Attribute o (Str.ofString f) apos) [] [] pos) (mMeth mt f oo []) := by
  refine (pe_methG0 (n := 0) (pl := pl) ho (Cc.rm.mono hjk) (passAt Cc.tk) ht).imp fun σ H Q h => ?_
  obtain ⟨Z, F, ρ, μ, δ, S, q⟩ := meth_read (W := W) (n := 0) P σ H Q h
  refine ⟨Z, F, ρ, μ, δ, S, q.imp fun r δ1 μ1 H1 F1 ρ1 l lr S1 z x hx => ?_⟩
  obtain ⟨a, C, dx, fs, g, fd, ps, ds, dvs, sp, e1, e2, e3, e4, e5, e6, e7, e8, Z', F', ρ', μ', δ', S', q'⟩ := z x hx
  exact ⟨a, C, dx, fs, g, fd, ps, ds, dvs, sp, e1, e2, e3, e4, e5, e6, e7, e8, q' H1 F' ρ' .refl .refl S' [] .nil⟩
end
end FL
namespace FL
open PySem PySem.Spec PyProof.Rows L2
structure ClsScope (N ps : List Str) (sc : Scope) : Prop where
  kind : sc.kind = .function
  co : sc.isCoroutine = false
  gen : sc.isGenerator = false
  nd : N.Nodup
  pre : N.take ps.length = ps
  par : ∀ x ∈ ps, sc.names.lookup x = some .local
  nocell : ∀ y ∈ sc.names, y.2 ≠ .cell
  free : ∀ y ∈ sc.names, y.2 = .free → y.1 = "__class__"
  ls : sc.names.lookup ("super" : Str) = some .globalImplicit
  lc : sc.names.lookup ("__class__" : Str) = some .free
def clsX (P : Program) (w : World) (K : PySem.W.Frag) (mg : Str → Option Value) (base : Heap) (N : List Str) (qual : Str) (scope : Scope) (f : Addr) (cd : Value) (cc : Addr) (A : Around) (outer : List Env) (s : Shared) (H : Hp) (E : XK) : Cx where
  prog := P
  w := w
  K := K
  mg := mg
  base := base
  A := A.deeper (clsE qual scope s.heap.objs.size f cd cc)
  N := N
  s_0 := s
  H_0 := H
  env := clsE qual scope s.heap.objs.size f cd cc
  outer := outer
  stack := clsE qual scope s.heap.objs.size f cd cc :: outer
  ex := []
  calm := true
  fn := fun y => decide (y ≠ "__class__")
  pn := []
  xe := fun e s' => wpAny (model P w) (A.deeper (clsE qual scope s.heap.objs.size f cd cc)) (leaving (clsE qual scope s.heap.objs.size f cd cc) e) (fun _ s'' => L2.CX P w outer H s E e s'') (fun e' s'' => L2.CX P w outer H s E e' s'') s'
theorem clo_one {cc : Addr} {y : Str} {c : Addr} (e : ([(("__class__" : Str), cc)] : List (Str × Addr)).lookup y = some c) : y = "__class__" ∧ c = cc := by
  rw [List.lookup_cons] at e
  by_cases z : y = "__class__"
  · subst z
    simp at e
    exact ⟨rfl, e.symm⟩
  · rw [show (y == ("__class__" : Str)) = false by simpa using z] at e
    cases e
theorem cls_start {P : Program} {w : World} {K : PySem.W.Frag} {mg : Str → Option Value} {base : Heap} {N ps : List Str} {qual : Str} {scope : Scope} {f cc D : Addr} {cd : Value} {A : Around} {outer : List Env} {s : Shared} {H : Hp} {E : XK} {us : List Value} {vs : List V} {h₁ : Heap} {tk : Nat} {cl : Value} {cld : Option Addr} {csl : Array (Option Value)}
    (S : ClsScope N ps scope) (hd : A.handled = none) (e0 : Env0 P w K mg base A outer s H) (hcell : K.lookup cc = some ⟨cl, cld, .cell (some (.ref D)), csl⟩) (hl : vs.length = ps.length) (r : Vals vs us)
    (hns : h₁.Ns s.heap.objs.size fun y => (ps.zip us).reverse.lookup y) (kp : ∀ b o, s.heap.get? b = some o → h₁.get? b = some o) :
    Inv (clsX P w K mg base N qual scope f cd cc A outer s H E) [] (L2.start N vs) H { s with heap := h₁, toks := tk } := by
  have noA : ∀ b : Addr, b ∉ (clsX P w K mg base N qual scope f cd cc A outer s H E).ex := fun b z => absurd (show b ∈ ([] : List Addr) from z) (by simp)
  have hbase := e0.mod.kin _ _ hcell
  have hpl : ps.length ≤ N.length := by
    have q := congrArg List.length S.pre
    rw [List.length_take] at q
    omega
  refine ⟨⟨e0.mod, S.kind, rfl, rfl, Nat.le_refl _, fun y z c e1 e2 => ?_, fun y hy => ?_, fun y c z e => ?_, fun _ => hd, Around.frames_deeper e0.frames, .inr ⟨rfl, rfl⟩, fun b z => absurd z (noA b), e0.bs, e0.bsz, fun b _ _ => noA b, fun b z => absurd z (noA b), e0.funs, e0.frf⟩,
    rfl, e0.bare, Un.kept kp, ⟨_, hns, fun i y v e1 e2 e3 => ?_⟩, fun y c e => ?_, e0.hok.fresh (Nat.le_refl _), fun y c e => ?_, fun q hq => absurd (show q ∈ ([] : List (Addr × Obj)) from hq) (by simp), e0.hok.kept kp, ?_⟩
  · rw [(clo_one e1).1, (clo_one e2).1]
  · have hy : scope.names.lookup y = some .cell ∨ scope.names.lookup y = some .free := hy
    rcases hy with hy | hy
    · exact absurd rfl (S.nocell _ (PySem.mem_of_lookup hy))
    · have e : y = "__class__" := S.free _ (PySem.mem_of_lookup hy) rfl
      exact ⟨cc, by rw [e]; show ([(("__class__" : Str), cc)] : List (Str × Addr)).lookup ("__class__" : Str) = some cc; simp⟩
  · exact absurd (clo_one e).1 (of_decide_eq_true z)
  · have e1 : N[i]? = some y := e1
    unfold L2.start at e2
    by_cases h1 : i < vs.length
    · have hq : ps[i]? = some y := by
        rw [← S.pre, List.getElem?_take_of_lt (by omega)]
        exact e1
      rw [List.getElem?_append_left (by rw [List.length_map]; exact h1), List.getElem?_map] at e2
      have ha : vs[i]? = some v := by
        cases e : vs[i]? with
        | none => rw [e] at e2; cases e2
        | some a => rw [e] at e2; cases e2; rfl
      obtain ⟨u, hu, rv⟩ := r.get ha
      have ndP : ps.Nodup := by
        rw [← S.pre]
        exact S.nd.sublist (List.take_sublist _ _)
      exact ⟨u, rv, .inl ⟨S.par y (List.mem_of_getElem? hq), NdefX.zip_look ndP hq hu⟩⟩
    · rw [List.getElem?_append_right (by rw [List.length_map]; omega), List.getElem?_replicate] at e2
      split at e2 <;> cases e2
  · have e : ([(("__class__" : Str), cc)] : List (Str × Addr)).lookup y = some c := e
    rw [(clo_one e).2]
    exact ⟨_, _, kp _ _ (e0.bs _ _ hbase).1, rfl⟩
  · have e : ([(("__class__" : Str), cc)] : List (Str × Addr)).lookup y = some c := e
    rw [(clo_one e).2]
    exact (e0.bs _ _ hbase).2
  · unfold L2.start
    show _ = N.length
    rw [List.length_append, List.length_map, List.length_replicate]
    omega
structure PWb (X : Cx) (body rest : List Stmt) (t : TS) : Prop where
  run : ∀ (pins : List (Addr × Obj)) (s : Shared) (σ : L2.St) (H : Hp) (D : Ends), Inv X pins σ H s → t D σ H → _root_.PySem.wpAt (model X.prog X.w) X.A (.func body X.env) (execs rest X.env) (SP X pins D) X.xe s
structure PWs (X : Cx) (body : List Stmt) (st : Stmt) (t : TS) : Prop where
  run : ∀ (pins : List (Addr × Obj)) (s : Shared) (σ : L2.St) (H : Hp) (D : Ends), Inv X pins σ H s → t D σ H → _root_.PySem.wpAt (model X.prog X.w) X.A (.func body X.env) (exec st X.env) (SP X pins D) X.xe s
section
variable {X : Cx} {body rest : List Stmt} {st : Stmt} {t u : TS}
theorem pwb_of (h : PSs X rest t) : PWb X body rest t := ⟨fun pins s σ H D I q => wpAt_of_wpAny (h.run pins s σ H D I q)⟩
theorem pws_of (h : PS X st t) : PWs X body st t := ⟨fun pins s σ H D I q => wpAt_of_wpAny (h.run pins s σ H D I q)⟩
theorem pwb_cons (h1 : PWs X body st t) (h2 : PWb X body rest u) : PWb X body (st :: rest) (tSeq t u) := by
  refine ⟨fun pins s σ H D I h => ks_wpAt_execs_cons (ks_wpAt_mono (h1.run pins s σ H { D with nx := u D } I h) (fun f s1 q => ?_) fun _ _ z => z)⟩
  cases f with
  | next =>
    obtain ⟨σ', H', I', q⟩ := q
    exact h2.run pins s1 σ' H' D I' q
  | ret v => exact q
  | brk => exact q
  | cont => exact q
theorem PWb.imp (h : PWb X body rest t) (i : ∀ D σ H, u D σ H → t D σ H) : PWb X body rest u := ⟨fun pins s σ H D I q => h.run pins s σ H D I (i D σ H q)⟩
theorem PWs.imp (h : PWs X body st t) (i : ∀ D σ H, u D σ H → t D σ H) : PWs X body st u := ⟨fun pins s σ H D I q => h.run pins s σ H D I (i D σ H q)⟩
end
abbrev JWb (X : Cx) (W : WX) (body rest : List Stmt) (m : MS) : Prop := PWb X body rest (rdS X W m)
abbrev JWs (X : Cx) (W : WX) (body : List Stmt) (st : Stmt) (m : MS) : Prop := PWs X body st (rdS X W m)
section
variable {X : Cx} {W : WX} {body rest : List Stmt} {st : Stmt} {m n : MS}
theorem jwb_of (h : JSs X W rest m) : JWb X W body rest m := pwb_of h
theorem jws_of (h : JS X W st m) : JWs X W body st m := pws_of h
theorem jwb_cons (h : JWs X W body st m) (t : JWb X W body rest n) : JWb X W body (st :: rest) (mSeq m n) :=
  (pwb_cons h t).imp fun D σ H ⟨Z, F, ρ, μ, δ, S, q⟩ => ⟨Z, F, ρ, μ, δ, S, FinS.seq q⟩
end
theorem fnG_c {P : Program} {w : World} {K : PySem.W.Frag} {mg : Str → Option Value} {base : Heap} {k n : Nat} {f cda cc D : Addr} {x qual : Str} {st : Stmt} {fd : FuncData} {N ps : List Str} {m : MS} {dV : Value} (F : FdC K x qual st f fd dV cda cc D) (S : ClsScope N ps (defScope st)) (hn : ps.length = n)
    (hbody : ∀ (X : Cx) (W : WX), X.prog = P → X.w = w → X.K = K → X.mg = mg → X.base = base → Cd X W k N (defScope st) → CsK X f cda cc D st → JWb X W (defBody st) (defBody st) m) : FnG P w K mg base (L2.CX P w) (k + 1) f fd ps (spM K mg (mFn N.length m) n) := by
  subst hn
  obtain ⟨oc, od, kV, doc, pm, an, ct, osl, rfl, lk⟩ := F.ex
  obtain ⟨cl, cld, csl, hcell⟩ := F.cell
  refine ⟨fun vs H Q E h => h.1, fun A outer s H args us vs Q E hr e0 hb r hsp => ?_⟩
  obtain ⟨hl, Z, F0, ρ, μ, ds, S0, rd, q⟩ := hsp
  have inK : K.In s.heap := e0.mod.kin.keeps fun b o e => (e0.bs b o e).1
  have lim : s.heap.NoLimit := e0.mod.nolimit.keeps fun b o e => (e0.bs b o e).1
  refine PySem.ks_codeAny_call_defAt hr.r.depth (inK _ _ lk) rfl lim (PySem.W.codeRec_of inK F.cd) rfl hb S.nocell (fun y hy => S.par y.1 (List.of_mem_zip hy).1) (fun h₁ hns kp => ?_) S.co S.gen S.kind
  have I : Inv (clsX P w K mg base N qual (defScope st) f (.ref cda) cc A outer s H E) [] (L2.start N vs) H { s with heap := h₁, toks := s.toks + (ps.zip us).length } := cls_start S hr.r.hd e0 hcell hl r hns kp
  have C : Cd (clsX P w K mg base N qual (defScope st) f (.ref cda) cc A outer s H E) (fun c d _ H => E c d H) k N (defScope st) := by
    refine ⟨⟨rfl, hr.deeper _, takes_of rfl rfl rfl rfl, rfl, rfl, S.nd⟩, passes_of rfl, fun y hy => decide_eq_true fun z => ?_⟩
    subst z
    have hy : (defScope st).names.lookup ("__class__" : Str) = some .local ∨ (defScope st).names.lookup ("__class__" : Str) = some .cell := hy
    rw [S.lc] at hy
    rcases hy with hy | hy <;> cases hy
  have J := hbody _ _ rfl rfl rfl rfl rfl C ⟨_, x, qual, dV, F, rfl⟩
  rw [mFn_eq] at q
  refine ks_wpAt_mono (J.run [] _ (L2.start N vs) H { nx := fun _ H' => Q .non H', rt := Q } I ?_) (fun fl s' hs => ?_) fun e s' hs => hs
  · refine ⟨Z, F0, ρ, μ, _, S0.begin rd, ?_⟩
    generalize m (startD N.length ds) μ = o at q
    cases o with
    | nx δ μ' => exact fun σ' H' F' ρ' l lr S' => q .non H' F' ρ' l lr S'.drop .non
    | rt s μ' => exact fun v H' F' ρ' l lr S' rv => q v H' F' ρ' l lr S' rv
    | bk δ μ' => exact q.elim
    | ct δ μ' => exact q.elim
    | exc x δ μ' => exact fun c d σ' H' F' ρ' l lr S' er => q c d H' F' ρ' l lr S'.drop er
    | bad => exact q
  · cases fl with
    | ret u =>
      obtain ⟨v, σ', H', J, rv, q⟩ := hs
      exact ⟨v, H', J.os, J.bare, J.base, J.hok, rv, q⟩
    | next =>
      obtain ⟨σ', H', J, q⟩ := hs
      exact ⟨.non, H', J.os, J.bare, J.base, J.hok, rfl, q⟩
    | brk =>
      obtain ⟨_, _, _, z⟩ := hs
      exact z.elim
    | cont =>
      obtain ⟨_, _, _, z⟩ := hs
      exact z.elim
end FL
namespace FL
open PySem PySem.Spec PyProof.Rows L2
def mSuper (c : String) (mi : MF) (ms : List ME) : MS := fun (δ : FL.Loc) (μ : Mem) => match δ[0]? with
  | some (some (FL.Slot.fr d)) => (match insOf μ d with
    | some (c', _, _) => if c' = c then (evA ms δ μ).thn fun ds δ1 μ1 => (match mi (d :: ds) μ1 with
      | .ok _ μ2 => .nx δ1 μ2
      | .exc x μ2 => .exc x δ1 μ2
      | .bad => .bad) else .bad
    | none => .bad)
  | _ => .bad
section
variable {X : Cx} {W : WX} {k j N : Nat} {nl : List Str} {sc : Scope} {e : Expr} {es : List Expr} {q0 q1 q2 q4 q5 : Pos} {f cda cc D : Addr} {p0 : Str} {c m : String} {mi : MF} {ms : List ME} {body : List Stmt} {pl : Sem Bool}
theorem jws_super (C : Cd X W k nl sc) (T : SupT X f cda cc D p0) (G : SupG X j c m D mi N) (hjk : j ≤ k) (ha : JA X W (e :: es) ms) (hN : ms.length + 1 = N) (hm : (Str.ofString m == ("__class__" : Str)) = false)
    (ev : eval (.Call (.Attribute (.Call (.Name "super" q0) [] [] q1) (Str.ofString m) q2) (e :: es) [] q4) X.env = (do
      let ov ← attributeBase (.Call (.Name "super" q0) [] [] q1) (Str.ofString m) X.env (eval (.Call (.Name "super" q0) [] [] q1) X.env)
      standAt q2.atName
      let (f, first) ← holding [ov] (getMethod ov (Str.ofString m) pl)
      callWith q4 f first (backTo q4 (starEach (e :: es) X.env)) []))
    (sw : swapsWith (.Call (.Attribute (.Call (.Name "super" q0) [] [] q1) (Str.ofString m) q2) (e :: es) [] q4) none q5.line X.env = pure false)
    (he : starEach (e :: es) X.env = (false, eval e X.env) :: starEach es X.env) (hpl : (backTo q4 (starEach es X.env)).any (·.1) = false) :
    JWs X W body (.Expr (.Call (.Attribute (.Call (.Name "super" q0) [] [] q1) (Str.ofString m) q2) (e :: es) [] q4) q5) (mSuper c mi ms) := by
  obtain ⟨of, fd0, ar, lf, lfd, har, har2⟩ := T.lk
  obtain ⟨ccl, cdd, cvs, ccs, file, tf, hcode, hvs, hfile⟩ := T.code
  obtain ⟨cl, cld, csl, hcell⟩ := T.cell
  obtain ⟨cdD, hD⟩ := T.clsD
  refine ⟨fun pins s σ H E I ⟨Z, F, ρ, μ, δ, S, q0⟩ => ?_⟩
  unfold mSuper at q0
  obtain ⟨d, e0, q⟩ : ∃ d, δ[0]? = some (some (FL.Slot.fr d)) ∧ FinS X W Z F ρ E (match insOf μ d with
    | some (c', _, _) => if c' = c then (evA ms δ μ).thn fun ds δ1 μ1 => (match mi (d :: ds) μ1 with
      | .ok _ μ2 => .nx δ1 μ2
      | .exc x μ2 => .exc x δ1 μ2
      | .bad => .bad) else .bad
    | none => .bad) := by
    cases e0 : δ[0]? with
    | none => rw [e0] at q0; exact q0.elim
    | some o =>
      cases o with
      | none => rw [e0] at q0; exact q0.elim
      | some z =>
        cases z with
        | own _ => rw [e0] at q0; exact q0.elim
        | fr d => rw [e0] at q0; exact ⟨d, rfl, q0⟩
  cases ei : insOf μ d with
  | none => simp only [ei] at q; exact q.elim
  | some t =>
  obtain ⟨c', ks, ds0⟩ := t
  simp only [ei] at q
  by_cases hc' : c' = c
  case neg => rw [if_neg hc'] at q; exact q.elim
  rw [if_pos hc'] at q
  subst hc'
  obtain ⟨v0, es0, rep0⟩ := S.slot 0 _ e0
  have rep0 : Rep X.K X.mg F ρ v0 d := rep0
  obtain ⟨a, Ca, dx, vs, rfl, hmC, hHa, hks, rl⟩ := ins_at S rep0 ei
  obtain ⟨g, og, fdg, ps, ds, dvs, cdC, hcC, hal, lg, ogc, fing, hsub, Fg, hb⟩ := G Ca hmC
  obtain ⟨mA, O, _⟩ := ins_get I.hok hHa
  obtain ⟨od, J, _⟩ := O.look
  obtain ⟨mloc, hns, hlook⟩ := I.loc
  obtain ⟨u0, ru0, look0⟩ := hlook 0 p0 _ T.n0 es0 (.inl T.l0)
  cases ru0
  have gself : mloc p0 = some (.ref a) := by
    rcases look0 with ⟨_, z⟩ | ⟨z, _⟩
    · exact z
    · have z : X.env.scope.names.lookup p0 = some .cell ∨ X.env.scope.names.lookup p0 = some .free := z
      rw [T.l0] at z
      rcases z with z | z <;> cases z
  have kX := I.kIn
  have oD : ∃ o : Obj, X.K.lookup D = some o ∧ o.data = .cls cdD := by
    unfold PySem.W.clsIn at hD
    split at hD
    · rename_i ho
      cases hD
      exact ⟨_, ho, rfl⟩
    · cases hD
  have oC : ∃ o : Obj, X.K.lookup Ca = some o ∧ o.data = .cls cdC := by
    unfold PySem.W.clsIn at hcC
    split at hcC
    · rename_i ho
      cases hcC
      exact ⟨_, ho, rfl⟩
    · cases hcC
  obtain ⟨oD, hoD, hdD⟩ := oD
  obtain ⟨oC, hoC, hdC⟩ := oC
  have lcell : s.heap.IsCell cc (some (.ref D)) := ⟨_, kX _ _ hcell, rfl⟩
  obtain ⟨mb, hmb, hbb⟩ := I.mod.blt
  have kd := I.ok.kind
  refine ks_wpAt_Expr_any (ks_wpAt_MethodCall (pl := pl) ?_ ev) (by unfold interactive; simp [kd]) sw
  refine ks_wpAt_super_base T.ls T.lc hm T.func (kX _ _ lf) lfd har T.ecode (kX _ _ hcode) rfl hvs hfile T.top ?_
  refine PySem.W.ks_loadName_global kd T.ls (PySem.Calls.loadGlobal_builtin (mg := X.mg) (by rw [I.ok.glob]; exact I.mod.glob.keeps I.bk) T.sup (by rw [I.ok.blt]; exact hmb.keeps I.bk) ((hbb "super" (by decide)).trans PyProof.Rows.Boot.«super») ⟨rfl, ?_⟩)
  refine wpAny_loadName_free kd T.lc T.cells lcell ?_
  refine wpAny_loadName_local (m := mloc) kd (by rw [har2]; exact T.l0) hns (by rw [har2]; exact gself) ?_
  obtain ⟨hp, gg, dd, tt, os⟩ := s
  refine PySem.ks_wpAny_isType_cls (kX _ _ hoD) hdD ⟨rfl, ?_⟩
  refine PySem.ks_wpAny_call_super (kX _ _ hoD) hdD J.at_ J.cls (fun c z => by cases z) (PySem.W.looks_mroIn kX hsub) fun h2 hso k2 => ?_
  have KX2 : X.K.In h2 := kX.keeps k2
  have I2 : Inv X pins σ H ⟨h2, gg, dd, tt, os⟩ := I.kept (t' := tt) k2
  have hne : a ≠ Ca := fun z => by
    have y := kX _ _ hoC
    have y2 := J.at_
    rw [z] at y2
    have y3 := y2.symm.trans y
    have y4 := congrArg Obj.data (Option.some.inj y3)
    rw [hdC] at y4
    cases y4
  refine PySem.ks_wpAny_getMethod_super (x := a) (C := Ca) (D := D) (f := g) (of := og) hso (PySem.W.looks_opaque KX2 T.any) (l₀ := cdC.mro) (fun A Q E s k q => wpAny_bind ((PySem.W.looks_clsIn KX2 hcC) A _ E s k (wpAny_pure q))) rfl KX2 hal (KX2 _ _ lg) ogc hne hm ?_
  have I3 : Inv X ((h2.objs.size, PySem.W.methodObj (.ref g) (.ref a)) :: pins) σ H ⟨h2.push (PySem.W.methodObj (.ref g) (.ref a)), gg, dd, tt + 1, os⟩ :=
    ClX.pin_new (t' := tt + 1) I2 (fun _ _ z => Heap.get?_push_of_some _ z) (Nat.le_refl _) (Heap.get?_push_size h2 rfl) (fun v z => nomatch z)
  have hbase : X.base.get? h2.objs.size = none := ClX.base_none I2 (Nat.le_refl _)
  refine ClX.callwith_cm (X := X) (C := a) (g := g) I3 hbase fing (thn (ha.run q4 _ _ σ H (fun ws H2 => spM X.K X.mg mi N (.ref a :: ws) H2 (fun _ H3 => E.nx σ H3) (WE W σ)) I3 ?_) fun us s3 ⟨ws, H2, I4, rv, q2⟩ => ⟨⟨ClX.pin_at I4, I4.kIn⟩, ?_⟩) he hpl
  · refine ⟨Z, F, ρ, μ, δ, S, ?_⟩
    cases ea : evA ms δ μ with
    | bad => rw [ea] at q; exact q
    | exc x δ1 μ1 =>
      rw [ea] at q
      exact fun c d H' F' ρ' l lr S' er => q c d σ H' F' ρ' l lr S' er
    | ok us δ1 μ1 =>
      rw [ea] at q
      intro H1 F1 ρ1 l1 lr1 S1 ws hw
      have rep1 := rep0.up l1.to lr1.to
      have hl := hw.len
      have hl2 := evA_len ea
      refine ⟨by rw [List.length_cons, hl, ← hl2]; exact hN, zone Z H1 δ1 σ, F1, ρ1, μ1, d :: us, S1.enter, .cons rep1 hw, ?_⟩
      have q1 : FinS X W Z F ρ E (match mi (d :: us) μ1 with | .ok _ μ2 => .nx δ1 μ2 | .exc x μ2 => .exc x δ1 μ2 | .bad => .bad) := q
      have q2 := q1.mono l1 lr1
      generalize mi (d :: us) μ1 = o at q2
      cases o with
      | ok s μ3 => exact fun v H' F' ρ' l lr S' rv => q2 σ H' F' ρ' (S1.leLeave l) (S1.leRLeave lr) (S1.leave S' l lr)
      | exc x μ3 => exact fun c d H' F' ρ' l lr S' er => q2 c d σ H' F' ρ' (S1.leLeave l) (S1.leRLeave lr) (S1.leave S' l lr) er
      | bad => exact q2
  · have rv2 : Vals (V.ref a :: ws) (Value.ref a :: us) := .cons rfl rv
    have hr : RmG j X.A := C.rm.mono hjk
    have len2 : (Value.ref a :: us).length = ps.length := by rw [← rv2.length]; exact Fg.len _ _ _ _ q2
    have bb := hb s3 (Value.ref a :: us) I4.kIn (by rw [List.append_nil]; exact len2)
    rw [List.append_nil] at bb
    refine wpAny_call (PySem.W.method_call (ClX.pin_at I4) (codeAny_mono (Fg.run X.A X.stack s3 H2 ⟨.ref a :: us, []⟩ _ _ (fun _ H3 => E.nx σ H3) (WE W σ) hr I4.env0 bb rv2 q2) fun res t ht => ?_))
    match res, ht with
    | .error er, ht => exact passAt C.tk σ _ H2 s3 er t I4 ht
    | .ok (.ret u), ht =>
      obtain ⟨v, H', I5, rv5, q5⟩ := I4.after ht
      exact ⟨σ, H', ClX.unpin I5, q5⟩
end
end FL
namespace FL
open PySem PySem.Spec PyProof.Rows L2
theorem room_caller : RmG 200 callerA := ⟨⟨rfl, by decide, by decide⟩, rfl⟩
end FL
namespace FL
open PySem PySem.Spec PyProof.Rows L2 LamX
def Hid (h : Heap) (H : Hp) : Prop := ∀ p, H p ≠ none → (∃ o its n, h.get? p = some o ∧ o.data = .seq its n) ∨ h.get? p = some oTab
theorem hid_has {h : Heap} {H : Hp} (x : Hid h H) {p : Addr} {o : Obj} (e : h.get? p = some o) (n1 : ∀ its n, o.data ≠ .seq its n) (n2 : o.data ≠ .fields #[]) : (hidT h H).get? p = some o ∧ H p = none := by
  have n : H p = none := Classical.byContradiction fun z => by
    rcases x p z with ⟨o', its, n, e', d⟩ | e'
    · rw [e] at e'
      cases e'
      exact n1 _ _ d
    · rw [e] at e'
      cases e'
      exact n2 rfl
  exact ⟨hidT_get e n, n⟩
theorem hid_ns {h : Heap} {H : Hp} (x : Hid h H) {p : Addr} {f : Str → Option Value} : h.Ns p f → (hidT h H).Ns p f := fun ⟨o, es, ep, e, d, r⟩ =>
  ⟨o, es, ep, (hid_has x e (fun its n z => by rw [d] at z; cases z) (fun z => by rw [d] at z; cases z)).1, d, r⟩
theorem ns_not {h : Heap} {p : Addr} {f : Str → Option Value} {o : Obj} (x : h.Ns p f) (e : h.get? p = some o) (n : ∀ es ep, o.data ≠ .dict es ep) : False := by
  obtain ⟨o', es, ep, e', d, _⟩ := x
  rw [e] at e'
  cases e'
  exact n _ _ d
abbrev Blt (h : Heap) (mg : Str → Option Value) : Prop := ∃ (bm : Addr) (ob : Obj), mg "__builtins__" = some (.ref bm) ∧ bm ≠ builtinsNs ∧ h.get? bm = some ob ∧ ob.cls = .type "module" ∧ ob.dict = some builtinsNs ∧ ob.data = .plain
theorem hid_tab {h : Heap} {H : Hp} (x : Hid h H) {mg : Str → Option Value} {c P : Addr} (G : h.Ns mainGlobals mg) (B : Blt h mg) (e : h.get? P = some oTab) (C : PySem.W.CodeHd h c P) : TabB (hidT h H) mg c P := by
  constructor
  · obtain ⟨o, its, f1, f2, f3, f4, f5, f6, f7, g1, g2, g3, gs⟩ := C
    refine ⟨o, its, f1, f2, f3, f4, f5, f6, f7, (hid_has x g1 (fun _ _ z => ?_) fun z => ?_).1, g2, g3, gs⟩
    · rw [g3] at z
      cases z
    · rw [g3] at z
      cases z
      have w := gs.1
      simp at w
  · obtain ⟨bm, ob, a1, a2, a3, a4, a5, a6⟩ := B
    refine ⟨bm, ob, a1, a2, fun z => ?_, fun z => ?_, (hid_has x a3 (fun _ _ z => ?_) fun z => ?_).1, a4, a5, a6⟩
    · subst z
      exact ns_not G a3 fun _ _ z => by rw [a6] at z; cases z
    · subst z
      rw [e] at a3
      cases a3
      cases a6
    · rw [a6] at z
      cases z
    · rw [a6] at z
      cases z
  · intro z
    rw [← z] at e
    exact ns_not G e fun _ _ z => by cases z
def hpT (a : Addr) (u : Option HO) (T : List Addr) : Hp := fun p => if p ∈ T then some (.tbl #[]) else if p = a then u else none
def memT (cs : List (Addr × Addr × Str)) : Mem := cs.map fun p => .tab p.2.1 p.2.2
theorem memT_get {cs : List (Addr × Addr × Str)} {j : Nat} {o : Own} (e : (memT cs)[j]? = some o) : ∃ p, cs[j]? = some p ∧ o = .tab p.2.1 p.2.2 := by
  unfold memT at e
  rw [List.getElem?_map] at e
  obtain ⟨p, e1, e2⟩ := Option.map_eq_some_iff.mp e
  exact ⟨p, e1, e2.symm⟩
theorem lawGT {P : Program} {w : World} {K : PySem.W.Frag} {mg mb : Str → Option Value} {k : Nat} {f a : Addr} {fd : FuncData} {x : Str} {m : MF} {t : Shared} {us : List Value} {ns : List Int} {cs : List (Addr × Addr × Str)}
    (hK : K.In t.heap) (hg : t.heap.Ns mainGlobals mg) (hbn : t.heap.Ns builtinsNs mb) (hbb : ∀ x : Str, x ≠ "__name__" → mb x = bootBuiltins x) (hlim : t.heap.NoLimit) (hgen : t.gens = #[]) (hB : Blt t.heap mg)
    (hT : ∀ p ∈ cs, t.heap.get? p.2.1 = some oTab) (nT : ∀ p ∈ cs, K.lookup p.2.1 = none) (hC : ∀ p ∈ cs, PySem.W.CodeHd t.heap p.1 p.2.1) (dT : (cs.map fun p => p.2.1).Nodup)
    (ha : t.heap.get? a = some { cls := .type "list", data := .seq us.toArray }) (hi : IntsAre us ns) (hl : ns.length ≤ sizeLine) (hr : RmG k callerA)
    (F : ∀ base : Heap, K.In base → base.Ns mainGlobals mg → (∀ p ∈ cs, TabB base mg p.1 p.2.1) → FnG P w K mg base (L2.CX P w) k f fd [x] (spM K mg m 1)) (hbind : ∀ (s : Shared) (u : Value), BindsTo s fd ⟨[u], []⟩ [(x, u)])
    (hm : ∃ μ', m [.ro (ns.map .int)] (memT cs) = .ok (.fr (.bl true)) μ') :
    codeAny (model P w) callerA (.call (.ref f) ⟨[.ref a], []⟩) (fun r s' => r = .ok (.ret (.bool true)) ∧ OldK t.heap s'.heap ∧ s'.os = t.os ∧ AllBare s'.gens) t := by
  have vv := vals_ints hi
  have lv := hi.length
  obtain ⟨μ', hm⟩ := hm
  have hTm : ∀ p ∈ cs.map (fun p => p.2.1), t.heap.get? p = some oTab ∧ K.lookup p = none := fun p hp => by
    obtain ⟨y, hy, rfl⟩ := List.mem_map.mp hp
    exact ⟨hT y hy, nT y hy⟩
  have naT : a ∉ cs.map fun p => p.2.1 := fun z => by
    have w := (hTm a z).1
    rw [ha] at w
    have w' := congrArg Obj.data (Option.some.inj w)
    cases w'
  have main : ∀ u : Option HO, (u = none ∨ ∃ o, u = some (.frz o (.lst (ns.map V.int)))) → (u ≠ none → K.lookup a = none) → SqL K (hpT a u []) a (ns.map V.int) → (∀ o, u = some o → ∀ H, ObjOk P w H t.heap a o) →
      codeAny (model P w) callerA (.call (.ref f) ⟨[.ref a], []⟩) (fun r s' => r = .ok (.ret (.bool true)) ∧ OldK t.heap s'.heap ∧ s'.os = t.os ∧ AllBare s'.gens) t := by
    intro u hu free sq oka
    have h0 : ∀ p, hpT a u (cs.map fun p => p.2.1) p = none ∨ (p ∈ (cs.map fun p => p.2.1) ∧ hpT a u (cs.map fun p => p.2.1) p = some (.tbl #[])) ∨ (p = a ∧ p ∉ (cs.map fun p => p.2.1) ∧ hpT a u (cs.map fun p => p.2.1) p = u) := fun p => by
      unfold hpT
      by_cases z1 : p ∈ cs.map fun p => p.2.1
      · exact .inr (.inl ⟨z1, if_pos z1⟩)
      · by_cases z2 : p = a
        · exact .inr (.inr ⟨z2, z1, by rw [if_neg z1, if_pos z2]⟩)
        · exact .inl (by rw [if_neg z1, if_neg z2])
    generalize eH : hpT a u (cs.map fun p => p.2.1) = H at h0
    have hid : Hid t.heap H := fun p z => by
      rcases h0 p with n | ⟨n, _⟩ | ⟨rfl, _⟩
      · exact absurd n z
      · exact .inr (hTm p n).1
      · exact .inl ⟨_, _, _, ha, rfl⟩
    have kB : K.In (hidT t.heap H) := fun p o e => hidT_get (hK p o e) (by
      rcases h0 p with n | ⟨n, _⟩ | ⟨rfl, _, n⟩
      · exact n
      · rw [(hTm p n).2] at e
        cases e
      · rw [n]
        exact Classical.byContradiction fun z => by
          rw [free z] at e
          cases e)
    have HaT : ∀ p ∈ cs.map (fun p => p.2.1), H p = some (.tbl #[]) := fun p hp => by
      rw [← eH]
      exact if_pos hp
    have Ha : H a = u := by
      rw [← eH]
      unfold hpT
      rw [if_neg naT, if_pos rfl]
    have mB : Mod K mg (hidT t.heap H) := ⟨kB, hid_ns hid hg, ⟨mb, hid_ns hid hbn, hbb⟩, let ⟨mc, q1, q2⟩ := hlim; ⟨mc, hid_ns hid q1, q2⟩⟩
    have ok : HOk P w H t.heap := fun p o e => by
      rcases h0 p with n | ⟨n, e2⟩ | ⟨rfl, _, n⟩
      · rw [n] at e
        cases e
      · rw [e] at e2
        cases e2
        exact (hTm p n).1
      · rw [n] at e
        exact oka o e H
    have env : Env0 P w K mg (hidT t.heap H) callerA [] t H := ⟨rfl, mB, fun p o e => of_hidT e, Nat.le_of_eq (hidT_size _ _), trivial, fun p hp => absurd (show p ∈ ([] : List Addr) from hp) (by simp), ok, .of_eq hgen⟩
    have fa : hpT a u [] a = u := by
      unfold hpT
      rw [if_neg (by simp), if_pos rfl]
    have fn : ∀ p, p ≠ a → hpT a u [] p = none := fun p z => by
      unfold hpT
      rw [if_neg (by simp), if_neg z]
    have S0 : Sim K mg (fun _ => none) (hpT a u []) (cs.map fun p => p.2.1) (memT cs) [] [] H := by
      refine ⟨fun p o h => ?_, fun p o h => (nomatch h), rfl, fun i s e => (by simp at e), fun i j p s t e => (by simp at e), fun k c e => ?_, by unfold memT; simp, dT⟩
      · by_cases z : p = a
        · subst z
          rw [fa] at h
          exact .inl (Ha.trans h)
        · rw [fn p z] at h
          cases h
      · obtain ⟨p, e1, rfl⟩ := memT_get e
        have hp : p.2.1 ∈ cs.map fun p => p.2.1 := List.mem_map.mpr ⟨p, List.mem_of_getElem? e1, rfl⟩
        refine ⟨p.2.1, by rw [List.getElem?_map, e1]; rfl, fn _ fun z => naT (by rw [← z]; exact hp), rfl, rfl, #[], HaT _ hp, True.intro, fun pos cv hc => ?_⟩
        have z : codeAmong pos [] = some cv := hc
        simp [codeAmong] at z
    have hsp : spM K mg m 1 [.ref a] H (fun v _ => v = .bl true) (fun _ _ _ => False) := by
      refine ⟨rfl, _, hpT a u [], _, memT cs, [.ro (ns.map .int)], S0, .cons (.ro sq (RepL.ofInts ns)) .nil, ?_⟩
      rw [hm]
      intro v H' F' ρ' _ _ _ rv
      cases rv
      rfl
    refine codeAny_mono ((F _ kB (hid_ns hid hg) (fun p hp => hid_tab hid hg hB (hT p hp) (hC p hp))).run callerA [] t H ⟨[.ref a], []⟩ [.ref a] [.ref a] _ _ hr env (hbind t (.ref a)) (.cons rfl .nil) hsp) fun res s' h => ?_
    cases res with
    | error e =>
      obtain ⟨_, _, _, _, _, _, _, _, _, _, _, _, z⟩ := h
      exact z.elim
    | ok fl =>
      cases fl with
      | next => exact False.elim h
      | brk => exact False.elim h
      | cont => exact False.elim h
      | ret u' =>
        obtain ⟨v, H', os, bare, un, ok', rv, q⟩ := h
        have q' : v = .bl true := q
        subst q'
        cases rv
        have each : ∀ p o, t.heap.get? p = some o → (p ∉ (cs.map fun p => p.2.1) ∧ s'.heap.get? p = some o) ∨ (p ∈ (cs.map fun p => p.2.1) ∧ o = oTab ∧ ∃ more : Array Value, s'.heap.get? p = some { cls := .none, data := .fields more }) := fun p o e => by
          by_cases hp : p ∈ cs.map fun p => p.2.1
          · obtain ⟨more, z⟩ := un.tbls p #[] (HaT p hp)
            rw [(hTm p hp).1] at e
            cases e
            exact .inr ⟨hp, rfl, _, ok' p _ z⟩
          · refine .inl ⟨hp, ?_⟩
            cases q : H p with
            | none => exact un.keep p o e q (by intro z; exact absurd (show p ∈ ([] : List Addr) from z) (by simp)) (by simp)
            | some y =>
              rcases h0 p with n | ⟨n, _⟩ | ⟨rfl, _, n⟩
              · rw [n] at q
                cases q
              · exact absurd n hp
              · rcases hu with z | ⟨ob, z⟩
                · rw [n, z] at q
                  cases q
                · obtain ⟨e1, _⟩ := ok p _ (n.trans z)
                  obtain ⟨e2, _⟩ := ok' p _ (un.frzs p ob _ (n.trans z))
                  rw [e] at e1; cases e1
                  exact e2
        refine ⟨rfl, ⟨fun p o e => ?_, fun p o e => ?_⟩, os, bare⟩
        · rcases each p o e with ⟨_, z⟩ | ⟨hp, rfl, more, z⟩
          · exact .inl z
          · obtain ⟨y, hy, rfl⟩ := List.mem_map.mp hp
            exact .inr (.inl ⟨((hC y hy).tab (hT y hy)).isCodeTable, rfl, #[], more, rfl, by rw [Array.empty_append]; exact z⟩)
        · rcases each p o e with ⟨_, z⟩ | ⟨_, _, more, z⟩
          · exact ⟨o, z⟩
          · exact ⟨_, z⟩
  cases hk : K.lookup a with
  | some o =>
    have e := hK a o hk
    rw [ha] at e
    cases e
    exact main none (.inl rfl) (fun z => absurd rfl z) (.inr ⟨_, us.toArray, _, hk, rfl, rfl, rfl, by rw [List.size_toArray, lv]; exact hl, by simpa using vv⟩) (fun o z => nomatch z)
  | none =>
    refine main (some (.frz { cls := .type "list", data := .seq us.toArray } (.lst (ns.map V.int)))) (.inr ⟨_, rfl⟩) (fun _ => hk) (.inl (.inr ⟨{ cls := .type "list", data := .seq us.toArray }, ?_⟩)) (fun o z H => ?_)
    · unfold hpT
      rw [if_neg (by simp), if_pos rfl]
    · cases z
      exact ⟨ha, by rw [List.length_map]; exact hl, us, _, vv, ha⟩
end FL
namespace FL
open PySem PySem.Spec PyProof.Rows L2 LamX
def csOf (K : PySem.W.Frag) (ts : Mks) : List (Addr × Addr × Str) := ts.map fun t => (codeAd K t.1, tabAd K t.1, t.2)
theorem hkG_eq {n : Nat} {fs : List (PySem.W.Frag → Bool)} {ds : List Dsc} {ts : Mks} {g : Addr → Option Obj} {s : Shared} (h : ∀ a, g a = s.heap.get? a) : hkG n fs ds ts g = (hookF n fs ds ts).obs s := by
  have e : g = s.heap.get? := funext h
  rw [e]
  rfl
section
variable {fs : List (PySem.W.Frag → Bool)} {ds : List Dsc} {ts : Mks} {K : PySem.W.Frag}
theorem HkSays.tabs (c : HkSays fs ds ts K) : (∀ t ∈ ts, PySem.W.codeHdIn K (codeAd K t.1) (tabAd K t.1) = true ∧ K.lookup (tabAd K t.1) = none) ∧ (ts.map fun t => tabAd K t.1).Nodup := by
  obtain ⟨a, b⟩ := Bool.and_eq_true_iff.mp (show ((ts.all fun t => PySem.W.codeHdIn K (codeAd K t.1) (tabAd K t.1) && (K.lookup (tabAd K t.1)).isNone) && decide (ts.map fun t => tabAd K t.1).Nodup) = true from (Bool.and_eq_true_iff.mp c.t).2)
  refine ⟨fun t ht => ?_, of_decide_eq_true b⟩
  obtain ⟨x, y⟩ := Bool.and_eq_true_iff.mp (List.all_eq_true.mp a t ht)
  exact ⟨x, Option.isNone_iff_eq_none.mp y⟩
theorem HkSays.fact (c : HkSays fs ds ts K) (i : Nat) {f : PySem.W.Frag → Bool} (h : fs[i]? = some f) : f K = true := List.all_eq_true.mp c.both.1 f (List.mem_of_getElem? h)
end
def tbOf (K : PySem.W.Frag) (ts : Mks) : Nat → Addr := fun j => (ts.map fun t => tabAd K t.1).getD j 0
theorem walkH {l : PySem.W.OpenLaw} {k n : Nat} {q : Program} {loose : List Str} {XP : (Str → Option Value) → Heap → Prop} {d : DefRec} {x : Str} {m : (Nat → Addr) → MF} {fs : List (PySem.W.Frag → Bool)} {ds : List Dsc} {ts : Mks}
    (hn : l.most = some 63) (hdf : d.params.defaults = []) (hr : RmG k callerA)
    (F : ∀ (w : World) (mg : Str → Option Value) (fa : Addr) (h : Heap) (K : PySem.W.Frag), K.In h → HkSays fs ds ts K → h.Ns mainGlobals mg → mg d.name = some (.ref fa) →
      ∃ fd : FuncData, (∀ (s : Shared) (u : Value), BindsTo s fd ⟨[u], []⟩ [(x, u)]) ∧
        ∀ base : Heap, K.In base → base.Ns mainGlobals mg → (∀ p ∈ csOf K ts, TabB base mg p.1 p.2.1) → FnG l.prog w K mg base (L2.CX l.prog w) k fa fd [x] (spM K mg (m (tbOf K ts)) 1))
    (hm : ∀ (K : PySem.W.Frag) (ns : List Int), ns.length ≤ 63 → ∃ μ', m (tbOf K ts) [.ro (ns.map .int)] (memT (csOf K ts)) = .ok (.fr (.bl true)) μ') :
    PySem.W.WalkO q loose XP (hookF n fs ds ts).says l.row.toRowW d [] (fun f vs => PySem.call f vs) := by
  refine Att.attach_call hn hdf fun w s0 s1 mg mb fa o pm cd doc a vs ns G Y ho hd hcd hmg hobj hints hlen hg => ?_
  obtain ⟨K, hK, c, hT⟩ := Y
  obtain ⟨fd, hb, hF⟩ := F w mg fa _ K hK c G.T.g hmg
  obtain ⟨t1, t2⟩ := c.tabs
  have mem : ∀ p ∈ csOf K ts, ∃ t ∈ ts, p = (codeAd K t.1, tabAd K t.1, t.2) := fun p hp => by
    obtain ⟨t, ht, rfl⟩ := List.mem_map.mp hp
    exact ⟨t, ht, rfl⟩
  refine lawGT hK G.T.g G.T.b G.T.builtins G.T.nolimit hg G.T.bmain (fun p hp => ?_) (fun p hp => ?_) (fun p hp => ?_) ?_ hobj hints (Nat.le_trans hlen (by rw [line_eq]; decide)) hr hF hb (hm K ns hlen)
  · obtain ⟨t, ht, rfl⟩ := mem p hp
    exact hT t ht
  · obtain ⟨t, ht, rfl⟩ := mem p hp
    exact (t1 t ht).2
  · obtain ⟨t, ht, rfl⟩ := mem p hp
    exact PySem.W.codeHd_of_K hK (t1 t ht).1
  · have e : ((csOf K ts).map fun p => p.2.1) = ts.map fun t => tabAd K t.1 := by
      unfold csOf
      rw [List.map_map]
      rfl
    rw [e]
    exact t2
end FL
namespace FL
open PySem PySem.Spec PyProof.Rows L2 LamX
def kvAd (K : PySem.W.Frag) (p : FnP) : Value := match K.lookup (fAdF K p) with
  | some ⟨_, _, .func fd, _⟩ => fd.kwdefaults
  | _ => .none
def prpT : PrpTb → String → String → Option String
  | [], _, _ => none
  | (c', f', b) :: t, c, f => if c = c' ∧ f = f' then some b else prpT t c f
end FL
namespace L35
open PySem PySem.Spec PySem.W PySem.Calls PyProof.Rows FL
theorem ob_eq (s : PySem.W.SharedT) : ob s = hk.obs s.abs := hkG_eq (HandSHeadRun.getT_eq s)
end L35
namespace FL
open PySem PySem.Spec PyProof.Rows L2
structure FuW (P : Program) (w : World) (K : PySem.W.Frag) (mg : Str → Option Value) (base : Heap) (j : Nat) (x : Str) (n : Nat) (ks : List Str) (sel : List Sel) (m : MF) (N : Nat) (dds : List D) : Prop where
  len : ∀ {α : Type} (vs ds zs : List α), vs.length = n → ds.length = dds.length → zs.length = ks.length → (pickS sel vs ds zs).length = N
  ex : ∃ (f : Addr) (fd : FuncData) (ps : List Str) (ds : List Value) (dvs : List V), mg x = some (.ref f) ∧ PySem.W.keepIn K (.ref f) = true ∧ FnG P w K mg base (L2.CX P w) j f fd ps (spM K mg m N) ∧ BindW K fd ps n ks sel ds ∧ Vals dvs ds ∧ ∀ F ρ, RepL K mg F ρ dvs dds
structure ClW (P : Program) (w : World) (K : PySem.W.Frag) (mg : Str → Option Value) (base : Heap) (j : Nat) (c : String) (n : Nat) (ks : List Str) (sel : List Sel) (mi : MF) (N : Nat) (dds : List D) : Prop where
  len : ∀ {α : Type} (vs ds zs : List α), vs.length = n → ds.length = dds.length → zs.length = ks.length → (pickS sel vs ds zs).length = N
  ex : ∃ (C f : Addr) (fd : FuncData) (ps : List Str) (ds : List Value) (dvs : List V), mg (Str.ofString c) = some (.ref C) ∧ Mk K C f ∧ FnG P w K mg base (L2.CX P w) j f fd ps (spM K mg mi (N + 1)) ∧ BindW1 K fd ps n ks sel ds ∧ Vals dvs ds ∧ ∀ F ρ, RepL K mg F ρ dvs dds
section
variable {X : Cx} {j n N : Nat} {x : Str} {c : String} {ks : List Str} {sel : List Sel} {m mi : MF} {dds : List D}
theorem FuW.call (V : FuW X.prog X.w X.K X.mg X.base j x n ks sel m N dds) : ∃ a, X.mg x = some (.ref a) ∧ CallW X j a n ks sel m N dds := by
  obtain ⟨f, fd, ps, ds, dvs, e1, e2, e3, e4, e5, e6⟩ := V.ex
  exact ⟨f, e1, .fn e3 e2 e4 e5 e6 V.len⟩
theorem ClW.callF (V : ClW X.prog X.w X.K X.mg X.base j c n ks sel mi N dds) : ∃ a, X.mg (Str.ofString c) = some (.ref a) ∧ CallW X (j + 1) a n ks sel (mkF c mi) N dds := by
  obtain ⟨C, f, fd, ps, ds, dvs, e1, e2, e3, e4, e5, e6⟩ := V.ex
  exact ⟨C, e1, .mkF e1 e2 e3 e4 e5 e6 V.len⟩
theorem ClW.callS (V : ClW X.prog X.w X.K X.mg X.base j c n ks sel mi N dds) : ∃ a, X.mg (Str.ofString c) = some (.ref a) ∧ CallW X (j + 1) a n ks sel (mkS c mi) N dds := by
  obtain ⟨C, f, fd, ps, ds, dvs, e1, e2, e3, e4, e5, e6⟩ := V.ex
  exact ⟨C, e1, .mkS e1 e2 e3 e4 e5 e6 V.len⟩
end
end FL
namespace FL
open PySem PySem.Spec PyProof.Rows L2
section
variable {X : Cx} {W : WX} {k : Nat} {N : List Str} {sc : Scope} {a b e o : Expr} {es : List Expr} {pos p apos : Pos} {x : Str}
theorem Cs.hg (C : Cs X W k N sc) : X.A.guards = some [] := C.rm.g
end
end FL
namespace FL
open PySem PySem.Spec PyProof.Rows L2
section
variable {prog : Program} {w : World} {A : Around} {E : Value → Shared → Prop} {s : Shared}
def RowAt (h : Heap) (v : Value) (i : Int) : Prop := ∃ (p : Addr) (ob : Obj) (xs : List Value) (n : Nat) (t : Tok), v = .ref p ∧ h.get? p = some ob ∧ ob.cls = .type "tuple" ∧ ob.data = .seq (Value.int i t :: xs).toArray n
theorem RowAt.stay {h h' : Heap} {v : Value} {i : Int} (r : RowAt h v i) (k : ∀ p ob, h.get? p = some ob → ob.cls = .type "tuple" → h'.get? p = some ob) : RowAt h' v i :=
  let ⟨p, ob, xs, n, t, e, ho, hc, hd⟩ := r
  ⟨p, ob, xs, n, t, e, k p ob ho hc, hc, hd⟩
end
end FL
namespace FL
open PySem PySem.Spec PyProof.Rows L2
section
variable {X : Cx} {W : WX}
theorem new_pair {Z F H : Hp} {ρ : List Addr} {μ : Mem} {δ : Loc} {σ : L2.St} {p : Addr} {a b : V} {da db : D} (S : Sim X.K X.mg Z F ρ μ δ σ H) (hp : H p = none) (ra : Rep X.K X.mg F ρ a da) (rb : Rep X.K X.mg F ρ b db) :
    ∃ F2, Le Z F F2 ∧ Sim X.K X.mg Z F2 ρ μ δ σ (upd H p (.tup [a, b])) ∧ Rep X.K X.mg F2 ρ (.ref p) (.tup [da, db]) := by
  obtain ⟨F2, l, S2, r⟩ := vr_newT S hp (.cons ra (.cons rb .nil))
  exact ⟨F2, l, S2, r.r⟩
end
end FL
namespace FL
open PySem PySem.Spec PyProof.Rows L2
def dkey : D → Option DK
  | .int n => some (.i n)
  | .str x => some (.s x)
  | _ => none
def putA (kds : List (DK × D)) (k : DK) (d : D) : List (DK × D) := if (kds.any fun p => decide (p.1 = k)) = true then kds.map (fun p => if p.1 = k then (p.1, d) else p) else kds ++ [(k, d)]
def dropA (kds : List (DK × D)) (k : DK) : List (DK × D) := kds.filter fun p => decide (p.1 ≠ k)
abbrev dctO (kds : List (DK × D)) : Own := .dct (kds.map (·.1)) (kds.map (·.2))
section
variable {K : PySem.W.Frag} {mg : Str → Option Value} {F F' : Hp} {ρ ρ' : List Addr} {H : Hp} {p : Addr}
theorem KV.of : ∀ {ks : List DK} {vs : List V} {ds : List D}, ks.length = vs.length → RepL K mg F ρ vs ds → KV K mg F ρ ((ks.map DK.key).zip vs) (ks.zip ds)
  | [], _, _, h, r => by cases r <;> first | exact .nil | (cases h; done)
  | k :: ks, _, _, h, r => by
    cases r with
    | nil => cases h
    | cons h1 t => exact .cons h1 (KV.of (by simpa using h) t)
theorem KV.back : ∀ {kvs : List (Key × V)} {kds : List (DK × D)}, KV K mg F ρ kvs kds → kvs = ((kds.map (·.1)).map DK.key).zip (kvs.map (·.2)) ∧ RepL K mg F ρ (kvs.map (·.2)) (kds.map (·.2)) ∧ kvs.length = kds.length
  | _, _, .nil => ⟨rfl, .nil, rfl⟩
  | _, _, .cons h t => by
    obtain ⟨a, b, c⟩ := KV.back t
    refine ⟨?_, .cons h b, by rw [List.length_cons, List.length_cons, c]⟩
    simp only [List.map_cons, List.zip_cons_cons]
    rw [← a]
theorem KV.up (l : ∀ p o, F p = some o → F' p = some o) (lr : ∀ (k : Nat) p, ρ[k]? = some p → ρ'[k]? = some p) : ∀ {kvs : List (Key × V)} {kds : List (DK × D)}, KV K mg F ρ kvs kds → KV K mg F' ρ' kvs kds
  | _, _, .nil => .nil
  | _, _, .cons h t => .cons (h.up l lr) (KV.up l lr t)
theorem KV.app : ∀ {a b : List (Key × V)} {c d : List (DK × D)}, KV K mg F ρ a c → KV K mg F ρ b d → KV K mg F ρ (a ++ b) (c ++ d)
  | _, _, _, _, .nil, h => h
  | _, _, _, _, .cons h t, r => .cons h (KV.app t r)
theorem KV.any {k : DK} : ∀ {kvs : List (Key × V)} {kds : List (DK × D)}, KV K mg F ρ kvs kds → (kvs.any fun kv => decide (kv.1 = k.key)) = (kds.any fun p => decide (p.1 = k))
  | _, _, .nil => rfl
  | _, _, .cons h t => by rw [List.any_cons, List.any_cons, KV.any t, key_dec]
theorem KV.repl {k : DK} {v : V} {d : D} (r : Rep K mg F ρ v d) : ∀ {kvs : List (Key × V)} {kds : List (DK × D)}, KV K mg F ρ kvs kds → KV K mg F ρ (kvs.map fun kv => if kv.1 = k.key then (kv.1, v) else kv) (kds.map fun p => if p.1 = k then (p.1, d) else p)
  | _, _, .nil => .nil
  | _, _, @KV.cons _ _ _ _ k1 v1 d1 kvs kds h t => by
    rw [List.map_cons, List.map_cons]
    by_cases z : k1 = k
    · rw [if_pos (show DK.key k1 = DK.key k by rw [z]), if_pos (show k1 = k from z)]
      exact .cons r (KV.repl r t)
    · rw [if_neg (show ¬ DK.key k1 = DK.key k from fun q => z (DK.key_inj q)), if_neg (show ¬ k1 = k from z)]
      exact .cons h (KV.repl r t)
theorem KV.put {k : DK} {v : V} {d : D} (r : Rep K mg F ρ v d) {kvs : List (Key × V)} {kds : List (DK × D)} (h : KV K mg F ρ kvs kds) : KV K mg F ρ (putK kvs k.key v) (putA kds k d) := by
  unfold putK putA
  rw [h.any]
  by_cases z : (kds.any fun p => decide (p.1 = k)) = true
  · rw [if_pos z, if_pos z]
    exact h.repl r
  · rw [if_neg z, if_neg z]
    exact h.app (.cons r .nil)
theorem KV.drop {k : DK} : ∀ {kvs : List (Key × V)} {kds : List (DK × D)}, KV K mg F ρ kvs kds → KV K mg F ρ (dropK kvs k.key) (dropA kds k)
  | _, _, .nil => .nil
  | _, _, @KV.cons _ _ _ _ k1 v1 d1 kvs kds h t => by
    have ih := KV.drop (k := k) t
    unfold dropK dropA at ih ⊢
    by_cases z : k1 = k
    · rw [List.filter_cons_of_neg (by simp [z]), List.filter_cons_of_neg (by simp [z])]
      exact ih
    · rw [List.filter_cons_of_pos (by simpa using fun q => z (DK.key_inj q)), List.filter_cons_of_pos (by simpa using z)]
      exact .cons h ih
theorem own_kv {ks : List DK} {ds : List D} (h : OwnR K mg F ρ H p (.dct ks ds)) : ∃ kvs, H p = some (.dK kvs) ∧ KV K mg F ρ kvs (ks.zip ds) := by
  obtain ⟨vs, e, n, r⟩ := h
  exact ⟨_, e, KV.of n r⟩
theorem kv_own {kvs : List (Key × V)} {kds : List (DK × D)} (h : KV K mg F ρ kvs kds) (e : H p = some (.dK kvs)) : OwnR K mg F ρ H p (dctO kds) := by
  obtain ⟨a, b, c⟩ := h.back
  refine ⟨kvs.map (·.2), by rw [e]; exact congrArg (fun z => some (HO.dK z)) a, by simp [c], b⟩
end
section
variable {X : Cx} {W : WX} {o i e value : Expr} {pos pos' apos cpos : Pos}
theorem key_of {F H : Hp} {ρ : List Addr} {y : V} {d : D} {k : DK} (h : Bor X.K X.mg F ρ H y d) (e : dkey d = some k) : y = kV k.key := by
  cases d <;> first | (cases e; done) | skip
  · cases e
    exact h.int
  · cases e
    exact h.str
theorem key_rep {F : Hp} {ρ : List Addr} {y : V} {d : D} {k : DK} (h : Rep X.K X.mg F ρ y d) (e : dkey d = some k) : y = kV k.key := key_of (H := F) (.fr h) e
def gGetD : D → D → Option Slot
  | .dct ks ds, y => match dkey y with
    | some k => (getA (ks.zip ds) k).map .fr
    | none => none
  | _, _ => none
abbrev rGetD : R2 := fun x y H Q => ∃ a v, x = .ref a ∧ DGet H a y (some v) ∧ Q v H
theorem j_getD : R2J X rGetD gGetD := by
  intro Z F ρ μ δ σ H x y dx dy s Q S bx bY e q
  unfold gGetD at e
  cases dx <;> first | (cases e; done) | skip
  · rename_i ks ds
    cases ek : dkey dy with
    | none => simp only [ek] at e; cases e
    | some k =>
      simp only [ek] at e
      obtain ⟨d, e1, e2⟩ := Option.map_eq_some_iff.mp e
      subst e2
      obtain ⟨p, vs, rfl, hr, hl, r⟩ := bx.dct S
      obtain ⟨v, g, rv⟩ := (KV.of hl r).get e1
      exact ⟨p, v, rfl, .inl ⟨_, k.key, hr, key_of bY ek, g.symm⟩, q _ H F .refl S ⟨rv, fun o p z => by cases z⟩⟩
theorem je_getD {oa ob : Opn} (hu : X.A.units + 1 < cLine) (ha : JO X W o oa) (hb : JO X W i ob) (hs : NoSl i) : JE X W (.Subscript o i pos) (m2 gGetD oa ob) :=
  (pe_dget hu ha hb hs).imp (m2_read (r := rGetD) j_getD)
def gSetD : Own → D → D → Option Own
  | .dct ks ds, y, d => match dkey y with
    | some k => if (ks.zip ds).length < 16777216 then some (dctO (putA (ks.zip ds) k d)) else none
    | none => none
  | _, _, _ => none
theorem js_setD {oo oi : Opn} {m : ME} (hu : X.A.units + 1 < cLine) (he : JE X W value m) (ho : JO X W o oo) (hi : JO X W i oi) (hs : swapsWith value (some (.Subscript o i pos')) pos.line X.env = pure false := by rfl) : JS X W (.Assign [.Subscript o i pos'] value pos) (mSetI gSetD oo oi m) := by
  refine (ps_dput hu ho hi he.locked hs).imp fun E σ H ⟨Z, F, ρ, μ, δ, S, q⟩ => ⟨Z, F, ρ, μ, δ, S, (FinS.thn q).imp fun s δ1 μ1 H1 F1 ρ1 l1 lr1 S1 ⟨_, p1⟩ v rv => ?_⟩
  refine ⟨Z, F1, ρ1, μ1, δ1, S1, (FinS.thn p1).imp fun r δ2 μ2 H2 F2 ρ2 l2 lr2 S2 ⟨_, p2⟩ x hx => ?_⟩
  refine ⟨Z, F2, ρ2, μ2, δ2, S2, (FinS.thn p2).imp fun ri δ3 μ3 H3 F3 ρ3 l3 lr3 S3 ⟨_, p3⟩ y hy => ?_⟩
  cases e0 : recv δ3 μ3 r with
  | none => simp only [e0] at p3; exact p3.elim
  | some cw =>
    obtain ⟨c, w⟩ := cw
    cases e1 : ri.at δ3 μ3 with
    | none => simp only [e0, e1] at p3; exact p3.elim
    | some di =>
      simp only [e0, e1] at p3
      cases eg : gSetD c di s.d with
      | none => simp only [eg] at p3; exact p3.elim
      | some c' =>
        simp only [eg] at p3
        obtain ⟨pa, rfl, ow, hw⟩ := recv_ok S3 (hx.up l3 lr3) e0
        unfold gSetD at eg
        cases c <;> first | (cases eg; done) | skip
        · rename_i ks ds
          cases ek : dkey di with
          | none => simp only [ek] at eg; cases eg
          | some k =>
            simp only [ek] at eg
            by_cases hz : (ks.zip ds).length < 16777216
            · rw [if_pos hz] at eg
              cases eg
              obtain ⟨kvs, hH, kv⟩ := own_kv ow
              obtain ⟨_, _, hl⟩ := kv.back
              have rv3 := (Rep.up l2.to lr2.to rv).up l3.to lr3.to
              refine ⟨pa, _, rfl, .inl ⟨kvs, k.key, hH, key_of (hy.bor S3 e1) ek, by rw [hl, line_eq]; exact hz, rfl⟩, p3.nx (hw _ _ (kv_own (kv.put rv3) upd_same))⟩
            · rw [if_neg hz] at eg; cases eg
def gPopD : Own → D → Option (D × Own)
  | .dct ks ds, y => match dkey y with
    | some k => (getA (ks.zip ds) k).map fun d => (d, dctO (dropA (ks.zip ds) k))
    | none => none
  | _, _ => none
def mPopD (oo : Opn) (m : ME) : ME := fun δ μ => (oo.ev δ μ).bind fun r δ1 μ1 => match recv δ1 μ1 r with
  | some (.dct _ _, _) => (m δ1 μ1).bind fun s δ2 μ2 => match recv δ2 μ2 r with
    | some (c, w) => match gPopD c s.d with
      | some (d, c') => .ok (.fr d) (w c').1 (w c').2
      | none => .bad
    | none => .bad
  | _ => .bad
theorem je_popD {oo : Opn} {m : ME} (ho : JO X W o oo) (he : JE X W e m) (mm : M1 X o "pop" apos e cpos) : JE X W (.Call (.Attribute o "pop" apos) [e] [] cpos) (mPopD oo m) := by
  refine (pe_dpop1 ho he.locked mm).imp fun σ H Q ⟨Z, F, ρ, μ, δ, S, q⟩ => ⟨Z, F, ρ, μ, δ, S, (FinE.bind q).imp fun ra δ1 μ1 H1 F1 ρ1 l lr S1 ⟨_, _, _, p⟩ x hx => ?_⟩
  cases e0 : recv δ1 μ1 ra with
  | none => simp only [e0] at p; exact p.elim
  | some cw =>
    obtain ⟨c0, w0⟩ := cw
    simp only [e0] at p
    obtain ⟨pa, rfl, ow, _⟩ := recv_ok S1 hx e0
    cases c0 <;> first | exact p.elim | skip
    obtain ⟨kvs0, hH0, _⟩ := own_kv ow
    refine ⟨pa, rfl, .inl ⟨kvs0, .inl hH0⟩, Z, F1, ρ1, μ1, δ1, S1, p.bind.imp fun s δ2 μ2 H2 F2 ρ2 l2 lr2 S2 ⟨_, _, _, p2⟩ y hy => ?_⟩
    cases e1 : recv δ2 μ2 ra with
    | none => simp only [e1] at p2; exact p2.elim
    | some cw =>
      obtain ⟨c, w⟩ := cw
      simp only [e1] at p2
      cases eg : gPopD c s.d with
      | none => simp only [eg] at p2; exact p2.elim
      | some dc =>
        obtain ⟨d, c'⟩ := dc
        simp only [eg] at p2
        obtain ⟨pa', ep, ow2, hw⟩ := recv_ok S2 (hx.up l2 lr2) e1
        cases ep
        unfold gPopD at eg
        cases c <;> first | (cases eg; done) | skip
        · rename_i ks ds
          cases ek : dkey s.d with
          | none => simp only [ek] at eg; cases eg
          | some k =>
            simp only [ek] at eg
            obtain ⟨d1, g1, g2⟩ := Option.map_eq_some_iff.mp eg
            cases g2
            obtain ⟨kvs, hH, kv⟩ := own_kv ow2
            obtain ⟨v, ev, rv⟩ := kv.get g1
            exact ⟨kvs, k.key, v, hH, key_rep hy ek, ev, p2 _ F2 ρ2 .refl .refl (hw _ _ (kv_own kv.drop upd_same)) v ⟨rv, fun o p z => by cases z⟩⟩
end
end FL
namespace FL
open PySem PySem.Spec PyProof.Rows L2
section
variable {X : Cx} {W : WX} {e : Expr} {pos : Pos}
def tLockD (td : TE) : TE := fun σ H Q => td σ H fun x H1 => ∃ d kvs, x = .ref d ∧ H1 d = some (.dK kvs) ∧ ∀ o H2, H2 d = some (.frz o (.dK kvs)) → (∀ b, b ≠ d → H2 b = H1 b) → Q x H2
theorem pe_lockD {td : TE} (he : PE X e td) : PE X e (tLockD td) := by
  refine ⟨fun pins s σ H Q I h => ?_⟩
  refine wpAny_mono (he.run pins s σ H _ I h) (fun u s1 ⟨x, H1, I1, r, d, kvs, ex, hd, q⟩ => ?_) fun _ _ z => z
  obtain ⟨od, J⟩ := I1.lock hd True.intro
  exact ⟨x, _, J, r, q od _ upd_same fun b hb => upd_ne hb⟩
def itemsD (kds : List (DK × D)) : List D := kds.map fun p => .tup [p.1.d, p.2]
def mItems (i : Nat) : MM (List D) := fun δ μ => match δ[i]? with
  | some (some (.own (.dct ks ds))) => .ok (itemsD (ks.zip ds)) (δ.set i (some (.fr (.dct ks ds)))) μ
  | _ => .bad
theorem rep_key {K : PySem.W.Frag} {mg : Str → Option Value} {F : Hp} {ρ : List Addr} (k : DK) : Rep K mg F ρ (kV k.key) k.d := by
  cases k with
  | i n => exact .int
  | s x => exact .str
theorem itr_items {F : Hp} {ρ : List Addr} {d : Addr} {o : Obj} {kvs : List (Key × V)} {kds : List (DK × D)} (hF : F d = some (.frz o (.dK kvs))) (r : KV X.K X.mg F ρ kvs kds) : ItR X F ρ (Iti d o kvs) (itemsD kds) := by
  intro Z' F' ρ' μ δ σ H i to tr S
  have q : H d = some (.frz o (.dK kvs)) := by
    rcases S.le _ _ (to _ _ hF) with z | ⟨_, _, z, _⟩
    · exact z
    · cases z
  obtain ⟨_, _, hl⟩ := r.back
  refine ⟨fun h => ⟨q, by rw [hl]; simpa [itemsD] using h⟩, fun x hx => ?_⟩
  unfold itemsD at hx
  rw [List.getElem?_map] at hx
  obtain ⟨p, e1, rfl⟩ := Option.map_eq_some_iff.mp hx
  obtain ⟨v, e2, rv⟩ := r.at e1
  refine ⟨⟨q, (List.getElem?_eq_some_iff.mp e2).1⟩, fun y H' ⟨T, k, w, e3, ey, hT, eH⟩ => ?_⟩
  subst ey
  subst eH
  rw [e2] at e3
  cases e3
  exact new_pair S hT (rep_key p.1) (rv.up to tr)
theorem Sim.lockItems {K : PySem.W.Frag} {mg : Str → Option Value} {Z F H H2 : Hp} {ρ : List Addr} {μ : Mem} {δ : Loc} {σ : L2.St} {i : Nat} {p : Addr} {ks : List DK} {ds : List D} {o : Obj} {kvs : List (Key × V)} (S : Sim K mg Z F ρ μ δ σ H) (e : δ[i]? = some (some (.own (.dct ks ds)))) (hp : σ[i]? = some (some (.ref p)))
    (kv : KV K mg F ρ kvs (ks.zip ds)) (hn : ks.length = ds.length) (h2 : H2 p = some (.frz o (.dK kvs))) (hk : ∀ b, b ≠ p → H2 b = H b) :
    ∃ F2, Le Z F F2 ∧ F2 p = some (.frz o (.dK kvs)) ∧ KV K mg F2 ρ kvs (ks.zip ds) ∧ Sim K mg Z F2 ρ μ (δ.set i (some (.fr (.dct ks ds)))) σ H2 := by
  obtain ⟨v, ev, p', rfl, fr, ow⟩ := S.slot i _ e
  rw [hp] at ev
  cases ev
  have hi : i < δ.length := (List.getElem?_eq_some_iff.mp e).1
  have same : σ.set i (some (.ref p)) = σ := by
    apply List.ext_getElem?
    intro j
    by_cases z : j = i
    · subst z
      rw [List.getElem?_set_self (by rw [S.len]; exact hi), hp]
    · rw [List.getElem?_set_ne (Ne.symm z)]
  have S1 : Sim K mg Z F ρ μ (δ.set i none) σ H := by
    have := S.forget (i := i) (x := some (.ref p))
    rwa [same] at this
  have none_at : ∀ (j : Nat) s, (δ.set i none)[j]? = some (some (.own s)) → σ[j]? ≠ some (some (.ref p)) := fun j s e1 e2 => by
    by_cases z : j = i
    · subst z
      rw [List.getElem?_set_self hi] at e1
      cases e1
    · rw [List.getElem?_set_ne (Ne.symm z)] at e1
      exact z (S.apart j i p s _ e1 e e2 hp)
  have S2 : Sim K mg Z F ρ μ (δ.set i none) σ H2 := S1.heap hk fr.f fr.z fr.r none_at
  obtain ⟨l, S3⟩ := S2.freeze h2 fr none_at
  refine ⟨_, l, upd_same, kv.up l.to fun _ _ h => h, ?_⟩
  have kv2 := kv.up (ρ' := ρ) l.to fun _ _ h => h
  obtain ⟨b1, b2, b3⟩ := kv2.back
  have rp : Rep K mg (upd F p (.frz o (.dK kvs))) ρ (.ref p) (.dct ks ds) := by
    have f1 : (ks.zip ds).map (·.1) = ks := List.map_fst_zip (by omega)
    have f2 : (ks.zip ds).map (·.2) = ds := List.map_snd_zip (by omega)
    rw [f2] at b2
    rw [f1] at b1
    exact .dct (.inr ⟨o, by rw [upd_same, ← b1]⟩) (by rw [hn, ← b2.len]) b2
  have S4 := S3.store (i := i) (v := .ref p) (s := .fr (.dct ks ds)) ⟨rp, fun o p z => by cases z⟩ (by simpa using hi)
  rw [same, List.set_set] at S4
  exact S4
theorem ji_items {i : Nat} {elts : List Expr} {kk : Nat} {tpos apos cpos : Pos} (hv : PE X e (tVar i)) (hbase : attributeBase e "items" X.env (eval e X.env) = eval e X.env := by rfl) (hline : (apos.endLine == cpos.line) = true := by rfl) :
    JI X W (.Tuple elts kk tpos) (.Call (.Attribute e "items" apos) [] [] cpos) (mItems i) := by
  refine (pi_items (pe_lockD hv) hbase hline).imp fun σ H R ⟨Z, F, ρ, μ, δ, S, q⟩ => ?_
  unfold mItems at q
  cases e1 : δ[i]? with
  | none => simp only [e1] at q; exact q.elim
  | some so =>
    cases so with
    | none => simp only [e1] at q; exact q.elim
    | some s =>
      cases s with
      | fr d => simp only [e1] at q; exact q.elim
      | own c =>
        cases c <;> first | (simp only [e1] at q; exact q.elim) | skip
        rename_i ks ds
        simp only [e1] at q
        obtain ⟨v, ev, p, rfl, fr, ow⟩ := S.slot i _ e1
        obtain ⟨vs, hH, hn, rl⟩ := id ow
        obtain ⟨kvs, hH2, kv⟩ := own_kv ow
        refine ⟨.ref p, ev, p, kvs, rfl, hH2, fun o H2 h1 h2 => ?_⟩
        obtain ⟨F2, l2, hF2, kv2, S2⟩ := S.lockItems e1 ev kv (by rw [hn, rl.len]) h1 h2
        exact ⟨p, o, kvs, rfl, h1, q H2 F2 ρ l2 .refl S2 _ (itr_items hF2 kv2)⟩
def dcD (f : TgF) (tests : MT) (kx vx : ME) (vs : List Nat) : List D → List (DK × D) → ME
  | [], acc => fun δ μ => .ok (.own (dctO acc)) δ μ
  | d :: ds, acc => fun δ μ => match f d δ with
    | none => .bad
    | some δ' => (tests δ' μ).cut.bind fun b δ2 μ2 => if b = true then (kx δ2 μ2).cut.bind fun s δ3 μ3 => (vx δ3 μ3).cut.bind fun t δ4 μ4 => match dkey s.d with
        | some k => if acc.length < 16777216 then dcD f tests kx vx vs ds (putA acc k t.d) (wipeD δ4 vs) μ4 else .bad
        | none => .bad
      else dcD f tests kx vx vs ds acc (wipeD δ2 vs) μ2
def mDc (mi : MM (List D)) (f : TgF) (tests : MT) (kx vx : ME) (vs : List Nat) : ME := fun δ μ => (mi δ μ).bind fun ds δ1 μ1 => dcD f tests kx vx vs ds [] (wipeD δ1 vs) μ1
theorem wipe_own {vs : List Nat} {δ : Loc} {i : Nat} {c : Own} : (wipeD δ vs)[i]? = some (some (.own c)) → δ[i]? = some (some (.own c)) := by
  induction vs with
  | nil => exact id
  | cons v vs ih =>
    intro h
    have hn := wipeD_in h
    unfold wipeD at h
    rw [List.getElem?_set_ne (fun z => hn (by simp [z]))] at h
    exact ih h
theorem dc_read {mi : MM (List D)} {f : TgF} {tests : MT} {kx vx : ME} {vs is : List Nat} {B : Cx} (hK : B.K = X.K) (hm : B.mg = X.mg) (hsub : ∀ j ∈ is, j ∈ vs) : ∀ σ H Q, rdE X W (mDc mi f tests kx vx vs) σ H Q → tDc (rdI X W mi) (rdG X f is) (rdT B W0 tests) (rdE B W0 kx) (rdE B W0 vx) vs σ H Q := by
  intro σ H Q ⟨Z, F, ρ, μ, δ, S, q⟩
  refine ⟨Z, F, ρ, μ, δ, S, (FinE.bind q).imp fun ds δ1 μ1 H1 F1 ρ1 l lr S1 ⟨_, _, _, p⟩ J hJ A hA => ?_⟩
  obtain ⟨n1, n2, n3, n4⟩ := S1.notIn hA
  let P : Slot → Loc → Mem → Hp → List Addr → Hp → Prop := fun s δ' _ F' ρ' H' => ∀ v, VR X.K X.mg Z F' ρ' δ' σ H' v s → Q v H'
  let Wd : Nat → Nat → Hp → Prop := fun i k H => k = ds.length - i ∧ i ≤ ds.length ∧ ∃ F' ρ' μ δ kvs acc, (∀ p o, F1 p = some o → F' p = some o) ∧ (∀ (k : Nat) p, ρ1[k]? = some p → ρ'[k]? = some p) ∧ Sim X.K X.mg Z F' ρ' μ (wipeD δ vs) (L2.wipe σ vs) H ∧
    Free Z F' ρ' A ∧ (∀ (i : Nat) s, (wipeD δ vs)[i]? = some (some (.own s)) → (L2.wipe σ vs)[i]? ≠ some (some (.ref A))) ∧ H A = some (.dK kvs) ∧ KV X.K X.mg F' ρ' kvs acc ∧ FinE X W Z F' ρ' σ P (dcD f tests kx vx vs (ds.drop i) acc (wipeD δ vs) μ)
  have wout : ∀ {δ : Loc} {s : Slot} (i : Nat), (wipeD δ vs)[i]? = some (some s) → (L2.wipe σ vs)[i]? = σ[i]? := fun i h => wipe_out (wipeD_in h)
  have Sw := (S1.laid (o := .dK []) hA).wipe vs
  refine ⟨Wd, ⟨ds.length, by simp, Nat.zero_le _, F1, ρ1, μ1, δ1, [], [], fun _ _ h => h, fun _ _ h => h, Sw, ⟨n1, n2, n3⟩, fun i s e1 e2 => ?_, upd_same, .nil, by rw [List.drop_zero]; exact p⟩, ?_⟩
  · have e4 := wout i e1
    rw [e2] at e4
    exact n4 i s (wipe_own e1) e4.symm
  rintro i k H2 ⟨rfl, hle, F2, ρ2, μ2, δ2, kvs, acc, to, tr, S2, fA, nA, hL, kv, p2⟩
  obtain ⟨j1, j2⟩ := hJ Z F2 ρ2 μ2 _ _ H2 i to tr S2
  by_cases hlt : i < ds.length
  · refine .inr ?_
    have hd : ds.drop i = ds[i] :: ds.drop (i + 1) := List.drop_eq_getElem_cons hlt
    have SG := S2.guard hL fA nA
    obtain ⟨go, yl⟩ := hJ (upd Z A (.dK kvs)) F2 ρ2 μ2 _ _ H2 i to tr SG |>.2 ds[i] (List.getElem?_eq_getElem hlt)
    refine ⟨go, fun H' => Wd (i + 1) (ds.length - (i + 1)) H', fun H' w => ⟨ds.length - (i + 1), by omega, w⟩, fun x H' y => ?_⟩
    obtain ⟨F3, l3, S3, r3⟩ := yl x H' y
    rw [hd] at p2
    unfold dcD at p2
    cases ef : f ds[i] (wipeD δ2 vs) with
    | none => simp only [ef] at p2; exact p2.elim
    | some δ3 =>
      simp only [ef] at p2
      refine ⟨_, F3, ρ2, μ2, _, _, S3, r3, δ3, ef, fun σ4 hσ hl4 S4 => ?_⟩
      have ws : L2.wipe σ4 vs = L2.wipe σ vs := by
        have h1 := wipe_same (σ := L2.wipe σ vs) (σ' := σ4) hl4 (vs := vs) fun j hj => hσ j fun z => hj (hsub j z)
        rw [h1]
        exact wipe_same (wipe_length _ _) fun j hj => wipe_out hj
      refine ⟨by rw [ws, wipe_same (σ := σ) (σ' := σ) rfl fun _ _ => rfl], ?_⟩
      refine ⟨_, F3, ρ2, μ2, δ3, by rw [hK, hm]; exact S4, (FinE.cut (p := A) (o := .dK kvs) hK hm (p2.mono l3.unguard .refl)).imp fun b δ5 μ5 H5 F5 ρ5 l5 lr5 _ ⟨S5, l5', lr5', p5⟩ => ?_⟩
      have fin : ∀ {F6 : Hp} {ρ6 : List Addr} {μ6 : Mem} {δ6 : Loc} {H6 H7 : Hp} {kvs' : List (Key × V)} {acc' : List (DK × D)}, Sim X.K X.mg (upd Z A (.dK kvs)) F6 ρ6 μ6 δ6 σ4 H6 → Le (upd Z A (.dK kvs)) F3 F6 → LeR (upd Z A (.dK kvs)) ρ2 ρ6 →
          (∀ a, a ≠ A → H7 a = H6 a) → H7 A = some (.dK kvs') → KV X.K X.mg F6 ρ6 kvs' acc' → FinE X W Z F6 ρ6 σ P (dcD f tests kx vx vs (ds.drop (i + 1)) acc' (wipeD δ6 vs) μ6) → Wd (i + 1) (ds.length - (i + 1)) H7 := by
        intro F6 ρ6 μ6 δ6 H6 H7 kvs' acc' S6 l6 lr6 hne hA7 kv' p6
        have fA6 : Free Z F6 ρ6 A := (fA.on l3 .refl).on l6 lr6
        have S8 := ((S6.unguard fA.z).heap hne fA6.f fA6.z fA6.r S6.guardNo).wipe vs
        rw [ws] at S8
        refine ⟨rfl, hlt, F6, ρ6, μ6, δ6, kvs', acc', fun p o h => l6.to p o (l3.to p o (to p o h)), fun k p h => lr6.to k p (tr k p h), S8, fA6, fun i' s e1 e2 => ?_, hA7, kv', p6⟩
        have e4 : (L2.wipe σ4 vs)[i']? = σ4[i']? := wipe_out (wipeD_in e1)
        rw [ws, e2] at e4
        exact S6.guardNo i' s (wipe_own e1) e4.symm
      cases b with
      | false =>
        simp only [if_neg Bool.false_ne_true] at p5 ⊢
        exact fin S5 l5' lr5' (fun _ _ => rfl) S5.guarded (kv.up (fun p o h => l5'.to p o (l3.to p o h)) lr5'.to) p5
      | true =>
        simp only [if_true] at p5 ⊢
        refine ⟨_, F5, ρ5, μ5, δ5, by rw [hK, hm]; exact S5, (FinE.cut (p := A) (o := .dK kvs) hK hm p5).imp fun s δ6 μ6 H6 F6 ρ6 l6 lr6 _ ⟨S6, l6', lr6', p6⟩ v vr => ?_⟩
        rw [hK, hm] at vr
        refine ⟨_, F6, ρ6, μ6, δ6, by rw [hK, hm]; exact S6, (FinE.cut (p := A) (o := .dK kvs) hK hm p6).imp fun t δ7 μ7 H7 F7 ρ7 l7 lr7 _ ⟨S7, l7', lr7', p7⟩ u ur => ?_⟩
        rw [hK, hm] at ur
        cases ek : dkey s.d with
        | none => simp only [ek] at p7; exact p7.elim
        | some k =>
          simp only [ek] at p7
          have ev : v = kV k.key := by
            have r := vr.r
            cases s with
            | fr d => exact key_rep r ek
            | own c => cases c <;> cases ek
          obtain ⟨F8, l8, S8, r8⟩ := S7.lock ur
          by_cases hz : acc.length < 16777216
          · rw [if_pos hz] at p7
            have kv8 := kv.up (fun p o h => l8.to p o (l7'.to p o (l6'.to p o (l5'.to p o (l3.to p o h))))) (ρ' := ρ7) fun k p h => lr7'.to k p (lr6'.to k p (lr5'.to k p h))
            obtain ⟨_, _, hlen⟩ := kv.back
            refine ⟨kvs, k.key, ev, S8.guarded, by rw [hlen, line_eq]; exact hz, ?_⟩
            exact fin S8 (((l5'.trans l6').trans l7').trans l8) ((lr5'.trans lr6').trans lr7') (fun a ne => upd_ne ne) upd_same (kv8.put r8) (p7.mono l8.unguard .refl)
          · rw [if_neg hz] at p7; exact p7.elim
  · have e : i = ds.length := by omega
    subst e
    rw [List.drop_length] at p2
    refine .inl ⟨j1 (Nat.le_refl _), ?_⟩
    have S3 : Sim X.K X.mg Z F2 ρ2 μ2 (wipeD δ2 vs) σ H2 := S2.agree (wipe_length _ _).symm fun i s e => (wout i e).symm
    exact p2 H2 F2 ρ2 .refl .refl S3 (.ref A) ⟨⟨A, rfl, fA, kv_own kv hL⟩, fun o p z1 z2 i o' e1 e2 => by
      cases z2
      exact nA i o' e1 (by rw [wout i e1]; exact e2)⟩
theorem je_dc {kx vx tg iter : Expr} {ifs : List Expr} {scope : Scope} {own : List (Str × Nat)} {mi : MM (List D)} {f : TgF} {is : List Nat} {tests : MT} {mk mv : ME} (hc : X.calm = true) (hN : X.N.Nodup) (hi : JI X W tg iter mi) (ok : BlkOk X.N X.env.scope scope own)
    (hg : ∀ (s : Shared) (H : Hp) (C : Addr) (cl : List (Str × Addr)) (fp : List Addr), JG (X.blk s H scope (compEnvC scope cl C X.env) fp) tg f is) (ht : ∀ (s : Shared) (H : Hp) (C : Addr) (cl : List (Str × Addr)) (fp : List Addr), JTs (X.blk s H scope (compEnvC scope cl C X.env) fp) W0 ifs tests)
    (hk : ∀ (s : Shared) (H : Hp) (C : Addr) (cl : List (Str × Addr)) (fp : List Addr), JE (X.blk s H scope (compEnvC scope cl C X.env) fp) W0 kx mk) (hv : ∀ (s : Shared) (H : Hp) (C : Addr) (cl : List (Str × Addr)) (fp : List Addr), JE (X.blk s H scope (compEnvC scope cl C X.env) fp) W0 vx mv)
    (hsub : ∀ j ∈ is, j ∈ own.map (·.2)) (hs : ∀ x, foldedSetIterable iter X.env x = pure x := by intro _; rfl) : JE X W (.DictComp kx vx [⟨tg, iter, ifs, 0⟩] scope pos) (mDc mi f tests mk mv (own.map (·.2))) :=
  (pe_dc (g := rdG X f is) (tt := rdT X W0 tests) (tk := rdE X W0 mk) (tv := rdE X W0 mv) hc hN hi ok hg ht hk hv hs).imp (dc_read (B := X) rfl rfl hsub)
theorem Cs.dc {k : Nat} {N : List Str} {sc : Scope} {kx vx tg iter : Expr} {ifs : List Expr} {scope : Scope} {mi : MM (List D)} {f : TgF} {is : List Nat} {tests : MT} {mk mv : ME} {Tx : Program → World → PySem.W.Frag → (Str → Option Value) → Heap → Prop} (C : Cs X W k N sc) (T : Tx X.prog X.w X.K X.mg X.base) (own : List (Str × Nat)) (hi : JI X W tg iter mi) (ok : blkC N sc scope own = true)
    (hb : ∀ (Y : Cx), Tx Y.prog Y.w Y.K Y.mg Y.base → Cs Y W0 k N (relS scope sc) → JG Y tg f is ∧ JTs Y W0 ifs tests ∧ JE Y W0 kx mk ∧ JE Y W0 vx mv) (hsub : (is.all fun j => (own.map (·.2)).contains j) = true) (hs : ∀ x, foldedSetIterable iter X.env x = pure x := by intro _; rfl) :
    JE X W (.DictComp kx vx [⟨tg, iter, ifs, 0⟩] scope pos) (mDc mi f tests mk mv (own.map (·.2))) := by
  have at_ := fun s H c cl fp => hb (X.blk s H scope (compEnvC scope cl c X.env) fp) T (C.blk scope s H c cl fp)
  exact je_dc C.calm (by rw [C.hN]; exact C.nd) hi (by rw [C.hN, C.hsc]; exact blkOk_by ok) (fun s H c cl fp => (at_ s H c cl fp).1) (fun s H c cl fp => (at_ s H c cl fp).2.1) (fun s H c cl fp => (at_ s H c cl fp).2.2.1) (fun s H c cl fp => (at_ s H c cl fp).2.2.2) (fun j hj => by simpa using List.all_eq_true.mp hsub j hj) hs
section
variable {k : Nat} {N : List Str} {sc : Scope} {o i value : Expr} {oo oi : Opn} {m : ME} {p p' apos cpos tpos : Pos} {es : List Expr}
theorem Cs.getD (C : Cs X W k N sc) (ha : JO X W o oo) (hb : JO X W i oi) (hs : NoSl i) : JE X W (.Subscript o i pos) (m2 gGetD oo oi) := je_getD (by have := C.hu; omega) ha hb hs
theorem Cd.setD (C : Cd X W k N sc) (he : JE X W value m) (ho : JO X W o oo) (hi : JO X W i oi) (hs : swapsWith value (some (.Subscript o i p')) pos.line X.env = pure false := by rfl) : JS X W (.Assign [.Subscript o i p'] value pos) (mSetI gSetD oo oi m) :=
  js_setD (by have := C.toCs.hu; omega) he ho hi hs
theorem popD_ (ho : JO X W o oo) (he : JE X W e m) (h1 : attributeBase o "pop" X.env (eval o X.env) = eval o X.env := by rfl)
    (h2 : ((backTo cpos (starEach [e] X.env)).all (fun x => !x.1) && (backToKw cpos (keywordEach [] X.env)).all (fun x => x.1.isSome) && decide (([e] : List Expr).length + ([] : List Keyword).length + (if ([] : List Keyword).isEmpty then 0 else 1) < 30)) = true := by rfl)
    (h3 : (apos.endLine == cpos.line) = true := by rfl) (h4 : backTo cpos (starEach [e] X.env) = [(false, eval e X.env)] := by rfl) : JE X W (.Call (.Attribute o "pop" apos) [e] [] cpos) (mPopD oo m) := je_popD ho he ⟨h1, h2, h3, h4⟩
theorem Cs.items {x : Str} {i : Nat} {elts : List Expr} {kk : Nat} (C : Cs X W k N sc) (h : varC N sc i x = true) (hbase : attributeBase (.Name x p) "items" X.env (eval (.Name x p) X.env) = eval (.Name x p) X.env := by rfl) (hline : (apos.endLine == cpos.line) = true := by rfl) :
    JI X W (.Tuple elts kk tpos) (.Call (.Attribute (.Name x p) "items" apos) [] [] cpos) (mItems i) := ji_items (C.var h) hbase hline
end
end
end FL
namespace FL
open PySem L2
noncomputable def bSource : MS := (mSeq (mSet 2 (mIf (mTb (m2 (gEq true) (.v 0) (.e (mLst [])))) (m2 gIxL (.v 0) (.e (m2 gMod (.v 1) (.e (mC gLen [(.v 0)]))))) (mD (.int 1))))
    (mRet (mShare (mLst [(mV 2), (m2 gMulA (.e (mD (.int 3))) (.v 1)), (mIf (mTb (m2 gGe (.v 2) (.e (m2 gPow (.e (mD (.int 10))) (.e (mD (.int 18))))))) (m2 gDiv (.v 2) (.e (m2 gPow (.e (mD (.int 10))) (.e (mD (.int 18)))))) (mD (.int 0)))]))))
noncomputable def bNext : MS := (mSeq (mIfS (mTb (m2 gGt (.e (m2 gIxL (.v 0) (.e (mD (.int 2))))) (.e (mD (.int 0))))) (mSeq (mSet 2 (m2 gMod (.e (m2 gIxL (.v 0) (.e (mD (.int 2))))) (.v 1)))
    (mSeq (mSetI gSetL (.v 0) (.e (mD (.int 2))) (m2 gDiv (.e (m2 gIxL (.v 0) (.e (mD (.int 2))))) (.v 1)))
    (mRet (mV 2))))
    mPass)
    (mSeq (mSetI gSetL (.v 0) (.e (mD (.int 1))) (m2 gAdd (.e (m2 gIxL (.v 0) (.e (mD (.int 1))))) (.e (mD (.int 1)))))
    (mSeq (mSet 3 (mLst [(mD (.int 2147483647)), (mD (.int 2147483629)), (mD (.int 2147483587)), (mD (.int 2147483579)), (mD (.int 2147483563)), (mD (.int 2147483549)), (mD (.int 2147483543)), (mD (.int 2147483497))]))
    (mSeq (mSet 4 (m2 gIxL (.e (m2 gAdd (.v 3) (.e (mLst [(mD (.int 2147483489)), (mD (.int 2147483477)), (mD (.int 2147483423))])))) (.e (m2 gMod (.e (m2 gIxL (.v 0) (.e (mD (.int 1))))) (.e (mD (.int 11)))))))
    (mRet (m2 gMod (.e (m2 gDiv (.e (m2 gMod (.e (m2 gPow (.e (m2 gAdd (.e (m2 gAdd (.e (m2 gMod (.e (m2 gIxL (.v 0) (.e (mD (.int 0))))) (.v 4))) (.e (m2 gMulA (.e (mD (.int 7919))) (.e (m2 gIxL (.v 0) (.e (mD (.int 1))))))))) (.e (mD (.int 1))))) (.e (mD (.int 5))))) (.v 4))) (.e (mD (.int 13))))) (.v 1)))))))
noncomputable def mNext : MF := mFn 5 bNext
noncomputable def mSource : MF := mFn 3 bSource
noncomputable def bPick : MS := (mRet (m2 gIxL (.v 1) (.e (mCall mNext [(mV 0), (mC gLen [(.v 1)])] []))))
noncomputable def mPick : MF := mFn 2 bPick
def Src (μ : Mem) (j : Nat) (B : Int) : Prop := ∃ c i g : Int, μ[j]? = some (.lst [.int c, .int i, .int g]) ∧ 0 ≤ i ∧ i ≤ B ∧ 0 ≤ g
theorem Src.mono {μ : Mem} {j : Nat} {B B' : Int} (h : Src μ j B) (hb : B ≤ B') : Src μ j B' := by
  obtain ⟨c, i, g, h1, h2, h3, h4⟩ := h
  exact ⟨c, i, g, h1, h2, by omega, h4⟩
theorem Fr.refl {j : Nat} {μ : Mem} : Fr j μ μ := ⟨rfl, fun _ _ => rfl⟩
theorem ix0 {a b c : D} : L2.atI [a, b, c] 0 = some a := rfl
theorem ix1 {a b c : D} : L2.atI [a, b, c] 1 = some b := rfl
theorem ix2 {a b c : D} : L2.atI [a, b, c] 2 = some c := rfl
theorem ixn1 : ixN 3 1 = some 1 := rfl
theorem ixn2 : ixN 3 2 = some 2 := rfl
def primes : List Int := [2147483647, 2147483629, 2147483587, 2147483579, 2147483563, 2147483549, 2147483543, 2147483497, 2147483489, 2147483477, 2147483423]
theorem primes_at (r : Int) (h0 : 0 ≤ r) (h1 : r < 11) : ∃ p : Int, L2.atI (primes.map D.int) r = some (.int p) ∧ 2147483423 ≤ p ∧ p ≤ 2147483647 := by
  have e : r = 0 ∨ r = 1 ∨ r = 2 ∨ r = 3 ∨ r = 4 ∨ r = 5 ∨ r = 6 ∨ r = 7 ∨ r = 8 ∨ r = 9 ∨ r = 10 := by omega
  rcases e with rfl | rfl | rfl | rfl | rfl | rfl | rfl | rfl | rfl | rfl | rfl <;> exact ⟨_, rfl, by decide, by decide⟩
theorem next_spec {μ : Mem} {j : Nat} {n B : Int} (h : Src μ j B) (hB : B ≤ 2 ^ 40) (h0 : 0 < n) (hn : n ≤ 2 ^ 63) :
    ∃ r μ', mNext [.obj j, .int n] μ = .ok (.fr (.int r)) μ' ∧ 0 ≤ r ∧ r < n ∧ Src μ' j (B + 1) ∧ Fr j μ μ' := by
  obtain ⟨c, i, g, hm, i0, iB, g0⟩ := h
  have hj : j < μ.length := (List.getElem?_eq_some_iff.mp hm).1
  have hlog : n.natAbs.log2 < 9000 := by
    have : n.natAbs < 2 ^ 64 := by omega
    have := (Nat.log2_lt (by omega)).mpr this
    omega
  by_cases hg : 0 < g
  · refine ⟨g % n, μ.set j (.lst [.int c, .int i, .int (g / n)]), ?_, Int.emod_nonneg _ (by omega), Int.emod_lt_of_pos _ h0, ⟨c, i, g / n, by simp [hj], i0, by omega, Int.ediv_nonneg g0 (by omega)⟩, .set⟩
    simp [mNext, bNext, mFn_eq, mSeq, mIfS, mTb, m2, Opn.ev, mSet, mRet, mV, mD, mSetI, OR.at, look, startD, Out.bind, Out.thn, OutS.seq, OutS.fin, Slot.d, Own.d, lift, hm, gGt, gGtI, gTx, gInt, gMod, gDiv, gIxL, ix2, hg, h0, hlog, recv, gSetL, ixn2]
  · have e0 : g = 0 := by omega
    subst e0
    have hr0 : 0 ≤ (i + 1) % 11 := Int.emod_nonneg _ (by decide)
    have hr1 : (i + 1) % 11 < 11 := Int.emod_lt_of_pos _ (by decide)
    obtain ⟨p, ep, p0, p1⟩ := primes_at _ hr0 hr1
    have hc0 : 0 ≤ c % p := Int.emod_nonneg _ (by omega)
    have hc1 : c % p < p := Int.emod_lt_of_pos _ (by omega)
    have hbase : (c % p + 7919 * (i + 1) + 1).natAbs < 2 ^ 64 := by omega
    have hmul : Nat.log2 7919 + (i + 1).natAbs.log2 < 1000000 := by
      have h1 : Nat.log2 7919 = 12 := by decide +kernel
      have h2 : (i + 1).natAbs.log2 < 64 := (Nat.log2_lt (by omega)).mpr (by omega)
      omega
    have hp9 : 0 < p := by omega
    refine ⟨(c % p + 7919 * (i + 1) + 1) ^ 5 % p / 13 % n, μ.set j (.lst [.int c, .int (i + 1), .int 0]), ?_, Int.emod_nonneg _ (by omega), Int.emod_lt_of_pos _ h0, ⟨c, i + 1, 0, by simp [hj], by omega, by omega, by omega⟩, .set⟩
    have ep' : L2.atI [D.int 2147483647, .int 2147483629, .int 2147483587, .int 2147483579, .int 2147483563, .int 2147483549, .int 2147483543, .int 2147483497, .int 2147483489, .int 2147483477, .int 2147483423] ((i + 1) % 11) = some (.int p) := ep
    have hs : ∀ c : Own, (μ.set j c)[j]? = some c := fun c => List.getElem?_set_self hj
    have l13 : Nat.log2 13 < 9000 := by decide +kernel
    simp [mNext, bNext, mFn_eq, mSeq, mIfS, mTb, m2, Opn.ev, mSet, mRet, mV, mD, mSetI, mLst, evA, mPass, OR.at, look, startD, Out.bind, Out.thn, OutS.seq, OutS.fin, Slot.d, Own.d, lift, hm, hs, gGt, gGtI, gTx, gInt, gMod, gDiv, gPow, gMulA, gMul, gAdd, gAddS, gAddL, gAddT, gIxL, ix0, ix1, ix2, h0, hlog, recv, gSetL, ixn1, ep', hp9, hbase, hmul, l13]
theorem atI_nat {α : Type} {xs : List α} {r : Int} (h0 : 0 ≤ r) (h1 : r < xs.length) : ∃ x, L2.atI xs r = some x ∧ x ∈ xs := by
  have hr : r.toNat < xs.length := by omega
  refine ⟨xs[r.toNat], ?_, List.getElem_mem hr⟩
  unfold L2.atI ixN
  simp [h0, h1, hr]
theorem pick_str {μ : Mem} {j : Nat} {B : Int} {xs : Tx} (h : Src μ j B) (hB : B ≤ 2 ^ 40) (h0 : xs ≠ []) (hn : xs.length ≤ 2 ^ 24) :
    ∃ x μ', x ∈ xs ∧ mPick [.obj j, .str xs] μ = .ok (.fr (.str [x])) μ' ∧ Src μ' j (B + 1) ∧ Fr j μ μ' := by
  have hl : 0 < xs.length := List.length_pos_iff.mpr h0
  obtain ⟨r, μ', e, r0, r1, hs, hf⟩ := next_spec (n := xs.length) h hB (by omega) (by omega)
  obtain ⟨x, ex, hx⟩ := atI_nat r0 r1
  refine ⟨x, μ', hx, ?_, hs, hf⟩
  have hn' : xs.length ≤ 16777216 := hn
  simp [mPick, bPick, mFn_eq, mRet, m2, Opn.ev, mCall, evA, mV, mC, evs, OR.ats, OR.at, look, startD, Out.bind, Out.thn, OutS.fin, Slot.d, gLen, gLen1, lift, e, gIxL, ex, hn']
theorem pys_ints (ns : List Int) : D.pys (ns.map D.int) = some (ns.map PyData.int) := by
  induction ns with
  | nil => rfl
  | cons n ns ih => simp [D.pys, D.py, ih]
theorem canLay_ints (ns : List Int) : PyData.canLayAll0 (ns.map PyData.int) = true := by
  induction ns with
  | nil => simp [PyData.canLayAll0]
  | cons n ns ih => simp [PyData.canLayAll0, PyData.canLay0, ih]
theorem depth_ints (ns : List Int) : PyData.depthAll (ns.map PyData.int) = 0 := by
  induction ns with
  | nil => simp [PyData.depthAll]
  | cons n ns ih => simp [PyData.depthAll, PyData.depth, ih]
theorem shaped_ints (ns : List Int) : SeqAt.shaped (.list (ns.map PyData.int)) = true := by
  simp [SeqAt.shaped, PyData.canLay0, PyData.depth, canLay_ints, depth_ints]
theorem eq_ints_nil (neg : Bool) (ns : List Int) : gEq neg (.ro (ns.map .int)) (.lst []) = some (tb (decide (ns = []) != neg)) := by
  have h := shaped_ints ns
  have h0 := shaped_ints []
  have e : PyData.eqvAll (ns.map PyData.int) [] = decide (ns = []) := by cases ns <;> simp [PyData.eqvAll]
  simp only [List.map_nil] at h0
  simp [gEq, eqS, eqP, D.py, pys_ints, D.pys, h, h0, PyData.eqv, e]
theorem source_spec {ns : List Int} {k : Int} {μ : Mem} (hl : ns.length ≤ 63) (h0 : 0 ≤ k) (hk : k ≤ 2 ^ 40) :
    ∃ c g, 0 ≤ g ∧ mSource [.ro (ns.map .int), .int k] μ = .ok (.fr (.obj μ.length)) (μ ++ [.lst [.int c, .int (3 * k), .int g]]) := by
  have hmul : Nat.log2 3 + k.natAbs.log2 < 1000000 := by
    have h1 : Nat.log2 3 = 1 := by decide +kernel
    by_cases hz : k.natAbs = 0
    · rw [hz, h1]; decide +kernel
    · have h2 : k.natAbs.log2 < 64 := (Nat.log2_lt hz).mpr (by omega)
      omega
  have l10 : Nat.log2 1000000000000000000 < 9000 := by decide +kernel
  have core : ∀ c : Int, (ns = [] ∧ c = 1 ∨ ns ≠ [] ∧ L2.atI (ns.map D.int) (k % (ns.length : Int)) = some (.int c)) →
      ∃ g, 0 ≤ g ∧ mSource [.ro (ns.map .int), .int k] μ = .ok (.fr (.obj μ.length)) (μ ++ [.lst [.int c, .int (3 * k), .int g]]) := by
    intro c hc
    by_cases hb : 1000000000000000000 ≤ c
    · refine ⟨c / 1000000000000000000, Int.ediv_nonneg (by omega) (by decide), ?_⟩
      rcases hc with ⟨rfl, rfl⟩ | ⟨hne, hat⟩
      · omega
      · have hp := List.length_pos_iff.mpr hne
        simp [mSource, bSource, mFn_eq, mSeq, mIf, mTb, m2, Opn.ev, mSet, mRet, mV, mD, mLst, mShare, mC, evs, evA, OR.at, OR.ats, look, startD, Out.bind, Out.thn, OutS.seq, OutS.fin, Slot.d, Own.d, lift, eq_ints_nil, hne, gLen, gLen1, gMod, gInt, hp, gIxL, ixFx, hat, gMulA, gMul, hmul, gGe, gGeI, gPow, gDiv, l10, hb]
    · refine ⟨0, by decide, ?_⟩
      rcases hc with ⟨rfl, rfl⟩ | ⟨hne, hat⟩
      · have e0 : gEq true (.ro []) (.lst []) = some (tb false) := eq_ints_nil true []
        simp [mSource, bSource, mFn_eq, mSeq, mIf, mTb, m2, Opn.ev, mSet, mRet, mV, mD, mLst, mShare, mC, evs, evA, OR.at, OR.ats, look, startD, Out.bind, Out.thn, OutS.seq, OutS.fin, Slot.d, Own.d, lift, e0, gLen, gLen1, gMod, gInt, gIxL, ixFx, gMulA, gMul, hmul, gGe, gGeI, gPow, gDiv, l10, hb]
      · have hp := List.length_pos_iff.mpr hne
        simp [mSource, bSource, mFn_eq, mSeq, mIf, mTb, m2, Opn.ev, mSet, mRet, mV, mD, mLst, mShare, mC, evs, evA, OR.at, OR.ats, look, startD, Out.bind, Out.thn, OutS.seq, OutS.fin, Slot.d, Own.d, lift, eq_ints_nil, hne, gLen, gLen1, gMod, gInt, hp, gIxL, ixFx, hat, gMulA, gMul, hmul, gGe, gGeI, gPow, gDiv, l10, hb]
  by_cases hne : ns = []
  · obtain ⟨g, g0, e⟩ := core 1 (.inl ⟨hne, rfl⟩)
    exact ⟨1, g, g0, e⟩
  · have hp : 0 < (ns.length : Int) := by have := List.length_pos_iff.mpr hne; omega
    obtain ⟨x, ex, hx⟩ := atI_nat (xs := ns.map D.int) (r := k % (ns.length : Int)) (Int.emod_nonneg _ (by omega)) (by rw [List.length_map]; exact Int.emod_lt_of_pos _ hp)
    obtain ⟨c, _, rfl⟩ := List.mem_map.mp hx
    obtain ⟨g, g0, e⟩ := core c (.inr ⟨hne, ex⟩)
    exact ⟨c, g, g0, e⟩
end FL
namespace FL
open PySem L2
abbrev lo1 := PyProof.Rows.lo1
def WS : Tx := lit "abcdefghijklmnopqrstuvwxyz0123456789"
theorem ws_eq : lit "abcdefghijklmnopqrstuvwxyz0123456789" = WS := rfl
theorem lit_nil : lit "" = [] := rfl
def stepW (st : List Tx × Tx) (c : Nat) : List Tx × Tx :=
  if c ∈ WS then (if (st.2 ++ [c]).length = 20 then (st.1 ++ [st.2 ++ [c]], []) else (st.1, st.2 ++ [c]))
  else if st.2 = [] then (st.1, []) else (st.1 ++ [st.2], [])
def finW (st : List Tx × Tx) : List Tx := if st.2 = [] then st.1 else st.1 ++ [st.2]
def wordsL (y : Tx) : List Tx := finW (y.foldl stepW ([], []))
def wordsT (x : Tx) : List Tx := wordsL (x.map lo1)
noncomputable def bSplitLoop : MS := (mSeq (mIfS (mTb (m2 (gIn false) (.v 3) (.e (mD (.str (lit "abcdefghijklmnopqrstuvwxyz0123456789")))))) (mSet 2 (m2 gAdd (.v 2) (.v 3)))
    mPass)
    (mIfS (mAnd (mTb (m2 (gEq true) (.v 2) (.e (mD (.str (lit "")))))) (mOr (mTb (m2 (gIn true) (.v 3) (.e (mD (.str (lit "abcdefghijklmnopqrstuvwxyz0123456789")))))) (mTb (m2 (gEq false) (.e (mC gLen [(.v 2)])) (.e (mD (.int 20))))))) (mSeq (mEx (mMut "list" gAppend (.v 1) [(mV 2)]))
    (mSet 2 (mD (.str (lit "")))))
    mPass))
def stW (t : D) (st : List Tx × Tx) (s : Option Slot) : Loc := [some (.fr t), some (.own (.lst (st.1.map .str))), some (.fr (.str st.2)), s]
theorem split_step {t : D} {st : List Tx × Tx} {c : Nat} {s : Option Slot} {μ : Mem} (h1 : st.1.length < 16777216) (h2 : st.2.length < 16777216) :
    turnD (tgV 3) bSplitLoop (.str [c]) (stW t st s) μ = .nx (stW t (stepW st c) (some (.fr (.str [c])))) μ := by
  obtain ⟨f, r⟩ := st
  have h1' : f.length < 16777216 := h1
  have h2' : r.length + 1 ≤ 16777216 := h2
  have h2'' : r.length ≤ 16777216 := by omega
  by_cases hc : c ∈ WS
  · by_cases hl : r.length + 1 = 20
    · have hl' : (r.length : Int) + 1 = 20 := by omega
      simp [turnD, tgV, bSplitLoop, stW, stepW, mSeq, mIfS, mTb, m2, Opn.ev, mD, OR.at, OR.ats, look, Out.bind, Out.thn, OutS.seq, Slot.d, Own.d, lift, gIn, gInS, ws_eq, lit_nil, hc, hl, mSet, gAdd, gInt, gAddS, h2', mAnd, mOr, gEq, eqS, mC, evs, gLen, gLen1, mEx, mMut, recv, ownTy, evA, mV, gAppend, h1', mPass, hl']
    · have hl' : ¬ (r.length : Int) + 1 = 20 := by omega
      simp [turnD, tgV, bSplitLoop, stW, stepW, mSeq, mIfS, mTb, m2, Opn.ev, mD, OR.at, OR.ats, look, Out.bind, Out.thn, OutS.seq, Slot.d, Own.d, lift, gIn, gInS, ws_eq, lit_nil, hc, hl, mSet, gAdd, gInt, gAddS, h2', mAnd, mOr, gEq, eqS, mC, evs, gLen, gLen1, mEx, mMut, recv, ownTy, evA, mV, gAppend, h1', mPass, hl']
  · by_cases hr : r = []
    · simp [turnD, tgV, bSplitLoop, stW, stepW, mSeq, mIfS, mTb, m2, Opn.ev, mD, OR.at, OR.ats, look, Out.bind, Out.thn, OutS.seq, Slot.d, Own.d, lift, gIn, gInS, ws_eq, lit_nil, hc, hr, mSet, gAdd, gInt, gAddS, h2', mAnd, mOr, gEq, eqS, mC, evs, gLen, gLen1, mEx, mMut, recv, ownTy, evA, mV, gAppend, h1', mPass]
    · simp [turnD, tgV, bSplitLoop, stW, stepW, mSeq, mIfS, mTb, m2, Opn.ev, mD, OR.at, OR.ats, look, Out.bind, Out.thn, OutS.seq, Slot.d, Own.d, lift, gIn, gInS, ws_eq, lit_nil, hc, hr, mSet, gAdd, gInt, gAddS, h2', mAnd, mOr, gEq, eqS, mC, evs, gLen, gLen1, mEx, mMut, recv, ownTy, evA, mV, gAppend, h1', mPass]
theorem stepW_len (st : List Tx × Tx) (c : Nat) : (stepW st c).1.length ≤ st.1.length + 1 ∧ (stepW st c).2.length ≤ st.2.length + 1 := by
  unfold stepW
  split
  · split <;> simp
  · split <;> simp
theorem split_loop {t : D} {μ : Mem} : ∀ (y : Tx) (st : List Tx × Tx) (s : Option Slot), st.1.length + y.length < 16777216 → st.2.length + y.length < 16777216 →
    ∃ s', forD (turnD (tgV 3) bSplitLoop) (chars y) (stW t st s) μ = .nx (stW t (y.foldl stepW st) s') μ
  | [], st, s, _, _ => ⟨s, rfl⟩
  | c :: y, st, s, h1, h2 => by
    have hl := stepW_len st c
    rw [List.length_cons] at h1 h2
    obtain ⟨s', e⟩ := split_loop y (stepW st c) (some (.fr (.str [c]))) (by omega) (by omega)
    refine ⟨s', ?_⟩
    show (turnD (tgV 3) bSplitLoop (.str [c]) (stW t st s) μ).loop (forD (turnD (tgV 3) bSplitLoop) (chars y)) = _
    rw [split_step (by omega) (by omega)]
    exact e
theorem foldW_len (y : Tx) : ∀ st : List Tx × Tx, (y.foldl stepW st).1.length ≤ st.1.length + y.length := by
  induction y with
  | nil => intro st; simp
  | cons c y ih =>
    intro st
    have h1 := ih (stepW st c)
    have h2 := (stepW_len st c).1
    rw [List.foldl_cons, List.length_cons]
    omega
end FL
namespace FL
open PySem L2
theorem lcD_cons {f : TgF} {t : MT} {m : ME} {vs : List Nat} {d : D} {ds acc : List D} {δ : FL.Loc} {μ : Mem} : lcD f t m vs (d :: ds) acc δ μ = (match f d δ with
    | none => .bad
    | some δ' => (t δ' μ).cut.bind fun b δ2 μ2 => if b = true then (m δ2 μ2).cut.bind fun s δ3 μ3 => if acc.length < 16777216 then lcD f t m vs ds (acc ++ [s.d]) (wipeD δ3 vs) μ3 else .bad
      else lcD f t m vs ds acc (wipeD δ2 vs) μ2) := rfl
theorem kitB_ss : kitB "str" "str" = some true := by kernel_rfl
theorem stepW_pre (f f' : List Tx) (r : Tx) (c : Nat) : stepW (f ++ f', r) c = (f ++ (stepW (f', r) c).1, (stepW (f', r) c).2) := by
  unfold stepW
  dsimp only
  split
  · split <;> simp
  · split <;> simp
theorem foldW_pre (y : Tx) : ∀ (f f' : List Tx) (r : Tx), y.foldl stepW (f ++ f', r) = (f ++ (y.foldl stepW (f', r)).1, (y.foldl stepW (f', r)).2) := by
  induction y with
  | nil => intro f f' r; rfl
  | cons c y ih =>
    intro f f' r
    rw [List.foldl_cons, List.foldl_cons, stepW_pre]
    exact ih f _ _
theorem finW_pre (f : List Tx) (st : List Tx × Tx) : finW (f ++ st.1, st.2) = f ++ finW st := by
  unfold finW
  dsimp only
  split <;> simp
theorem foldW_gap {g : Tx} (hg : ∀ c ∈ g, c ∉ WS) (h0 : g ≠ []) : ∀ st : List Tx × Tx, g.foldl stepW st = (finW st, []) := by
  have key : ∀ (g : Tx), (∀ c ∈ g, c ∉ WS) → ∀ f : List Tx, g.foldl stepW (f, []) = (f, []) := by
    intro g
    induction g with
    | nil => intro _ f; rfl
    | cons c g ih =>
      intro h f
      have hc : c ∉ WS := h c (List.mem_cons_self ..)
      rw [List.foldl_cons]
      have e : stepW (f, []) c = (f, []) := by unfold stepW; simp [hc]
      rw [e]
      exact ih (fun d hd => h d (List.mem_cons_of_mem _ hd)) f
  cases g with
  | nil => exact absurd rfl h0
  | cons c g =>
    intro st
    have hc : c ∉ WS := hg c (List.mem_cons_self ..)
    rw [List.foldl_cons]
    have e : stepW st c = (finW st, []) := by
      unfold stepW finW
      rw [if_neg hc]
      split <;> rfl
    rw [e]
    exact key g (fun d hd => hg d (List.mem_cons_of_mem _ hd)) _
theorem wordsL_gap {x g y : Tx} (hg : ∀ c ∈ g, c ∉ WS) (h0 : g ≠ []) : wordsL (x ++ g ++ y) = wordsL x ++ wordsL y := by
  unfold wordsL
  rw [List.foldl_append, List.foldl_append, foldW_gap hg h0]
  generalize finW (x.foldl stepW ([], [])) = f
  have := foldW_pre y f [] []
  rw [List.append_nil] at this
  rw [this, finW_pre]
theorem wordsL_nil : wordsL [] = [] := rfl
theorem wordsL_gap1 {x g : Tx} (hg : ∀ c ∈ g, c ∉ WS) (h0 : g ≠ []) : wordsL (x ++ g) = wordsL x := by
  have := wordsL_gap (x := x) (y := []) hg h0
  simpa [wordsL_nil] using this
theorem foldW_run {x : Tx} (hx : ∀ c ∈ x, c ∈ WS) : ∀ (f : List Tx) (r : Tx), r.length < 20 → (∀ p ∈ f, p.length = 20) →
    ∃ f' r', x.foldl stepW (f, r) = (f', r') ∧ f'.flatten ++ r' = f.flatten ++ r ++ x ∧ (∀ p ∈ f', p.length = 20) ∧ r'.length < 20 := by
  induction x with
  | nil => intro f r hr hf; exact ⟨f, r, rfl, by simp, hf, hr⟩
  | cons c x ih =>
    intro f r hr hf
    have hc : c ∈ WS := hx c (List.mem_cons_self ..)
    have ih := ih fun d hd => hx d (List.mem_cons_of_mem _ hd)
    rw [List.foldl_cons]
    unfold stepW
    rw [if_pos hc]
    by_cases hl : (r ++ [c]).length = 20
    · rw [if_pos hl]
      obtain ⟨f', r', e, h1, h2, h3⟩ := ih (f ++ [r ++ [c]]) [] (by simp) (fun p hp => by
        rcases List.mem_append.mp hp with hp | hp
        · exact hf p hp
        · rw [List.mem_singleton.mp hp]; exact hl)
      exact ⟨f', r', e, by rw [h1]; simp, h2, h3⟩
    · rw [if_neg hl]
      have hl' : (r ++ [c]).length < 20 := by simp at hl ⊢; omega
      obtain ⟨f', r', e, h1, h2, h3⟩ := ih f (r ++ [c]) hl' hf
      exact ⟨f', r', e, by rw [h1]; simp, h2, h3⟩
theorem flat_len {f : List Tx} (h : ∀ p ∈ f, p.length = 20) : f.flatten.length = 20 * f.length := by
  induction f with
  | nil => rfl
  | cons p f ih =>
    rw [List.flatten_cons, List.length_append, List.length_cons, h p (List.mem_cons_self ..), ih fun q hq => h q (List.mem_cons_of_mem _ hq)]
    omega
theorem wordsL_run {x : Tx} (hx : ∀ c ∈ x, c ∈ WS) (h0 : x ≠ []) : ∃ f l, wordsL x = f ++ [l] ∧ (f ++ [l]).flatten = x ∧ (∀ p ∈ f, p.length = 20) ∧ 1 ≤ l.length ∧ l.length ≤ 20 ∧ (f.length + 1) = (x.length + 19) / 20 := by
  obtain ⟨f, r, e, h1, h2, h3⟩ := foldW_run hx [] [] (by simp) (by simp)
  have hlen := congrArg List.length h1
  simp only [List.flatten_nil, List.nil_append, List.length_append, flat_len h2] at hlen
  have hx0 := List.length_pos_iff.mpr h0
  unfold wordsL
  rw [e]
  unfold finW
  by_cases hr : r = []
  · subst hr
    rw [if_pos rfl]
    simp only [List.length_nil, Nat.add_zero] at hlen
    have hf : f ≠ [] := by rintro rfl; simp at hlen; omega
    have ef := (List.dropLast_concat_getLast hf).symm
    refine ⟨f.dropLast, f.getLast hf, ef, by rw [← ef]; simpa using h1, fun p hp => h2 p ((List.dropLast_sublist f).subset hp), by rw [h2 _ (List.getLast_mem hf)]; decide, by rw [h2 _ (List.getLast_mem hf)]; decide, ?_⟩
    have := List.length_pos_iff.mpr hf
    rw [List.length_dropLast]
    omega
  · rw [if_neg hr]
    have hr0 := List.length_pos_iff.mpr hr
    exact ⟨f, r, rfl, by rw [List.flatten_append]; simpa using h1, h2, hr0, by omega, by omega⟩
theorem strOk_ascii {x : Tx} (h : ∀ c ∈ x, c < 128) : PyData.canLay0 (.str (toS x)) = true := by
  simp only [PyData.canLay0, PyData.strOk, toS]
  simp only [List.all_toArray, List.all_eq_true, decide_eq_true_eq]
  intro c hc
  have := h c hc
  omega
theorem cut_last {α : Type} (f : List α) (l : α) : cutD (f ++ [l]) none (some (-1)) = f := by
  unfold cutD HT.sIx
  simp only [List.length_append, List.length_singleton]
  have : ((-1 : Int) + ((f.length + 1 : Nat) : Int)).toNat = f.length := by omega
  rw [if_pos (by decide), this]
  simp
theorem atI_last {α : Type} (f : List α) (l : α) : L2.atI (f ++ [l]) (-1) = some l := by
  unfold L2.atI ixN
  have h1 : ¬ (0 : Int) ≤ -1 := by decide
  have h2 : -(((f ++ [l]).length : Nat) : Int) ≤ -1 := by simp; omega
  rw [if_neg h1, if_pos h2]
  have : (-1 + (((f ++ [l]).length : Nat) : Int)).toNat = f.length := by simp; omega
  rw [this]
  simp
end FL
namespace FL
open PySem L2
theorem Sh.mono {d n e m : Nat} {x : D} (h : Sh d n x) (h1 : d ≤ e) (h2 : n ≤ m) : Sh e m x :=
  let ⟨q, a, b, c, l, g, k⟩ := h
  ⟨q, a, b, c, l, Nat.le_trans g h1, Nat.le_trans k h2⟩
theorem Sh.same {d n : Nat} {x : D} (neg : Bool) (h : Sh d n x) (h1 : d ≤ 64) (h2 : eqS x x = none) : gEq neg x x = some (tb (true != neg)) := by
  obtain ⟨q, a, b, c, l, g, k⟩ := h
  have s : SeqAt.shaped q = true := by
    unfold SeqAt.shaped
    rw [l, decide_eq_true (show q.depth ≤ 64 by omega)]
    rfl
  simp [gEq, h2, eqP, a, s, SeqAt.eqv_refl q l]
end FL
namespace FL
open PySem PySem.Spec PyProof.Rows L2
section
variable {X : Cx} {W : WX} {k : Nat} {N : List Str} {sc : Scope} {x : Str} {pos : Pos}
def TupS (K : PySem.W.Frag) (mg : Str → Option Value) (x : Str) (xs : List Tx) : Prop :=
  ∃ (a : Addr) (o : Obj) (its : List Value) (n : Nat), mg x = some (.ref a) ∧ K.lookup a = some o ∧ o.cls = .type "tuple" ∧ o.data = .seq its.toArray n ∧ StrsAre its (xs.map toS) ∧ xs.length ≤ sizeLine
theorem vals_tx : ∀ {its : List Value} {xs : List Tx}, StrsAre its (xs.map toS) → Vals ((xs.map toS).map V.str) its
  | [], [], _ => .nil
  | _ :: _, x :: xs, h => by
    cases h with
    | cons y t r => exact .cons ⟨t, rfl⟩ (vals_tx r)
  | [], _ :: _, h => by cases h
  | _ :: _, [], h => by cases h
theorem Cs.gTupS {xs : List Tx} (C : Cs X W k N sc) (h : glC sc x = true) (hm : TupS X.K X.mg x xs) : JE X W (.Name x pos) (mD (.tup (xs.map .str))) := by
  obtain ⟨g1, g2, g3⟩ := C.gl h
  obtain ⟨a, o, its, n, e1, e2, e3, e4, e5, e6⟩ := hm
  refine je_mod g1 e1 (v := .ref a) rfl (fun F ρ => .tup (vs := (xs.map toS).map V.str) (.inr ⟨o, its.toArray, n, e2, e3, e4, ?_, by simpa using vals_tx e5⟩) (RepL.ofStrs _)) g2
  have l := (vals_tx e5).length
  rw [List.length_map, List.length_map] at l
  rw [List.size_toArray, ← l]
  exact e6
end
end FL
namespace FL
open PySem PySem.Spec PyProof.Rows L2
section
variable {K : PySem.W.Frag} {c f s : Str}
theorem tFld_ok (h : tFld c f K = true) : Cls K (He.ga K c) ∧ NoAttr K (He.ga K c) f :=
  let ⟨a, b⟩ := Bool.and_eq_true_iff.mp h
  ⟨He.cls_ok a, He.noat_ok b⟩
theorem tCon_ok (h : tCon c f s K = true) : Cls K (He.ga K c) ∧ ∃ u, Con K (He.ga K c) f (.str s) u := by
  obtain ⟨a, b⟩ := Bool.and_eq_true_iff.mp h
  refine ⟨He.cls_ok a, ?_⟩
  split at b
  · rename_i y t e
    obtain ⟨b1, b2⟩ := Bool.and_eq_true_iff.mp b
    obtain ⟨b2, b3⟩ := Bool.and_eq_true_iff.mp b2
    have b1 := of_decide_eq_true b1
    subst b1
    exact ⟨_, e, ⟨t, rfl⟩, of_decide_eq_true b2, by simpa using b3⟩
  · cases b
theorem tPrp_ok (h : tPrp c f K = true) : Cls K (He.ga K c) ∧ PropOf K (He.ga K c) f (He.ma K (He.ga K c) f) (fAdF K (c, some f)) := by
  obtain ⟨a, b⟩ := Bool.and_eq_true_iff.mp h
  obtain ⟨b1, b⟩ := Bool.and_eq_true_iff.mp b
  obtain ⟨b2, b⟩ := Bool.and_eq_true_iff.mp b
  obtain ⟨b3, b⟩ := Bool.and_eq_true_iff.mp b
  refine ⟨He.cls_ok a, of_decide_eq_true b1, of_decide_eq_true b2, of_decide_eq_true b3, ?_⟩
  split at b
  · rename_i g r e
    refine ⟨r, ?_⟩
    rw [e]
    have : fAdF K (c, some f) = g := by
      unfold fAdF
      rw [show He.fAd K (c, some f) = He.ma K (He.ga K c) f from rfl, e]
    rw [this]
  · cases b
theorem tInit_ok (h : tInit c f K = true) : fAdF K (c, some f) = He.ma K (He.ga K c) f := of_decide_eq_true h
theorem strsB_ok : ∀ {vs : List Value} {xs : List Str}, strsB vs xs = true → StrsAre vs xs
  | [], [], _ => .nil
  | .str y t :: vs, x :: xs, h => by
    obtain ⟨a, b⟩ := Bool.and_eq_true_iff.mp (show (decide (y = x) && strsB vs xs) = true from h)
    have a := of_decide_eq_true a
    subst a
    exact .cons y t (strsB_ok b)
  | [], _ :: _, h => by cases h
  | v :: _, [], h => by cases v <;> cases h
theorem tTup_ok {h : Heap} {mg : Str → Option Value} {x : Str} {xs : List Tx} (X : K.In h) (G : h.Ns mainGlobals mg) (t : tTup x (xs.map toS) K = true) : TupS K mg x xs := by
  unfold tTup at t
  split at t
  · rename_i a e
    split at t
    · rename_i T od its n sl lk
      obtain ⟨t1, t2⟩ := Bool.and_eq_true_iff.mp t
      obtain ⟨t2, t3⟩ := Bool.and_eq_true_iff.mp t2
      have t1 := of_decide_eq_true t1
      subst t1
      refine ⟨a, _, its.toList, n, PySem.W.mg_of X G e, lk, rfl, rfl, strsB_ok t2, ?_⟩
      have t3 := of_decide_eq_true t3
      rw [List.length_map] at t3
      rw [line_eq]
      omega
    · cases t
  · cases t
theorem tSup_ok {D B : Str} (t : tSup c D B f K = true) : ∃ cdC og, PySem.W.clsIn K (He.ga K c) = some cdC ∧ PySem.W.alongIn K f ((cdC.mro.dropWhile (· != .ref (He.ga K D))).drop 1) = some (some (.ref (fAdF K (B, some f)))) ∧ K.lookup (fAdF K (B, some f)) = some og ∧ og.cls = .type "function" ∧
    PySem.W.fnIn K (fAdF K (B, some f)) = true ∧ PySem.W.mroIn K (He.ga K c) (.ref (He.ga K D)) = some true := by
  obtain ⟨t1, t2⟩ := Bool.and_eq_true_iff.mp t
  obtain ⟨t2, t3⟩ := Bool.and_eq_true_iff.mp t2
  obtain ⟨t3, t4⟩ := Bool.and_eq_true_iff.mp t3
  split at t1
  · rename_i cd e1
    split at t2
    · rename_i T od dt sl e2
      have t2 := of_decide_eq_true t2
      subst t2
      exact ⟨cd, _, e1, of_decide_eq_true t1, e2, rfl, t3, of_decide_eq_true t4⟩
    · cases t2
  · cases t1
end
end FL
namespace FL
open PySem L2
section
variable {α β : Type} {a : α} {δ : FL.Loc} {μ : Mem} {x : Exc} {s : FL.Slot}
@[simp] theorem ev_l1 {k : MS} : (OutS.nx δ μ).loop k = k δ μ := rfl
@[simp] theorem ev_l2 {k : MS} : (OutS.ct δ μ).loop k = k δ μ := rfl
@[simp] theorem ev_l3 {k : MS} : (OutS.bk δ μ).loop k = .nx δ μ := rfl
@[simp] theorem ev_l4 {k : MS} : (OutS.rt s μ).loop k = .rt s μ := rfl
@[simp] theorem ev_l5 {k : MS} : (OutS.exc x δ μ).loop k = .exc x δ μ := rfl
@[simp] theorem ev_f1 : (OutS.nx δ μ).fin = .ok (.fr .non) μ := rfl
@[simp] theorem ev_f2 : (OutS.rt s μ).fin = .ok s μ := rfl
@[simp] theorem ev_f3 : (OutS.exc x δ μ).fin = .exc x μ := rfl
end
noncomputable def r1K (j : Int) (δ : FL.Loc) (μ : Mem) : Out (List D) := Classical.choose (sealed (if -(2 ^ 62) ≤ j ∧ j < 2 ^ 62 then Out.ok (rangeD 0 j.toNat) δ μ else .bad))
theorem r1K_eq {j : Int} {δ : FL.Loc} {μ : Mem} : r1K j δ μ = if -(2 ^ 62) ≤ j ∧ j < 2 ^ 62 then .ok (rangeD 0 j.toNat) δ μ else .bad := Classical.choose_spec (sealed _)
@[simp] theorem r1K_ok {j : Int} {δ : FL.Loc} {μ : Mem} (h1 : -1000000000 ≤ j) (h2 : j ≤ 1000000000) : r1K j δ μ = .ok (rangeD 0 j.toNat) δ μ := by rw [r1K_eq]; exact if_pos ⟨by omega, by omega⟩
section
variable {δ : FL.Loc} {μ : Mem} {m n : ME} {t u : MT} {p q : MS} {o oa ob oc : Opn} {os : List Opn} {ms : List ME} {d : D} {ds dds : List D} {i j k : Nat} {f : TgF} {g : D → D → Option FL.Slot}
@[simp] theorem ev_ats0 : OR.ats δ μ [] = some [] := rfl
@[simp] theorem ev_ats1 {r : OR} {rs : List OR} : OR.ats δ μ (r :: rs) = (match r.at δ μ, OR.ats δ μ rs with | some x, some xs => some (x :: xs) | _, _ => none) := rfl
@[simp] theorem ev_evs0 : evs [] δ μ = .ok [] δ μ := rfl
@[simp] theorem ev_evs1 : evs (o :: os) δ μ = (o.ev δ μ).bind fun r δ1 μ1 => (evs os δ1 μ1).bind fun rs δ2 μ2 => .ok (r :: rs) δ2 μ2 := rfl
@[simp] theorem ev_evA0 : evA [] δ μ = .ok [] δ μ := rfl
@[simp] theorem ev_evA1 : evA (m :: ms) δ μ = (m δ μ).bind fun s δ1 μ1 => (evA ms δ1 μ1).bind fun ds δ2 μ2 => .ok (s.d :: ds) δ2 μ2 := rfl
@[simp] theorem ev_lift1 {s : FL.Slot} : lift (some s) δ μ = .ok s δ μ := rfl
@[simp] theorem ev_Mv : mMv i δ μ = (match δ[i]? with | some (some s) => .ok s (δ.set i none) μ | _ => .bad) := rfl
@[simp] theorem ev_2 : m2 g oa ob δ μ = (oa.ev δ μ).bind fun ra δ1 μ1 => (ob.ev δ1 μ1).bind fun rb δ2 μ2 => match ra.at δ2 μ2, rb.at δ2 μ2 with | some da, some db => lift (g da db) δ2 μ2 | _, _ => .bad := rfl
@[simp] theorem ev_Tb : mTb m δ μ = (m δ μ).bind fun s δ1 μ1 => match s with | .fr (.bl b) => .ok b δ1 μ1 | _ => .bad := rfl
@[simp] theorem ev_Not : mNot t δ μ = (t δ μ).bind fun b δ1 μ1 => .ok (!b) δ1 μ1 := rfl
@[simp] theorem ev_And : mAnd t u δ μ = (t δ μ).bind fun b δ1 μ1 => if b = true then u δ1 μ1 else .ok false δ1 μ1 := rfl
@[simp] theorem ev_Or : mOr t u δ μ = (t δ μ).bind fun b δ1 μ1 => if b = true then .ok true δ1 μ1 else u δ1 μ1 := rfl
@[simp] theorem ev_If : mIf t m n δ μ = (t δ μ).bind fun b δ1 μ1 => if b = true then m δ1 μ1 else n δ1 μ1 := rfl
@[simp] theorem ev_AndV : mAndV m n δ μ = (m δ μ).bind fun s δ1 μ1 => match s with | .fr (.bl true) => n δ1 μ1 | .fr (.bl false) => .ok (.fr (.bl false)) δ1 μ1 | _ => .bad := rfl
@[simp] theorem ev_OrV : mOrV m n δ μ = (m δ μ).bind fun s δ1 μ1 => match s with | .fr (.bl false) => n δ1 μ1 | .fr (.bl true) => .ok (.fr (.bl true)) δ1 μ1 | _ => .bad := rfl
@[simp] theorem ev_Tup : mTup ms δ μ = (evA ms δ μ).bind fun ds δ1 μ1 => if ds.length ≤ 16777216 then .ok (.fr (.tup ds)) δ1 μ1 else .bad := rfl
@[simp] theorem ev_Lst : mLst ms δ μ = (evA ms δ μ).bind fun ds δ1 μ1 => if ds.length ≤ 16777216 then .ok (.own (.lst ds)) δ1 μ1 else .bad := rfl
@[simp] theorem ev_Share : mShare m δ μ = (m δ μ).bind fun s δ1 μ1 => match s with | .own o => .ok (.fr (.obj μ1.length)) δ1 (μ1 ++ [o]) | _ => .bad := rfl
@[simp] theorem ev_C {g : List D → Option FL.Slot} : mC g os δ μ = (evs os δ μ).bind fun rs δ1 μ1 => match OR.ats δ1 μ1 rs with | some ds => lift (g ds) δ1 μ1 | none => .bad := rfl
@[simp] theorem ev_M {T : String} {g : D → List D → Option FL.Slot} : mM T g o os δ μ = (o.ev δ μ).bind fun r δ1 μ1 => match r.at δ1 μ1 with | some d0 => if isTy T d0 = true then (evs os δ1 μ1).bind fun rs δ2 μ2 => match r.at δ2 μ2, OR.ats δ2 μ2 rs with | some d, some ds => lift (g d ds) δ2 μ2 | _, _ => .bad else .bad | none => .bad := rfl
@[simp] theorem ev_Pass : mPass δ μ = .nx δ μ := rfl
@[simp] theorem ev_Seq : mSeq p q δ μ = (p δ μ).seq q := rfl
@[simp] theorem ev_Ex : mEx m δ μ = (m δ μ).thn fun _ δ1 μ1 => .nx δ1 μ1 := rfl
@[simp] theorem ev_Ret : mRet m δ μ = (m δ μ).thn fun s _ μ1 => .rt s μ1 := rfl
@[simp] theorem ev_IfS : mIfS t p q δ μ = (t δ μ).thn fun b δ1 μ1 => if b = true then p δ1 μ1 else q δ1 μ1 := rfl
@[simp] theorem ev_NoP : mNoP δ μ = .ok none δ μ := rfl
@[simp] theorem ev_P : mP m δ μ = (m δ μ).bind fun s δ1 μ1 => match s with | .fr (.int i) => .ok (some i) δ1 μ1 | _ => .bad := rfl
@[simp] theorem ev_Sl {g : D → Option Int → Option Int → Option FL.Slot} {lo hi : MM (Option Int)} : mSl g o lo hi δ μ = (o.ev δ μ).bind fun r δ1 μ1 => (lo δ1 μ1).bind fun l δ2 μ2 => (hi δ2 μ2).bind fun h δ3 μ3 => match r.at δ3 μ3 with | some d => lift (g d l h) δ3 μ3 | none => .bad := rfl
@[simp] theorem ev_Mut {T : String} {g : Own → List D → Option (D × Own)} : mMut T g o ms δ μ = (o.ev δ μ).bind fun r δ1 μ1 => match recv δ1 μ1 r with | some (c0, _) => if ownTy T c0 = true then (evA ms δ1 μ1).bind fun ds δ2 μ2 => (match recv δ2 μ2 r with | some (c, w) => (match g c ds with | some (d, c') => .ok (.fr d) (w c').1 (w c').2 | none => .bad) | none => .bad) else .bad | none => .bad := rfl
@[simp] theorem ev_SetI {g : Own → D → D → Option Own} : mSetI g oa ob m δ μ = (m δ μ).thn fun s δ1 μ1 => (oa.ev δ1 μ1).thn fun r δ2 μ2 => (ob.ev δ2 μ2).thn fun ri δ3 μ3 => match recv δ3 μ3 r, ri.at δ3 μ3 with | some (c, w), some di => (match g c di s.d with | some c' => .nx (w c').1 (w c').2 | none => .bad) | _, _ => .bad := rfl
@[simp] theorem ev_Fn {b : MS} : mFn i b ds μ = (b (startD i ds) μ).fin := mFn_eq
@[simp] theorem ev_Call {h : MF} : mCall h ms dds δ μ = (evA ms δ μ).bind fun ds δ1 μ1 => match h (ds ++ dds) μ1 with | .ok s μ2 => .ok s δ1 μ2 | .exc x μ2 => .exc x δ1 μ2 | .bad => .bad := rfl
@[simp] theorem ev_Neg : mNeg m δ μ = (m δ μ).bind fun s δ1 μ1 => match s with | .fr (.int i) => .ok (.fr (.int (-i))) δ1 μ1 | _ => .bad := rfl
@[simp] theorem ev_Raise {c a : String} : mRaise c a m δ μ = (m δ μ).thn fun s δ1 μ1 => .exc ⟨c, a, s.d⟩ δ1 μ1 := rfl
@[simp] theorem ev_Par : mPar i j m n δ μ = (m δ μ).thn fun s δ1 μ1 => (n δ1 μ1).thn fun s' δ2 μ2 => .nx ((δ2.set i (some s)).set j (some s')) μ2 := rfl
@[simp] theorem ev_It : mIt m δ μ = (m δ μ).bind fun s δ1 μ1 => match itA s.d with | some ds => .ok ds δ1 μ1 | none => .bad := rfl
@[simp] theorem ev_R1 : mRange1 o δ μ = (evs [o] δ μ).bind fun rs δ1 μ1 => match OR.ats δ1 μ1 rs with | some [.int j] => r1K j δ1 μ1 | _ => .bad := by
  simp only [r1K_eq]; rfl
@[simp] theorem ev_For {mi : MM (List D)} : mFor mi f p δ μ = (mi δ μ).thn fun ds δ1 μ1 => forD (turnD f p) ds δ1 μ1 := rfl
@[simp] theorem ev_turn : turnD f p d δ μ = (match f d δ with | some δ' => p δ' μ | none => .bad) := rfl
@[simp] theorem ev_yes : mYes δ μ = .ok true δ μ := rfl
@[simp] theorem ev_rc1 {d : D} : recv δ μ (.d d) = (match d with | .obj k => (match μ[k]? with | some c => some (c, fun c' => (δ, μ.set k c')) | none => none) | _ => none) := by cases d <;> rfl
@[simp] theorem ev_rc2 : recv δ μ (.i j) = (match δ[j]? with
    | some (some (.own c)) => some (c, fun c' => (δ.set j (some (.own c')), μ))
    | some (some (.fr (.obj k))) => (match μ[k]? with
      | some c => some (c, fun c' => (δ, μ.set k c'))
      | none => none)
    | _ => none) := by
  cases h : δ[j]? with
  | none => simp [recv, h]
  | some o =>
    cases o with
    | none => simp [recv, h]
    | some s =>
      cases s with
      | own c => simp [recv, h]
      | fr d =>
        cases d <;> first
          | (simp [recv, h]; done)
          | (rename_i k; cases hh : μ[k]? <;> simp [recv, h, hh])
@[simp] theorem ev_ot1 {T : String} {xs : List D} : ownTy T (.lst xs) = (T == "list") := rfl
@[simp] theorem ev_ot2 {T : String} {ks : List DK} {xs : List D} : ownTy T (.dct ks xs) = (T == "dict") := rfl
@[simp] theorem ev_it1 {T : String} {x : Tx} : isTy T (.str x) = (T == "str") := rfl
@[simp] theorem ev_it2 {T : String} {xs : List D} : isTy T (.lst xs) = (T == "list") := rfl
@[simp] theorem ev_ia1 {xs : List D} : itA (.lst xs) = some xs := rfl
@[simp] theorem ev_ia2 {xs : List D} : itA (.tup xs) = some xs := rfl
@[simp] theorem ev_ia3 {x : Tx} : itA (.str x) = some (chars x) := rfl
@[simp] theorem ev_iarc {xs : List D} : itA (.rc xs) = some xs := rfl
@[simp] theorem ev_ia4 {xs : List D} : itA (.ro xs) = some xs := rfl
@[simp] theorem ev_for0 {g : D → MS} : forD g [] δ μ = .nx δ μ := rfl
end
section
variable {i j : Int} {x y : Tx} {b c : Bool} {xs ys : List D}
@[simp] theorem ev_addI : gAdd (.int i) (.int j) = some (.fr (.int (i + j))) := rfl
@[simp] theorem ev_addS : gAdd (.str x) (.str y) = if x.length + y.length ≤ 16777216 then some (.fr (.str (x ++ y))) else none := by
  by_cases h : x.length + y.length ≤ 16777216 <;> simp [gAdd, gInt, gAddS, gAddL, gAddT, h]
@[simp] theorem ev_addL : gAdd (.lst xs) (.lst ys) = if xs.length + ys.length ≤ 16777216 then some (.own (.lst (xs ++ ys))) else none := by
  by_cases h : xs.length + ys.length ≤ 16777216 <;> simp [gAdd, gInt, gAddS, gAddL, gAddT, h]
@[simp] theorem ev_subI : gSub (.int i) (.int j) = some (.fr (.int (i - j))) := rfl
@[simp] theorem ev_ltI : gLt (.int i) (.int j) = some (.fr (.bl (decide (i < j)))) := rfl
@[simp] theorem ev_leI : gLe (.int i) (.int j) = some (.fr (.bl (decide (i ≤ j)))) := rfl
@[simp] theorem ev_gtI : gGt (.int i) (.int j) = some (.fr (.bl (decide (j < i)))) := rfl
@[simp] theorem ev_geI : gGe (.int i) (.int j) = some (.fr (.bl (decide (j ≤ i)))) := rfl
@[simp] theorem ev_eqI {n : Bool} : gEq n (.int i) (.int j) = some (.fr (.bl (decide (i = j) != n))) := rfl
@[simp] theorem ev_eqS {n : Bool} : gEq n (.str x) (.str y) = some (.fr (.bl (decide (x = y) != n))) := rfl
@[simp] theorem ev_eqB {n : Bool} : gEq n (.bl b) (.bl c) = some (.fr (.bl (decide (b = c) != n))) := rfl
@[simp] theorem ev_eqNN {n : Bool} : gEq n .non .non = some (.fr (.bl (true != n))) := rfl
@[simp] theorem ev_eqNI {n : Bool} : gEq n .non (.int i) = some (.fr (.bl (false != n))) := rfl
@[simp] theorem ev_eqIN {n : Bool} : gEq n (.int i) .non = some (.fr (.bl (false != n))) := rfl
@[simp] theorem ev_eqNS {n : Bool} : gEq n .non (.str x) = some (.fr (.bl (false != n))) := rfl
@[simp] theorem ev_eqSN {n : Bool} : gEq n (.str x) .non = some (.fr (.bl (false != n))) := rfl
@[simp] theorem ev_lenS : gLen [.str x] = if x.length ≤ 16777216 then some (.fr (.int x.length)) else none := rfl
@[simp] theorem ev_lenL : gLen [.lst xs] = some (.fr (.int xs.length)) := rfl
@[simp] theorem ev_lenT : gLen [.tup xs] = some (.fr (.int xs.length)) := rfl
@[simp] theorem ev_lenrc {xs : List D} : gLen [.rc xs] = some (.fr (.int xs.length)) := rfl
@[simp] theorem ev_ixrc {xs : List D} {i : Int} : gIxL (.rc xs) (.int i) = (L2.atI xs i).map .fr := rfl
@[simp] theorem ev_lenR : gLen [.ro xs] = some (.fr (.int xs.length)) := rfl
@[simp] theorem ev_ixL : gIxL (.lst xs) (.int i) = (L2.atI xs i).map .fr := rfl
@[simp] theorem ev_ixT : gIxL (.tup xs) (.int i) = (L2.atI xs i).map .fr := rfl
@[simp] theorem ev_ixR : gIxL (.ro xs) (.int i) = (L2.atI xs i).map .fr := rfl
@[simp] theorem ev_ixS : gIxL (.str x) (.int i) = if x.length ≤ 16777216 then (L2.atI x i).map fun c => .fr (.str [c]) else none := rfl
@[simp] theorem ev_inS {n : Bool} {c : Nat} : gIn n (.str [c]) (.str x) = some (.fr (.bl (decide (c ∈ x) != n))) := rfl
@[simp] theorem ev_isN1 {n : Bool} : gIsN n .non .non = some (.fr (.bl (true != n))) := rfl
@[simp] theorem ev_isN2 {n : Bool} : gIsN n (.int i) .non = some (.fr (.bl (false != n))) := rfl
@[simp] theorem ev_isN3 {n : Bool} : gIsN n (.str x) .non = some (.fr (.bl (false != n))) := rfl
@[simp] theorem ev_isN4 {n : Bool} : gIsN n (.tup xs) .non = some (.fr (.bl (false != n))) := rfl
@[simp] theorem ev_isN5 {n : Bool} : gIsN n (.lst xs) .non = some (.fr (.bl (false != n))) := rfl
@[simp] theorem ev_isN6 {n : Bool} {c a : String} {d : D} : gIsN n (.exn c a d) .non = some (.fr (.bl (false != n))) := rfl
@[simp] theorem ev_isN7 {n : Bool} : gIsN n (.bl b) .non = some (.fr (.bl (false != n))) := rfl
@[simp] theorem ev_app {d : D} : gAppend (.lst xs) [d] = if xs.length < 16777216 then some (.non, .lst (xs ++ [d])) else none := by
  by_cases h : xs.length < 16777216 <;> simp [gAppend, h]
@[simp] theorem ev_slS {lo hi : Option Int} : gSl (.str x) lo hi = if x.length ≤ 16777216 then some (.fr (.str (cutD x lo hi))) else none := by
  by_cases h : x.length ≤ 16777216 <;> simp [gSl, h]
@[simp] theorem ev_slL {lo hi : Option Int} : gSl (.lst xs) lo hi = some (.own (.lst (cutD xs lo hi))) := rfl
@[simp] theorem ev_slR {lo hi : Option Int} : gSl (.ro xs) lo hi = some (.own (.lst (cutD xs lo hi))) := rfl
@[simp] theorem ev_slT {lo hi : Option Int} : gSl (.tup xs) lo hi = some (.fr (.tup (cutD xs lo hi))) := rfl
@[simp] theorem ev_max2 : gMax2 [.int i, .int j] = some (.fr (.int (if j > i then j else i))) := rfl
@[simp] theorem ev_min2 : gMin2 [.int i, .int j] = some (.fr (.int (if j < i then j else i))) := rfl
end
def Nx (r : OutS) (P : FL.Loc → Mem → Prop) : Prop := ∃ δ μ, r = .nx δ μ ∧ P δ μ
def Ok {α : Type} (r : Out α) (P : α → FL.Loc → Mem → Prop) : Prop := ∃ a δ μ, r = .ok a δ μ ∧ P a δ μ
@[simp] theorem Nx_nx {δ : FL.Loc} {μ : Mem} {P : FL.Loc → Mem → Prop} : Nx (.nx δ μ) P ↔ P δ μ :=
  ⟨fun ⟨_, _, e, p⟩ => by cases e; exact p, fun p => ⟨_, _, rfl, p⟩⟩
@[simp] theorem Ok_ok {α : Type} {a : α} {δ : FL.Loc} {μ : Mem} {P : α → FL.Loc → Mem → Prop} : Ok (.ok a δ μ) P ↔ P a δ μ :=
  ⟨fun ⟨_, _, _, e, p⟩ => by cases e; exact p, fun p => ⟨_, _, _, rfl, p⟩⟩
theorem Nx.imp {r : OutS} {P P' : FL.Loc → Mem → Prop} (h : Nx r P) (i : ∀ δ μ, P δ μ → P' δ μ) : Nx r P' := let ⟨δ, μ, e, p⟩ := h; ⟨δ, μ, e, i δ μ p⟩
section
variable {δ : FL.Loc} {μ : Mem} {m : ME}
@[simp] theorem ev_Dct0 : mDct0 δ μ = .ok (.own (.dct [] [])) δ μ := rfl
end
theorem forNx_at {g : D → MS} (I : Nat → FL.Loc → Mem → Prop) : ∀ (ds : List D) (n : Nat) (δ : FL.Loc) (μ : Mem), I n δ μ → (∀ (i : Nat) (d : D) (δ : FL.Loc) (μ : Mem), ds[i]? = some d → I (n + i) δ μ → Nx (g d δ μ) (I (n + i + 1))) → Nx (forD g ds δ μ) (I (n + ds.length))
  | [], n, δ, μ, h0, _ => ⟨δ, μ, rfl, h0⟩
  | d :: ds, n, δ, μ, h0, hs => by
    obtain ⟨δ1, μ1, e, h1⟩ := hs 0 d δ μ rfl h0
    have := forNx_at I ds (n + 1) δ1 μ1 h1 fun i d δ μ hd hi => by
      have := hs (i + 1) d δ μ hd (by rw [show n + (i + 1) = n + 1 + i by omega]; exact hi)
      rw [show n + (i + 1) + 1 = n + 1 + i + 1 by omega] at this
      exact this
    rw [show n + 1 + ds.length = n + (d :: ds).length by rw [List.length_cons]; omega] at this
    show Nx ((g d δ μ).loop (forD g ds)) _
    rw [e]
    exact this
theorem forNx {g : D → MS} (I : Nat → FL.Loc → Mem → Prop) {ds : List D} {δ : FL.Loc} {μ : Mem} (h0 : I 0 δ μ) (hs : ∀ (i : Nat) (d : D) (δ : FL.Loc) (μ : Mem), ds[i]? = some d → I i δ μ → Nx (g d δ μ) (I (i + 1))) : Nx (forD g ds δ μ) (I ds.length) := by
  have := forNx_at I ds 0 δ μ h0 fun i d δ μ hd hi => by
    rw [Nat.zero_add] at hi ⊢
    exact hs i d δ μ hd hi
  rwa [Nat.zero_add] at this
theorem range_at {n i : Nat} {d : D} (h : (rangeD 0 n)[i]? = some d) : d = .int (i : Nat) ∧ i < n := by
  unfold rangeD at h
  rw [List.getElem?_map] at h
  by_cases hi : i < n
  · rw [List.getElem?_range hi] at h
    cases h
    exact ⟨by simp, hi⟩
  · rw [List.getElem?_eq_none (by simp; omega)] at h
    cases h
def lc1 (f : TgF) (t : MT) (m : ME) (vs : List Nat) (d : D) (δ : FL.Loc) (μ : Mem) : Out (Option D) := match f d δ with
  | none => .bad
  | some δ' => (t δ' μ).cut.bind fun b δ2 μ2 => if b = true then (m δ2 μ2).cut.bind fun s δ3 μ3 => .ok (some s.d) (wipeD δ3 vs) μ3 else .ok none (wipeD δ2 vs) μ2
theorem lcD_one {f : TgF} {t : MT} {m : ME} {vs : List Nat} {d : D} {ds acc : List D} {δ : FL.Loc} {μ : Mem} : lcD f t m vs (d :: ds) acc δ μ = (lc1 f t m vs d δ μ).bind fun o δ1 μ1 => match o with
    | some e => if acc.length < 16777216 then lcD f t m vs ds (acc ++ [e]) δ1 μ1 else .bad
    | none => lcD f t m vs ds acc δ1 μ1 := by
  rw [lcD_cons]
  unfold lc1
  cases f d δ with
  | none => rfl
  | some δ' =>
    cases h : (t δ' μ).cut with
    | bad => simp only [h]; rfl
    | exc x δ2 μ2 => simp only [h]; rfl
    | ok b δ2 μ2 =>
      simp only [h, ev_b1]
      cases b with
      | false => rfl
      | true =>
        simp only [if_true]
        cases h2 : (m δ2 μ2).cut with
        | bad => rfl
        | exc x δ3 μ3 => rfl
        | ok s δ3 μ3 => rfl
theorem lcD_pure {f : TgF} {t : MT} {m : ME} {vs : List Nat} {δ : FL.Loc} {μ : Mem} (F : D → Option D) : ∀ {ds acc : List D}, (∀ d ∈ ds, lc1 f t m vs d δ μ = .ok (F d) δ μ) → acc.length + ds.length < 16777216 →
    lcD f t m vs ds acc δ μ = .ok (.own (.lst (acc ++ ds.filterMap F))) δ μ
  | [], acc, _, _ => by simp
  | d :: ds, acc, h, hl => by
    rw [List.length_cons] at hl
    rw [lcD_one, h d (List.mem_cons_self ..), ev_b1]
    cases e : F d with
    | none =>
      simp only []
      rw [lcD_pure F (fun d hd => h d (List.mem_cons_of_mem _ hd)) (by omega)]
      simp [e]
    | some x =>
      simp only [show acc.length < 16777216 by omega, if_true]
      rw [lcD_pure F (fun d hd => h d (List.mem_cons_of_mem _ hd)) (by rw [List.length_append, List.length_singleton]; omega)]
      simp [e]
section
variable {δ : FL.Loc} {μ : Mem} {m : ME} {f : TgF} {h : TgsF} {d : D} {ds xs : List D} {n : Nat} {g g' : D → D → Option FL.Slot} {oa ob oc : Opn}
@[simp] theorem ev_tgT : tgT n h (.tup ds) δ = if ds.length = n then h ds δ else none := rfl
@[simp] theorem ev_tgC : tgC f h (d :: ds) δ = (match f d δ with | some δ' => h ds δ' | none => none) := rfl
@[simp] theorem ev_tgN : tgN [] δ = some δ := rfl
@[simp] theorem ev_tupL : gTuple [.lst xs] = some (.fr (.tup xs)) := rfl
@[simp] theorem ev_tupT : gTuple [.tup xs] = some (.fr (.tup xs)) := rfl
@[simp] theorem ev_Chain : mChain g g' oa ob oc δ μ = (oa.ev δ μ).bind fun ra δ1 μ1 => (ob.ev δ1 μ1).bind fun rb δ2 μ2 => match ra.at δ2 μ2, rb.at δ2 μ2 with
  | some da, some db => (match g da db with
    | some (.fr (.bl true)) => (oc.ev δ2 μ2).bind fun rc δ3 μ3 => (match rb.at δ3 μ3, rc.at δ3 μ3 with
      | some db', some dc => lift (g' db' dc) δ3 μ3
      | _, _ => .bad)
    | some (.fr (.bl false)) => .ok (.fr (.bl false)) δ2 μ2
    | _ => .bad)
  | _, _ => .bad := rfl
end
end FL
namespace FL.S
noncomputable def b_is_text (δ : FL.Loc) (μ : Mem) : OutS := (mRet (mAndV (mC gIsi [(.v 0), (.e (mD (.ty "str")))]) (m2 gLe (.e (mC gLen [(.v 0)])) (.e (mD (.int 400)))))) δ μ
noncomputable def m_is_text : MF := mFn 1 (b_is_text)
noncomputable def f1_split_words (δ : FL.Loc) (μ : Mem) : OutS := (mSeq (mIfS (mTb (m2 (gIn false) (.v 3) (.e (mD (.str (lit "abcdefghijklmnopqrstuvwxyz0123456789")))))) (mSet 2 (m2 gAdd (.v 2) (.v 3)))
    mPass)
    (mIfS (mAnd (mTb (m2 (gEq true) (.v 2) (.e (mD (.str (lit "")))))) (mOr (mTb (m2 (gIn true) (.v 3) (.e (mD (.str (lit "abcdefghijklmnopqrstuvwxyz0123456789")))))) (mTb (m2 (gEq false) (.e (mC gLen [(.v 2)])) (.e (mD (.int 20))))))) (mSeq (mEx (mMut "list" gAppend (.v 1) [(mV 2)]))
    (mSet 2 (mD (.str (lit "")))))
    mPass)) δ μ
noncomputable def b_split_words (δ : FL.Loc) (μ : Mem) : OutS := (mSeq (mPar 1 2 (mLst []) (mD (.str (lit ""))))
    (mSeq (mFor (mIt (mM "str" gLower (.v 0) [])) (tgV 3) f1_split_words)
    (mRet (mIf (mTb (m2 (gEq true) (.v 2) (.e (mD (.str (lit "")))))) (m2 gAdd (.v 1) (.e (mLst [(mV 2)]))) (mMv 1))))) δ μ
noncomputable def m_split_words : MF := mFn 4 (b_split_words)
end FL.S
namespace FL
open PySem L2
def Asc (x : Tx) : Prop := ∀ c ∈ x, c < 128
theorem Asc.app {x y : Tx} (a : Asc x) (b : Asc y) : Asc (x ++ y) := fun c hc => (List.mem_append.mp hc).elim (a c) (b c)
end FL
namespace FL
open PySem L2
def chunks (x : Tx) : List Tx := (List.range ((x.length + 19) / 20)).map fun i => (x.drop (20 * i)).take 20
theorem chunks_eq {l : Tx} (h1 : 1 ≤ l.length) (h2 : l.length ≤ 20) : ∀ f : List Tx, (∀ p ∈ f, p.length = 20) → chunks (f ++ [l]).flatten = f ++ [l]
  | [], _ => by
    have e : (l.length + 19) / 20 = 1 := by omega
    unfold chunks
    simp [e, List.range_succ, List.take_of_length_le h2]
  | p :: f, h => by
    have hp := h p (List.mem_cons_self ..)
    have ih := chunks_eq h1 h2 f fun q hq => h q (List.mem_cons_of_mem _ hq)
    unfold chunks at ih ⊢
    have hl : ((p :: f ++ [l]).flatten).length = 20 + ((f ++ [l]).flatten).length := by simp [hp]
    rw [hl, show (20 + ((f ++ [l]).flatten).length + 19) / 20 = (((f ++ [l]).flatten).length + 19) / 20 + 1 by omega, List.range_succ_eq_map, List.map_cons, List.map_map]
    have e0 : List.take 20 (List.drop (20 * 0) (p :: f ++ [l]).flatten) = p := by
      simp only [Nat.mul_zero, List.drop_zero, List.cons_append, List.flatten_cons]
      rw [List.take_append_of_le_length (by omega), List.take_of_length_le (by omega)]
    have e1 : List.map ((fun i => List.take 20 (List.drop (20 * i) (p :: f ++ [l]).flatten)) ∘ Nat.succ) (List.range (((f ++ [l]).flatten.length + 19) / 20)) = List.map (fun i => List.take 20 (List.drop (20 * i) (f ++ [l]).flatten)) (List.range (((f ++ [l]).flatten.length + 19) / 20)) := by
      apply List.map_congr_left
      intro i _
      show List.take 20 (List.drop (20 * (i + 1)) (p :: f ++ [l]).flatten) = _
      rw [List.cons_append, List.flatten_cons, show 20 * (i + 1) = p.length + 20 * i by omega, List.drop_append, List.drop_of_length_le (by omega), List.nil_append, Nat.add_sub_cancel_left]
    rw [e0, e1, ih]
    rfl
theorem words_chunks {x : Tx} (hx : ∀ c ∈ x, c ∈ WS) (h0 : x ≠ []) : wordsL x = chunks x := by
  obtain ⟨f, l, e, h1, h2, h3, h4, _⟩ := wordsL_run hx h0
  rw [e, ← h1, chunks_eq h3 h4 f h2]
structure WI (z : Tx) (g : List Tx) (r : Tx) : Prop where
  ex : ∃ pre, z = pre ++ r ∧ (pre = [] ∨ ∃ q c, pre = q ++ [c] ∧ c ∉ WS) ∧ wordsL pre = g.flatMap chunks
  r : ∀ c ∈ r, c ∈ WS
  g : ∀ w ∈ g, w ≠ [] ∧ ∀ c ∈ w, c ∈ WS
theorem pre_app {pre r : Tx} (h : pre = [] ∨ ∃ q c, pre = q ++ [c] ∧ c ∉ WS) : wordsL (pre ++ r) = wordsL pre ++ wordsL r := by
  rcases h with rfl | ⟨q, c, rfl, hc⟩
  · simp [wordsL_nil]
  · have hg : ∀ d ∈ [c], d ∉ WS := fun d hd => by rw [List.mem_singleton.mp hd]; exact hc
    rw [wordsL_gap hg (by simp), wordsL_gap1 hg (by simp)]
theorem WI.fin {z : Tx} {g : List Tx} {r : Tx} (h : WI z g r) : wordsL z = (TL.wfin (g, r)).flatMap chunks := by
  obtain ⟨pre, rfl, h1, h2⟩ := h.ex
  rw [pre_app h1, h2]
  unfold TL.wfin
  by_cases hr : r = []
  · subst hr; simp [wordsL_nil]
  · simp only [hr, if_false]
    rw [List.flatMap_append, words_chunks h.r hr]
    simp
theorem WI.nil : WI [] [] [] := ⟨⟨[], rfl, .inl rfl, rfl⟩, by simp, by simp⟩
end FL
namespace FL
open PySem L2
section
variable {μ : Mem}
theorem isi_str {x : Tx} : gIsi [.str x, .ty "str"] = some (tb true) := by simp [gIsi, tyN, kitB_ss]
theorem split_sp {x : Tx} (ha : ∀ c ∈ x, c < 128) (hl : x.length ≤ 1000) : S.m_split_words [.str x] μ = .ok (.own (.lst ((wordsT x).map .str))) μ := by
  have ha' : x.all (· < 128) = true := List.all_eq_true.mpr fun c hc => decide_eq_true (ha c hc)
  have hl2 : x.length ≤ 5592405 := by omega
  obtain ⟨s', e⟩ := split_loop (t := .str x) (μ := μ) (x.map lo1) ([], []) none (by simp; omega) (by simp; omega)
  have hlen := foldW_len (x.map lo1) ([], [])
  generalize hw : (x.map lo1).foldl stepW ([], []) = w at e hlen
  obtain ⟨f, r⟩ := w
  have hf : f.length + 1 ≤ 16777216 := by simp at hlen; omega
  have gl : gLower (.str x) [] = some (.fr (.str (x.map lo1))) := by simp [gLower, ha', hl2]
  have e0 : (stW (.str x) ([], []) none) = [some (.fr (.str x)), some (.own (.lst [])), some (.fr (.str [])), none] := rfl
  rw [e0] at e
  have hW : wordsT x = finW (f, r) := by unfold wordsT wordsL; rw [hw]
  have e' : forD (turnD (tgV 3) S.f1_split_words) (chars (x.map lo1)) [some (.fr (.str x)), some (.own (.lst [])), some (.fr (.str [])), none] μ = .nx [some (.fr (.str x)), some (.own (.lst (f.map .str))), some (.fr (.str r)), s'] μ := e
  rw [hW]
  by_cases hr : r = []
  · subst hr
    simp [S.m_split_words, S.b_split_words, startD, lit_nil, gl, e', finW]
  · simp [S.m_split_words, S.b_split_words, startD, lit_nil, gl, e', finW, hr, hf]
end
end FL
namespace FL
open PySem L2
def Sz (k : Nat) (q : Rat) : Prop := q.num.natAbs < 2 ^ k ∧ q.den < 2 ^ k
theorem Sz.mono {j k : Nat} {q : Rat} (h : Sz j q) (hl : j ≤ k) : Sz k q :=
  ⟨Nat.lt_of_lt_of_le h.1 (Nat.pow_le_pow_right (by decide) hl), Nat.lt_of_lt_of_le h.2 (Nat.pow_le_pow_right (by decide) hl)⟩
end FL
namespace FL.S
noncomputable def e1_is_made_of (δ : FL.Loc) (μ : Mem) : Out FL.Slot := (m2 (gIn false) (.v 3) (.v 1)) δ μ
noncomputable def b_is_made_of (δ : FL.Loc) (μ : Mem) : OutS := (mRet (mAndV (mC gIsi [(.v 0), (.e (mD (.ty "str")))]) (mAndV (mChain gLe gLe (.e (mD (.int 1))) (.e (mC gLen [(.v 0)])) (.v 2)) (mC gAll [(.e (mLc (mIt (mV 0)) (tgV 3) mYes e1_is_made_of [3]))])))) δ μ
noncomputable def m_is_made_of : MF := mFn 4 (b_is_made_of)
end FL.S
namespace FL
open PySem L2
section
variable {μ : Mem}
theorem all_chars {x s : Tx} {a b c : Option FL.Slot} (hl : x.length < 16777216) : lcD (tgV 3) mYes S.e1_is_made_of [3] (chars x) [] [a, some (.fr (.str s)), c, none] μ = .ok (.own (.lst ((x.map fun c => decide (c ∈ s)).map .bl))) [a, some (.fr (.str s)), c, none] μ := by
  have h := lcD_pure (f := tgV 3) (t := mYes) (m := S.e1_is_made_of) (vs := [3]) (δ := [a, some (.fr (.str s)), c, none]) (μ := μ) (fun d => match d with | .str [c] => some (.bl (decide (c ∈ s))) | _ => none) (ds := chars x) (acc := []) (fun d hd => by
    obtain ⟨c, _, rfl⟩ := List.mem_map.mp hd
    simp [lc1, S.e1_is_made_of]) (by simp [chars]; exact hl)
  rw [h]
  simp [chars, List.filterMap_map, Function.comp_def]
def Made (x s : Tx) (n : Int) : Prop := 1 ≤ x.length ∧ (x.length : Int) ≤ n ∧ ∀ c ∈ x, c ∈ s
instance (x s : Tx) (n : Int) : Decidable (Made x s n) := inferInstanceAs (Decidable (_ ∧ _))
theorem made_str {x s : Tx} {n : Int} (hl : x.length < 16777216) : S.m_is_made_of [.str x, .str s, .int n] μ = .ok (.fr (.bl (decide (Made x s n)))) μ := by
  have h := all_chars (μ := μ) (x := x) (s := s) (a := some (.fr (.str x))) (c := some (.fr (.int n))) (b := none) hl
  have hb := blsD_of (x.map fun c => decide (c ∈ s))
  have hl' : x.length ≤ 16777216 := by omega
  have ga : gAll [.lst ((x.map fun c => decide (c ∈ s)).map .bl)] = some (.fr (.bl (x.all fun c => decide (c ∈ s)))) := by
    simp only [gAll, hb, Option.map_some]
    simp [List.all_map, Function.comp_def]
  by_cases h1 : (1 : Int) ≤ x.length
  · by_cases h2 : (x.length : Int) ≤ n
    · have e : decide (Made x s n) = x.all fun c => decide (c ∈ s) := by
        by_cases h3 : ∀ c ∈ x, c ∈ s
        · rw [decide_eq_true (show Made x s n from ⟨by omega, h2, h3⟩)]
          exact (List.all_eq_true.mpr fun c hc => decide_eq_true (h3 c hc)).symm
        · rw [decide_eq_false (fun z : Made x s n => h3 z.2.2)]
          refine (Bool.eq_false_iff.mpr fun z => h3 fun c hc => ?_).symm
          exact of_decide_eq_true (List.all_eq_true.mp z c hc)
      rw [e]
      generalize List.map D.bl (List.map (fun c => decide (c ∈ s)) x) = L at h ga
      simp [S.m_is_made_of, S.b_is_made_of, startD, isi_str, hl', h1, h2, h, ga]
    · rw [decide_eq_false (fun z : Made x s n => h2 z.2.1)]
      simp [S.m_is_made_of, S.b_is_made_of, startD, isi_str, hl', h1, h2]
  · rw [decide_eq_false (fun z : Made x s n => h1 (by have := z.1; omega))]
    simp [S.m_is_made_of, S.b_is_made_of, startD, isi_str, hl', h1]
abbrev Wd (x : Tx) : Prop := Made x WS 20
end
end FL
namespace FL
open PySem PySem.Spec PyProof.Rows L2
open PySem.Froz (SD sObj TxOk addTx tailTx is_str add_ok add_x)
theorem tail_in (ep : Nat) (es : Array (Int × Value)) (t : SetTable) (b : Bool) : (inD (tailTx ep es t b)).Perm (es.toList.map fun e => strOf e.2) := by
  unfold tailTx
  split
  · exact (relayAll_perm _ _ _).map _
  · exact List.Perm.refl _
theorem tail_ris {ep : Nat} {es : Array (Int × Value)} {t : SetTable} {b : Bool} (r : Ris t.place.toList) : Ris (tailTx ep es t b).2.2.place.toList := by
  unfold tailTx
  split
  · exact relayAll_ris _ _ _
  · exact r
theorem tail_led (ep : Nat) (es : Array (Int × Value)) (t : SetTable) (b : Bool) : (tailTx ep es t b).2.2.led = t.led := by
  unfold tailTx
  split
  · exact relayAll_led _ _ _
  · rfl
theorem inD_add (D : SD) (k : Str) (u : Tok) (h : Int) : (inD (addTx h (.str k u) D)).Perm (k :: inD D) := by
  have hp := (layNew_perm D.2.2 D.1 h (.str k u)).map fun e => strOf e.2
  rw [Array.toList_push, List.map_append] at hp
  exact (tail_in ..).trans (hp.trans (List.perm_append_singleton _ _))
theorem ris_add (D : SD) (h : Int) (v : Value) (r : Ris D.2.2.place.toList) : Ris (addTx h v D).2.2.place.toList := by
  have one := layNew_ris D.2.2 D.1 h v r
  refine tail_ris ?_
  split <;> exact one
theorem led_add (D : SD) (h : Int) (v : Value) : (addTx h v D).2.2.led = D.2.2.led := by
  refine (tail_led ..).trans (Eq.trans ?_ (layNew_led D.2.2 D.1 h v))
  split <;> rfl
def insS (l : List Str) (k : Str) : List Str := if k ∈ l then l else k :: l
theorem insS_len (l : List Str) (k : Str) : (insS l k).length ≤ l.length + 1 := by
  unfold insS
  split
  · exact Nat.le_succ _
  · exact Nat.le_refl _
section
variable {P : Program} {w : World} {A : Around} {E : Value → Shared → Prop} {s : Shared} {a : Addr} {l : List Str} {k : Str} {u : Tok}
theorem add_had {D : SD} {T : String} {Q : Bool → Shared → Prop} (g : s.heap.get? a = some (sObj T D)) (F : TxOk P w D l) (hk : k ∈ l) (hb : l.length < scanBound) (h : Q false s) :
    wpAny (model P w) A (setAddHashed a (.str k u) (hashStr w k)) Q E s := by
  obtain ⟨es, ep, t⟩ := D
  have fit : t.fits es.size = true := F.fit
  have els : ElemsOf (strKind P w) es.toList := F.el
  have data : (sObj T (es, ep, t)).data = .set es ep t := rfl
  have big : es.size < scanBound := by have z : es.size = l.length := F.sz; omega
  unfold setAddHashed setAddHashedIn
  refine wpAny_holding (wpAny_bind (wpAny_setState_of g data fit ?_))
  dsimp only
  rw [byScan_of (x := .str k u) rfl big els]
  simp only [↓reduceIte]
  unfold setAddByScan
  refine wpAny_bind (wpAny_bind (wpAny_rule (wpAny_bind (wpAny_setScan_of (knd := strKind P w) (k := k) (is_str k u) g data fit els ?_))))
  obtain ⟨e, he, q⟩ := (F.mem k).mp hk
  cases fi : List.findIdx? (fun e => (strKind P w).is k e.2) es.toList with
  | none => exact absurd q (by rw [List.findIdx?_eq_none_iff.mp fi e he]; exact Bool.false_ne_true)
  | some j => exact wpAny_pure (wpAny_pure h)
theorem add_any {Q : Bool → Shared → Prop} (R : TxSet P w s.heap a l) (room : l.length + 1 < scanBound)
    (h : ∀ b h', Heap.SameBut a s.heap h' → TxSet P w h' a (insS l k) → Q b { s with heap := h' }) : wpAny (model P w) A (setAddHashed a (.str k u) (hashStr w k)) Q E s := by
  obtain ⟨⟨D, g, F, pm, r, ld⟩, nd, few⟩ := R
  by_cases hk : k ∈ l
  · have e : insS l k = l := if_pos hk
    rw [e] at h
    exact add_had g F hk few (h false s.heap (Heap.SameBut.refl a s.heap) ⟨⟨D, g, F, pm, r, ld⟩, nd, few⟩)
  · have e : insS l k = k :: l := if_neg hk
    rw [e] at h
    refine add_x g F hk room (h true _ (Heap.SameBut.update s.heap a _) ⟨⟨addTx (hashStr w k) (.str k u) D, PySem.Froz.get_upd _ g rfl, add_ok u F, (inD_add D k u _).trans (pm.cons k), ris_add D _ _ r, ?_⟩, List.nodup_cons.mpr ⟨hk, nd⟩, room⟩)
    rw [led_add]
    exact ld
end
section
variable {prog : Program} {w : World} {A : Around} {R : Result → Shared → Prop} {I : Addr} {fp wr : List Addr} {G : Array GenState → Array GenState → Prop} {n : Nat} {P : Nat → Value → Prop} {St : Nat → Shared → Prop}
theorem fold_len : ∀ (ys l : List Str), (ys.foldl insS l).length ≤ l.length + ys.length
  | [], l => Nat.le_refl _
  | y :: ys, l => by
    have a := fold_len ys (insS l y)
    have b := insS_len l y
    rw [List.foldl_cons, List.length_cons]
    omega
theorem upd_loop (W : WalksS prog w A.in1 I fp wr G n P St) {S : Addr} (out : S ∉ fp) {xs : List Str} (hx : xs.length = n) (hv : ∀ i v, P i v → ∃ x t, xs[i]? = some x ∧ v = .str x t) (hb : n + 1 < scanBound) :
    ∀ (m i : Nat) (s : Shared), n - i = m → i ≤ n → St i s → TxSet prog w s.heap S ((xs.take i).foldl insS []) →
      (∀ s', Moved (S :: wr) G s s' → TxSet prog w s'.heap S (xs.foldl insS []) → R (.ok (.ret .none)) s') →
      codeAny (model prog w) A (.builtin "set.update.loop" ⟨[.ref S, .ref I], []⟩) R s := by
  have out' : S ∉ wr := fun z => out (W.sub _ z)
  have more : ∀ b ∈ wr, b ∈ S :: wr := fun b z => List.mem_cons_of_mem _ z
  intro m
  induction m with
  | zero =>
    intro i s hm hi st T fin
    have full : xs.take i = xs := List.take_of_length_le (by omega)
    rw [full] at T
    have last : i = n := by omega
    subst last
    refine codeAny_builtin F.entry_set_update_loop (A := A) ?_
    rw [Around.under_plainId F.plain_set_update_loop _]
    show wpAny _ A.in1 (pyNext (.ref I) >>= _) _ _ s
    exact wpAny_bind (W.done s _ _ st fun s' mv => wpAny_pure (fin s' (mv.mono more) (T.at fun o z => mv.heap S o out' z)))
  | succ m ih =>
    intro i s hm hi st T fin
    have lt : i < n := by omega
    refine codeAny_builtin F.entry_set_update_loop (A := A) ?_
    rw [Around.under_plainId F.plain_set_update_loop _]
    show wpAny _ A.in1 (pyNext (.ref I) >>= _) _ _ s
    refine wpAny_bind (W.item i s _ _ lt st fun v s' hP st' mv => ?_)
    obtain ⟨x, t, hxi, rfl⟩ := hv i v hP
    have T' := T.at fun o z => mv.heap S o out' z
    show wpAny _ A.in1 (holding [Value.str x t] (setAdd S (.str x t)) >>= _) _ _ s'
    refine wpAny_bind (wpAny_holding ?_)
    unfold setAdd
    refine wpAny_holding (wpAny_bind ((strKind prog w).pyHash (k := x) (is_str x t) ?_))
    have room : ((xs.take i).foldl insS []).length + 1 < scanBound := by
      have z := fold_len (xs.take i) []
      have z2 := List.length_take_le i xs
      simp only [List.length_nil] at z
      omega
    refine add_any (s := { s' with toks := s'.toks + 1 }) T' room fun b h' same T2 => ?_
    have e2 : (xs.take (i + 1)).foldl insS [] = insS ((xs.take i).foldl insS []) x := by
      rw [List.take_add_one, hxi, List.foldl_append]
      rfl
    rw [← e2] at T2
    refine wpAny_pure ⟨plainId_quiet F.plain_set_update_loop _, ih (i + 1) _ (by omega) lt (W.frame _ s' _ _ st' (Nat.le_succ _) fun c hc o z => ?_) T2 fun s2 mv2 T3 => ?_⟩
    · exact (same.2 c fun e => out (e ▸ hc)).trans z
    · exact fin s2 (Moved.trans W.gtrans ((mv.mono more).then_heap (Nat.le_succ _) fun c o hc z => (same.2 c fun e => hc (by rw [e]; exact List.mem_cons_self ..)).trans z) mv2) T3
end
def newD (w : World) : SD := (#[], 0, .fresh 0 0 (!w.params.followText "set-order"))
theorem newD_ok {P : Program} {w : World} {h : Heap} {a : Addr} (e : h.get? a = some (sObj "set" (newD w))) : TxSet P w h a [] := by
  refine ⟨⟨newD w, e, .nil rfl, List.Perm.refl _, List.Pairwise.nil, ?_⟩, List.nodup_nil, by decide⟩
  show _ ∨ (!w.params.followText "set-order") = true
  cases w.params.followText "set-order"
  · exact .inr rfl
  · exact .inl rfl
theorem strs_nth : ∀ {us : List Value} {xs : List Str}, StrsAre us xs → ∀ (i : Nat) (v : Value), us[i]? = some v → ∃ x t, xs[i]? = some x ∧ v = .str x t
  | _, _, .nil, i, v, h => by simp at h
  | _, _, .cons x t r, 0, v, h => by
    simp only [List.getElem?_cons_zero, Option.some.injEq] at h
    exact ⟨x, t, rfl, h.symm⟩
  | _, _, .cons x t r, i + 1, v, h => by
    simp only [List.getElem?_cons_succ] at h ⊢
    exact strs_nth r i v h
section
variable {P : Program} {w : World} {A : Around} {E : Value → Shared → Prop} {s : Shared}
set_option maxHeartbeats 4000000 in
theorem set_texts {l : Addr} {its : Array Value} {xs : List Str} {Q : Value → Shared → Prop} (hh : A.handled = none) (hl : s.heap.IsList l its) (hx : StrsAre its.toList xs) (hb : xs.length + 1 < scanBound)
    (q : ∀ (h' : Heap) (tk : Nat), TxSet P w h' s.heap.objs.size (xs.foldl insS []) → (∀ b o, s.heap.get? b = some o → h'.get? b = some o) → Q (.ref s.heap.objs.size) { s with heap := h', toks := tk }) :
    wpAny (model P w) A (call (.type "set") [.ref l]) Q E s := by
  have cnt : its.size = xs.length := by
    have z := StrsAre.length hx
    rwa [Array.length_toList] at z
  obtain ⟨c, tl, mro⟩ := F.called_set.mro
  have made := F.called_set.made
  have sub := F.called_set.sub
  refine wpAny_call (codeAny_of_tree (show wpAny _ _ (callAny (.type "set") _) _ _ _ from ?_))
  refine wpAny_pure ⟨Code.quiet_builtin _ (by decide +kernel), codeAny_builtin F.entry_type_call (R := _) ?_⟩
  rw [Around.under_plain (weight_type_call_type "set" [Value.ref l] []) rfl]
  have g1 := F.called_set.notType
  have g2 := F.called_set.canCreate
  have g3 := F.typeCall_set_1 (Value.ref l)
  repeat (any_goals first | assumption | wp_step)
  refine codeAny_mono (code_set_led1 (.ref l) (E := E) (Q₁ := fun v s1 => v = .ref s.heap.objs.size ∧ s1 = { s with heap := s.heap.push (sObj "set" (newD w)) }) ⟨rfl, rfl⟩) fun r s1 hr => ?_
  cases r with
  | error e => exact hr
  | ok fl =>
    cases fl with
    | ret v =>
      obtain ⟨rfl, rfl⟩ := hr
      have at_ : (s.heap.push (sObj "set" (newD w))).get? s.heap.objs.size = some (sObj "set" (newD w)) := Heap.get?_push_size _ rfl
      have ty : Shared.TypeIs { s with heap := s.heap.push (sObj "set" (newD w)) } (.ref s.heap.objs.size) "set" := ⟨_, at_, rfl⟩
      have i1 := F.called_set.init.lookup
      have i2 := F.called_set.init.bind (.ref s.heap.objs.size)
      repeat (any_goals first | assumption | wp_step)
      refine codeAny_mono (codeAny_call_builtin (R := wants (fun v s2 => v = .none ∧ ∃ h' tk, s2 = { s with heap := h', toks := tk } ∧ TxSet P w h' s.heap.objs.size (xs.foldl insS []) ∧
          (∀ b o, s.heap.get? b = some o → h'.get? b = some o)) E) F.called_set.init.plain F.entry_set_init (check_set_init_1 ty ?_)) fun r2 s2 hr2 => ?_
      · obtain ⟨ol, e1, e2, nl, e3⟩ := hl
        obtain ⟨oc, od, ob, os⟩ := ol
        simp only at e2 e3
        subst e2; subst e3
        have lat : (s.heap.push (sObj "set" (newD w))).get? l = some { cls := .type "list", dict := od, data := .seq its nl, slots := os } := Heap.get?_push_of_some _ e1
        have f1 := F.sub_list_set
        have f2 := F.sub_list_frozenset
        have f3 : (Value.type "list" == Value.type "dict") = false := by decide
        have isl : (s.heap.push (sObj "set" (newD w))).IsList l its := ⟨_, lat, rfl, nl, rfl⟩
        unfold Builtin.«set.__init__» noKeywords Builtin.Frozenset.updateFrom
        generalize hp : pyIter = piter
        wp_walk
        subst hp
        refine wpAny_pyIter_list isl (wpAny_bind (wpAny_runValue ?_))
        have below : l < s.heap.objs.size := Heap.lt_size e1
        have z1 : (s.heap.push (sObj "set" (newD w))).objs.size = s.heap.objs.size + 1 := Heap.size_push ..
        have nI : l ≠ (s.heap.push (sObj "set" (newD w))).objs.size := by rw [z1]; exact Nat.ne_of_lt (Nat.lt_succ_of_lt below)
        have nS : s.heap.objs.size ∉ [(s.heap.push (sObj "set" (newD w))).objs.size, l] := by
          rw [z1]
          intro z
          rcases List.mem_cons.mp z with z | z
          · exact absurd z (Nat.ne_of_lt (Nat.lt_succ_self _))
          · exact absurd (List.mem_singleton.mp z).symm (Nat.ne_of_lt below)
        refine upd_loop ((Walks.list (A := A.in1.in1.in1) (by simp [hh]) _ l nI its).toS) nS (xs := xs) cnt.symm (fun i v e => strs_nth hx i v (by rw [Array.getElem?_toList]; exact e)) (by rw [cnt]; exact hb) (its.size - 0) 0 _ rfl (Nat.zero_le _)
          ?place ?first fun s3 mv T => ?_
        case place => exact ⟨⟨_, Heap.get?_push_size _ rfl, rfl, rfl⟩, isl.push _⟩
        case first => exact newD_ok (Heap.get?_push_of_some _ at_)
        obtain ⟨h3, g3, d3, t3, o3⟩ := s3
        have eg : g3 = s.gens := mv.gens
        have ed : d3 = s.drawn := mv.drawn
        have eo : o3 = s.os := mv.os
        subst eg; subst ed; subst eo
        show wpAny _ _ _ _ _ _
        refine wpAny_pure ?_
        show wpAny _ _ (ret Value.none) _ _ _
        refine wpAny_pure ⟨rfl, h3, t3, rfl, T, fun b o e => mv.heap b o ?_ (Heap.get?_push_of_some _ (Heap.get?_push_of_some _ e))⟩
        have lo := Heap.lt_size e
        intro z
        rcases List.mem_cons.mp z with z | z
        · exact absurd z (Nat.ne_of_lt lo)
        · have z := List.mem_singleton.mp z
          rw [z1] at z
          exact absurd z (Nat.ne_of_lt (Nat.lt_succ_of_lt lo))
      · cases r2 with
        | error e => exact hr2
        | ok fl2 =>
          cases fl2 with
          | ret v2 =>
            obtain ⟨rfl, h3, t3, rfl, T, kp⟩ := hr2
            repeat (any_goals first | assumption | wp_step)
            exact q h3 t3 T kp
          | _ => exact hr2.elim
    | _ => exact hr.elim
end
end FL
namespace FL
open PySem PySem.Spec PyProof.Rows L2 SrtO
open PySem.Froz (SD sObj TxOk addTx tailTx is_str add_ok add_x)
def SetSO (P : Program) (w : World) (a : Addr) (l : List Str) : HO := .ext fun h => TxSet P w h a l
theorem setSO_new {w : World} {P : Program} {H : Hp} {h : Heap} {a : Addr} {l : List Str} (R : TxSet P w h a l) : ObjOk P w H h a (SetSO P w a l) := by
  have ⟨⟨D, g, _⟩, _, _⟩ := R
  exact ⟨R, ⟨_, g⟩, fun h1 h2 p k => TxSet.at p k⟩
def rSetS (K : PySem.W.Frag) (P : Program) (w : World) : List V → Hp → VK → Prop := fun xs H Q => ∃ (l : Addr) (ys : List Str), xs = [V.ref l] ∧ SqL K H l (ys.map V.str) ∧ ys.length + 1 < scanBound ∧
  ∀ a, H a = none → Q (.ref a) (upd H a (SetSO P w a (ys.foldl insS [])))
section
variable {X : Cx}
theorem cr_setS (hc : X.calm = true) : CallR X (.type "set") (rSetS X.K X.prog X.w) := by
  intro pins s σ H xs us Q I r h
  obtain ⟨l, ys, rfl, hl, few, q⟩ := h
  rw [Vals.ref1 r]
  obtain ⟨its, rv, pl, hz⟩ := I.list hl
  refine set_texts (P := X.prog) (w := X.w) (xs := ys) (I.ok.hd hc) pl.isList (by simpa using strsAre_of rv) few fun h' tk T kp => ?_
  exact ⟨.ref s.heap.objs.size, upd H s.heap.objs.size (SetSO X.prog X.w s.heap.objs.size (ys.foldl insS [])), I.laid (t' := tk) kp (Nat.le_refl _) (setSO_new T), rfl, q _ (I.hok.fresh (Nat.le_refl _))⟩
end
def txOf : D → Tx
  | .str x => x
  | _ => []
def isTx : D → Bool
  | .str _ => true
  | _ => false
def insT (l : List Tx) (k : Tx) : List Tx := if k ∈ l then l else k :: l
theorem ins_toS (l : List Tx) (k : Tx) : insS (l.map toS) (toS k) = (insT l k).map toS := by
  unfold insS insT
  have inj : toS k ∈ l.map toS ↔ k ∈ l := by
    constructor
    · intro h
      obtain ⟨y, hy, e⟩ := List.mem_map.mp h
      have e : y = k := by simpa [toS] using congrArg (fun s : Str => s.cps.toList) e
      exact e ▸ hy
    · exact fun h => List.mem_map.mpr ⟨k, h, rfl⟩
  by_cases h : k ∈ l
  · rw [if_pos h, if_pos (inj.mpr h)]
  · rw [if_neg h, if_neg (fun z => h (inj.mp z))]
    rfl
theorem fold_toS : ∀ (xs l : List Tx), (xs.map toS).foldl insS (l.map toS) = (xs.foldl insT l).map toS
  | [], l => rfl
  | x :: xs, l => by
    rw [List.map_cons, List.foldl_cons, ins_toS, fold_toS xs]
    rfl
theorem tx_map : ∀ {xs : List D}, xs.all isTx = true → xs = (xs.map txOf).map .str
  | [], _ => rfl
  | x :: xs, h => by
    rw [List.all_cons, Bool.and_eq_true] at h
    cases x <;> first | (exact absurd h.1 Bool.false_ne_true) | skip
    rw [List.map_cons, List.map_cons, ← tx_map h.2]
    rfl
theorem rep_strs {K : PySem.W.Frag} {mg : Str → Option Value} {F : Hp} {ρ : List Addr} : ∀ {xs : List Tx} {vs : List V}, RepL K mg F ρ vs (xs.map .str) → vs = (xs.map toS).map V.str
  | [], _, .nil => rfl
  | x :: xs, _, .cons h t => by
    cases h
    rw [rep_strs t]
    rfl
end FL
namespace FL
open PySem PySem.Spec PyProof.Rows L2 SrtO
section
variable {X : Cx} {W : WX} {k : Nat} {N : List Str} {sc : Scope} {e : Expr} {os : List Opn} {o : Opn} {pos p pos' p' : Pos}
def mLR (m : ME) : ME := fun δ μ => (m δ μ).bind fun s δ1 μ1 => match s with
  | .fr (.int n) => if 0 ≤ n ∧ n ≤ 16777216 then .ok (.own (.lst (rangeD 0 n.toNat))) δ1 μ1 else .bad
  | _ => .bad
theorem je_lr {m : ME} (hc : X.calm = true) (hg : Gl X "list") (hm : X.mg "list" = none) (hg2 : Gl X "range") (hm2 : X.mg "range" = none) (he : JE X W e m)
    (n1 : starEach [e] X.env = (false, eval e X.env) :: starEach [] X.env := by rfl)
    (n2 : starEach [.Call (.Name "range" p') [e] [] pos'] X.env = (false, eval (.Call (.Name "range" p') [e] [] pos') X.env) :: starEach [] X.env := by rfl) :
    JE X W (.Call (.Name "list" p) [.Call (.Name "range" p') [e] [] pos'] [] pos) (mLR m) := by
  refine (pe_listRg hc hg hm (prg_1 hg2 hm2 he n1) n2).imp fun σ H Q ⟨Z, F, ρ, μ, δ, S, q⟩ => ⟨Z, F, ρ, μ, δ, S, (FinE.bind q).imp fun s δ1 μ1 H1 F1 ρ1 l lr S1 ⟨_, _, _, z⟩ v rv => ?_⟩
  match s, z, rv with
  | .fr (.int n), z, rv =>
    have z : FinE X W Z F1 ρ1 σ _ (if 0 ≤ n ∧ n ≤ 16777216 then Out.ok (Slot.own (Own.lst (rangeD 0 n.toNat))) δ1 μ1 else .bad) := z
    by_cases c : 0 ≤ n ∧ n ≤ 16777216
    · rw [if_pos c] at z
      have hv : Rep X.K X.mg F1 ρ1 v (.int n) := rv.r
      cases hv
      refine ⟨n, rfl, .of_le (by decide) (by omega) (by decide) c.1, fun a free => ?_⟩
      have e1 : rgV 0 n = ((List.range n.toNat).map fun i => (0 : Int) + (i : Nat)).map V.int := by
        unfold rgV
        rw [Int.sub_zero, List.map_map]
        rfl
      have e2 : rangeD 0 n.toNat = ((List.range n.toNat).map fun i => (0 : Int) + (i : Nat)).map D.int := by
        unfold rangeD
        rw [List.map_map]
        rfl
      rw [e1]
      rw [e2] at z
      obtain ⟨S2, vr⟩ := vr_newL S1 free (RepL.ofInts (K := X.K) (mg := X.mg) (F := F1) (ρ := ρ1) _)
      exact z _ F1 ρ1 .refl .refl S2 _ vr
    · rw [if_neg c] at z; exact z.elim
  | .own _, z, _ => exact z.elim
  | .fr .non, z, _ | .fr (.bl _), z, _ | .fr (.str _), z, _ | .fr (.lst _), z, _ | .fr (.tup _), z, _ | .fr (.fx _ _ _), z, _ | .fr (.dct _ _), z, _ | .fr (.obj _), z, _ | .fr (.glo _), z, _ | .fr (.ty _), z, _ | .fr (.exn _ _ _), z, _ | .fr (.ins _ _ _), z, _ | .fr .unk, z, _ => exact z.elim
theorem Cs.lr {m : ME} (C : Cs X W k N sc) (h1 : glC sc "list" = true) (m1 : X.mg "list" = none) (h2 : glC sc "range" = true) (m2 : X.mg "range" = none) (he : JE X W e m)
    (n1 : starEach [e] X.env = (false, eval e X.env) :: starEach [] X.env := by rfl)
    (n2 : starEach [.Call (.Name "range" p') [e] [] pos'] X.env = (false, eval (.Call (.Name "range" p') [e] [] pos') X.env) :: starEach [] X.env := by rfl) :
    JE X W (.Call (.Name "list" p) [.Call (.Name "range" p') [e] [] pos'] [] pos) (mLR m) := je_lr C.calm (C.gl h1).1 m1 (C.gl h2).1 m2 he n1 n2
end
end FL
namespace FL
open PySem PySem.Spec PyProof.Rows L2 LamX
theorem fnG_cs {P : Program} {w : World} {K : PySem.W.Frag} {mg : Str → Option Value} {base : Heap} {k n : Nat} {f cda cc Dc : Addr} {x qual : Str} {st : Stmt} {fd : FuncData} {N ps : List Str} {m : MS} {dV : Value} {sc : Scope} (F : FdC K x qual st f fd dV cda cc Dc) (S : ClsScope N ps sc) (hsc : defScope st = sc) (hn : ps.length = n)
    (hbody : ∀ (X : Cx) (W : WX), X.prog = P → X.w = w → X.K = K → X.mg = mg → X.base = base → Cd X W k N sc → (∀ p0, SupP X.prog X.K X.mg f cda cc Dc p0 sc N → SupT X f cda cc Dc p0) → JWb X W (defBody st) (defBody st) m) : FnG P w K mg base (L2.CX P w) (k + 1) f fd ps (spM K mg (mFn N.length m) n) := by
  subst hsc
  exact fnG_c F S hn fun X W h1 h2 h3 h4 h5 C Z => hbody X W h1 h2 h3 h4 h5 C fun p0 h => h.t C Z
structure FdK (K : PySem.W.Frag) (x qual : Str) (st : Stmt) (f : Addr) (kV : Value) (cda cc : Addr) (fd : FuncData) : Prop where
  ex : ∃ (oc : Value) (od : Option Addr) (doc pm : Value) (an : Option Addr) (ct : Value) (osl : Array (Option Value)),
    fd = PySem.W.ksFn x qual (defArgs st) (defBody st) (defScope st) .none kV doc pm an (.ref cda) ct cc ∧ K.lookup f = some { cls := oc, dict := od, data := .func fd, slots := osl }
  cd : PySem.W.codeIn K (.ref cda) qual = true
section
variable {fs : List (PySem.W.Frag → Bool)} {ds : List Dsc} {ts : Mks} {K : PySem.W.Frag}
theorem HkSays.fk (c : HkSays fs ds ts K) (i : Nat) {d : Dsc} (h : ds[i]? = some d) (hc : d.clo = ([("__class__" : Str)] : List Str)) (hn : d.nd = true := by rfl) : ∃ fd, FdK K d.x d.qual d.st (fAdF K d.p) (kvAd K d.p) (codeAd K d.p) (ccAd K d.p) fd := by
  obtain ⟨oc, od, osl, kV, doc, pm, an, cdv, ct, clo, e1, e2, e3⟩ := c.fn i h hn
  rw [hc] at e1
  match clo, e1 with
  | [(y, cc)], e1 =>
    have e1 : y = ("__class__" : Str) := (List.cons.inj (show [y] = ([("__class__" : Str)] : List Str) from e1)).1
    subst e1
    cases cdv with
    | ref cda =>
      have k1 : kvAd K d.p = kV := by unfold kvAd; rw [e2]
      have k2 : ccAd K d.p = cc := by unfold ccAd; rw [e2]
      have k3 : codeAd K d.p = cda := by unfold codeAd; rw [e2]
      rw [k1, k2, k3]
      exact ⟨_, ⟨oc, od, doc, pm, an, ct, osl, rfl, e2⟩, e3⟩
    | _ => cases e3
theorem HkSays.fl (c : HkSays fs ds ts K) (i : Nat) {d : Dsc} (h : ds[i]? = some d) (hc : d.clo = []) (hn : d.nd = true := by rfl) : ∃ fd, FdL K d.x d.qual d.st (fAdF K d.p) fd .none (codeAd K d.p) := by
  obtain ⟨oc, od, osl, kV, doc, pm, an, cdv, ct, clo, e1, e2, e3⟩ := c.fn i h hn
  rw [hc] at e1
  have e1 : clo = [] := List.map_eq_nil_iff.mp e1
  subst e1
  cases cdv with
  | ref cda =>
    have k3 : codeAd K d.p = cda := by unfold codeAd; rw [e2]
    rw [k3]
    exact ⟨_, oc, od, kV, doc, pm, an, ct, osl, rfl, e2, e3⟩
  | _ => cases e3
end
structure CellOk (K : PySem.W.Frag) (cda cc D : Addr) (file : Str) : Prop where
  cell : ∃ cl cld csl, K.lookup cc = some { cls := cl, dict := cld, data := .cell (some (.ref D)), slots := csl }
  code : ∃ ccl cdd vs ccs fl tf, K.lookup cda = some { cls := ccl, dict := cdd, data := .fields vs, slots := ccs } ∧ vs[2]? = some (.str fl tf) ∧ (file == fl) = true
  clsD : ∃ cdD, PySem.W.clsIn K D = some cdD
  any : PySem.W.nsIn K cStatics "thirdparty.any" = some none
theorem tCell_ok {K : PySem.W.Frag} {c m file : Str} (h : tCell c m file K = true) : CellOk K (codeAd K (c, some m)) (ccAd K (c, some m)) (He.ga K c) file := by
  obtain ⟨h1, h⟩ := Bool.and_eq_true_iff.mp h
  obtain ⟨h2, h⟩ := Bool.and_eq_true_iff.mp h
  obtain ⟨h3, h4⟩ := Bool.and_eq_true_iff.mp h
  refine ⟨?_, ?_, Option.isSome_iff_exists.mp h3, of_decide_eq_true h4⟩
  · split at h1
    · rename_i cl cld v csl e
      have h1 := of_decide_eq_true h1
      subst h1
      exact ⟨_, _, _, e⟩
    · cases h1
  · split at h2
    · rename_i ccl cdd vs ccs e
      split at h2
      · rename_i f tf e2
        exact ⟨_, _, _, _, _, _, e, e2, h2⟩
      · cases h2
    · cases h2
theorem FdK.fc {K : PySem.W.Frag} {x qual : Str} {st : Stmt} {f : Addr} {kV : Value} {cda cc D : Addr} {fd : FuncData} {file : Str} (F : FdK K x qual st f kV cda cc fd) (C : CellOk K cda cc D file) : FdC K x qual st f fd .none cda cc D :=
  let ⟨oc, od, doc, pm, an, ct, osl, h1, h2⟩ := F.ex
  ⟨⟨oc, od, kV, doc, pm, an, ct, osl, h1, h2⟩, F.cd, C.cell⟩
theorem supP_of {P : Program} {mg : Str → Option Value} {K : PySem.W.Frag} {x qual p0 : Str} {st : Stmt} {f : Addr} {kV : Value} {cda cc D : Addr} {fd : FuncData} {N : List Str} {sc : Scope} (F : FdK K x qual st f kV cda cc fd) (C : CellOk K cda cc D P.main.file) (sup : mg "super" = none) (hsc : defScope st = sc)
    (self : ∃ ar, ((defArgs st).posonlyargs ++ (defArgs st).args).head? = some ar ∧ ar.arg = p0) (top : (P.main.scope.names.lookup ("super" : Str)).isSome = false) (ls : sc.names.lookup ("super" : Str) = some .globalImplicit)
    (lc : sc.names.lookup ("__class__" : Str) = some .free) (l0 : sc.names.lookup p0 = some .local) (n0 : N[0]? = some p0) : SupP P K mg f cda cc D p0 sc N := by
  subst hsc
  obtain ⟨oc, od, doc, pm, an, ct, osl, h1, h2⟩ := F.ex
  obtain ⟨ar, s1, s2⟩ := self
  exact ⟨⟨_, fd, ar, h2, rfl, by rw [h1]; exact s1, s2⟩, C.code, C.cell, C.clsD, C.any, top, sup, ls, lc, l0, n0⟩
theorem tFn_ok {K : PySem.W.Frag} {h : Heap} {mg : Str → Option Value} {x : Str} (X : K.In h) (G : h.Ns mainGlobals mg) (t : tFn x K = true) : mg x = some (.ref (fAdF K (x, none))) ∧ PySem.W.keepIn K (.ref (fAdF K (x, none))) = true := by
  obtain ⟨t1, t⟩ := Bool.and_eq_true_iff.mp t
  obtain ⟨t2, t3⟩ := Bool.and_eq_true_iff.mp t
  rw [of_decide_eq_true t3]
  exact ⟨He.glo_ok X G t1, He.keep_ok t2⟩
theorem FdK.bind1 {K : PySem.W.Frag} {x qual : Str} {st : Stmt} {f : Addr} {kV : Value} {cda cc : Addr} {fd : FuncData} {ps ks : List Str} {n : Nat} {sel : List Sel} {dw : List Value} (F : FdK K x qual st f kV cda cc fd)
    (h : ∀ (doc pm : Value) (an : Option Addr) (cdv ct : Value) (cc : Addr), BindW1 K (PySem.W.ksFn x qual (defArgs st) (defBody st) (defScope st) .none kV doc pm an cdv ct cc) ps n ks sel dw) : BindW1 K fd ps n ks sel dw := by
  obtain ⟨oc, od, doc, pm, an, ct, osl, h1, h2⟩ := F.ex
  rw [h1]
  exact h _ _ _ _ _ _
theorem xcH {P : Program} {w : World} {K : PySem.W.Frag} {h : Heap} {mg : Str → Option Value} {base : Heap} {c at_ : String} {st : Stmt} {p0 p1 : Str} {q : Nat → Pos} {sc : Scope} {qual : Str} {kV : Value} {fd : FuncData} (S : SupS P st p0 p1 (Str.ofString at_) q sc) (hm : mg (Str.ofString c) = some (.ref (He.ga K (Str.ofString c)))) (hsup : mg "super" = none)
    (T : tExc (Str.ofString c) (Str.ofString at_) K = true) (F : FdK K "__init__" qual st (fAdF K (Str.ofString c, some "__init__")) kV (codeAd K (Str.ofString c, some "__init__")) (ccAd K (Str.ofString c, some "__init__")) fd) (C : CellOk K (codeAd K (Str.ofString c, some "__init__")) (ccAd K (Str.ofString c, some "__init__")) (He.ga K (Str.ofString c)) P.main.file)
    (hb : ∀ (kV doc pm : Value) (an : Option Addr) (cdv ct : Value) (cc : Addr) (us : List Value), us.length = [p0, p1].length → bindArgs (PySem.W.ksFn "__init__" qual (defArgs st) (defBody st) (defScope st) .none kV doc pm an cdv ct cc) ⟨us, []⟩ = pure ([p0, p1].zip us)) : Xc P w K mg base c at_ := by
  obtain ⟨t0, T⟩ := Bool.and_eq_true_iff.mp T
  obtain ⟨t1, T⟩ := Bool.and_eq_true_iff.mp T
  obtain ⟨t2, T⟩ := Bool.and_eq_true_iff.mp T
  obtain ⟨t3, T⟩ := Bool.and_eq_true_iff.mp T
  obtain ⟨t4, T⟩ := Bool.and_eq_true_iff.mp T
  obtain ⟨t5, T⟩ := Bool.and_eq_true_iff.mp T
  obtain ⟨t6, T⟩ := Bool.and_eq_true_iff.mp T
  obtain ⟨t7, T⟩ := Bool.and_eq_true_iff.mp T
  obtain ⟨t8, T⟩ := Bool.and_eq_true_iff.mp T
  obtain ⟨t9, t10⟩ := Bool.and_eq_true_iff.mp T
  obtain ⟨ccl, cdd, vs, ccs, fl, tf, lcd, hvs, hfile⟩ := C.code
  obtain ⟨cl, cld, csl, lcc⟩ := C.cell
  obtain ⟨oc, od, doc, pm, an, ct, osl, rfl, lI⟩ := F.ex
  split at t0
  · rename_i T dd cd sl ho
    split at t0
    · rename_i C' bm k0 k1 k2 k3 n k5 hmr hs
      simp only [Bool.and_eq_true, beq_iff_eq, Bool.not_eq_true', decide_eq_true_eq] at t0
      obtain ⟨hT, hC', hn, hdel, hd, hbm⟩ := t0
      subst hT hn
      obtain ⟨nm, bs, mro, ns, qn, hdct, sn, sub, ab, col, del⟩ := cd
      dsimp only at hmr hdel hd
      subst hmr hdel hd
      have hsl : sl = #[k0, k1, k2, k3, some (.builtin "ValueError.__new__"), k5] := by
        obtain ⟨l⟩ := sl
        simp only at hs
        rw [hs]
      subst hsl
      rw [hC'] at ho
      exact xc_of S hm hsup ho hbm (of_decide_eq_true t1) (of_decide_eq_true t2) (of_decide_eq_true t3) t4 (of_decide_eq_true t5) (of_decide_eq_true t6) lI F.cd lcd hvs hfile lcc C.any (of_decide_eq_true t7) (of_decide_eq_true t8) (of_decide_eq_true t9) (of_decide_eq_true t10) (hb _ _ _ _ _ _ _)
    · cases t0
  · cases t0
theorem attsOk_of {K : PySem.W.Frag} {h : Heap} {mg : Str → Option Value} (X : K.In h) (G : h.Ns mainGlobals mg) : ∀ (t : AttTb), tAtts t K = true → AttsOk K mg (attT t) := by
  intro t
  induction t with
  | nil => intro _ c f C n; exact absurd rfl n
  | cons e t ih =>
    intro ht c f C n hC
    obtain ⟨h1, h2⟩ := Bool.and_eq_true_iff.mp (show (tAtt1 e K && t.all fun e => tAtt1 e K) = true from by simpa [tAtts] using ht)
    obtain ⟨c', f', o⟩ := e
    by_cases hc : c = c' ∧ f = f'
    · obtain ⟨rfl, rfl⟩ := hc
      have e1 : attT ((c, f, o) :: t) c f = attV o := by simp [attT]
      rw [e1]
      obtain ⟨g1, g2⟩ := Bool.and_eq_true_iff.mp h1
      have g1 := He.glo_ok X G g1
      rw [hC] at g1
      cases g1
      cases o with
      | none =>
        obtain ⟨a, b⟩ := tFld_ok g2
        exact ⟨a, b⟩
      | some s =>
        obtain ⟨a, u, b⟩ := tCon_ok g2
        refine ⟨a, _, u, b, fun F ρ => ?_⟩
        rw [ofS_lit]
        exact .str
    · have e1 : attT ((c', f', o) :: t) c f = attT t c f := by simp [attT, hc]
      rw [e1] at n ⊢
      exact ih h2 c f C n hC
def PrpB (K : PySem.W.Frag) (mg : Str → Option Value) (t : PrpTb) : Prop := ∀ c f b, prpT t c f = some b → ∀ C, mg (Str.ofString c) = some (.ref C) → Cls K C ∧ ∃ p, PropOf K C (Str.ofString f) p (fAdF K (Str.ofString b, some (Str.ofString f)))
theorem prpB_of {K : PySem.W.Frag} {h : Heap} {mg : Str → Option Value} (X : K.In h) (G : h.Ns mainGlobals mg) : ∀ (t : PrpTb), tPrps t K = true → PrpB K mg t := by
  intro t
  induction t with
  | nil => intro _ c f b n; cases n
  | cons e t ih =>
    intro ht c f b n C hC
    obtain ⟨h1, h2⟩ := Bool.and_eq_true_iff.mp (show (tPrp1 e K && t.all fun e => tPrp1 e K) = true from by simpa [tPrps] using ht)
    obtain ⟨c', f', b'⟩ := e
    by_cases hc : c = c' ∧ f = f'
    · obtain ⟨rfl, rfl⟩ := hc
      have e1 : prpT ((c, f, b') :: t) c f = some b' := by simp [prpT]
      rw [e1] at n
      cases n
      obtain ⟨g1, g2⟩ := Bool.and_eq_true_iff.mp h1
      obtain ⟨g2, g3⟩ := Bool.and_eq_true_iff.mp g2
      have g1 := He.glo_ok X G g1
      rw [hC] at g1
      cases g1
      obtain ⟨a, p⟩ := tPrp_ok g2
      have g3 := of_decide_eq_true g3
      dsimp only at g3
      rw [g3] at p
      exact ⟨a, _, p⟩
    · have e1 : prpT ((c', f', b') :: t) c f = prpT t c f := by simp [prpT, hc]
      rw [e1] at n
      exact ih h2 c f b n C hC
def prpM (t : PrpTb) (gm : String → String → Option MF) : String → String → Option MF := fun c f => (prpT t c f).bind fun b => gm b f
theorem propR_of {P : Program} {w : World} {K : PySem.W.Frag} {mg : Str → Option Value} {base : Heap} {j : Nat} {t : PrpTb} {gm : String → String → Option MF} (B : PrpB K mg t)
    (hg : ∀ b f m, gm b f = some m → ∃ fd nm, FnG P w K mg base (L2.CX P w) j (fAdF K (Str.ofString b, some (Str.ofString f))) fd [nm] (spM K mg m 1) ∧ Binds K fd [nm] []) : PropR P w K mg base j (prpM t gm) := by
  intro c f m h C hC
  obtain ⟨b, e1, e2⟩ := Option.bind_eq_some_iff.mp h
  obtain ⟨cl, p, hp⟩ := B c f b e1 C hC
  obtain ⟨fd, nm, F, bb⟩ := hg b f m e2
  exact ⟨cl, p, _, fd, nm, hp, F, bb⟩
def SupB (K : PySem.W.Frag) (mg : Str → Option Value) (c f : String) (D g : Addr) : Prop := ∀ C, mg (Str.ofString c) = some (.ref C) → ∃ og cdC, PySem.W.clsIn K C = some cdC ∧ PySem.W.alongIn K (Str.ofString f) ((cdC.mro.dropWhile (· != .ref D)).drop 1) = some (some (.ref g)) ∧
    K.lookup g = some og ∧ og.cls = .type "function" ∧ PySem.W.fnIn K g = true ∧ PySem.W.mroIn K C (.ref D) = some true
theorem supB_of {K : PySem.W.Frag} {mg : Str → Option Value} {c f : String} {D B : Str} (hm : mg (Str.ofString c) = some (.ref (He.ga K (Str.ofString c)))) (t : tSup (Str.ofString c) D B (Str.ofString f) K = true) : SupB K mg c f (He.ga K D) (fAdF K (B, some (Str.ofString f))) := by
  intro C hC
  rw [hm] at hC
  cases hC
  obtain ⟨cdC, og, h1, h2, h3, h4, h5, h6⟩ := tSup_ok t
  exact ⟨og, cdC, h1, h2, h3, h4, h5, h6⟩
theorem supR_of {P : Program} {w : World} {K : PySem.W.Frag} {mg : Str → Option Value} {base : Heap} {j N : Nat} {c f : String} {D g : Addr} {fd : FuncData} {ps : List Str} {mi : MF} (B : SupB K mg c f D g) (F : FnG P w K mg base (L2.CX P w) j g fd ps (spM K mg mi N)) (hb : Binds K fd ps []) : SupR P w K mg base j c f D mi N := by
  intro C hC
  obtain ⟨og, cdC, h1, h2, h3, h4, h5, h6⟩ := B C hC
  exact ⟨g, og, fd, ps, [], [], cdC, h1, h2, h3, h4, h5, h6, F, hb⟩
section
variable {X : Cx} {W : WX} {k j n N : Nat} {e : Expr} {es : List Expr} {kws : List Keyword} {pos p : Pos} {ks nm : List Str} {sc : Scope} {dds : List D} {m mi : MF} {x : Str} {c : String} {sel : List Sel} {ms mks : List ME}
theorem clF (Cc : Cs X W k nm sc) (V : ClW X.prog X.w X.K X.mg X.base j c n ks sel mi N dds) (hjk : j + 1 ≤ k) (hg : glC sc (Str.ofString c) = true) (ha : JA X W (e :: es) ms) (hkw : JK X W kws mks) (h1 : ms.length = n) (h2 : mks.length = ks.length)
    (hall : (backToKw pos (keywordEach kws X.env)).all (·.1.isSome) = true := by rfl) (hks : (backToKw pos (keywordEach kws X.env)).filterMap (·.1) = ks := by rfl)
    (he : starEach (e :: es) X.env = (false, eval e X.env) :: starEach es X.env := by rfl) (hpl : ((backTo pos (starEach (e :: es) X.env)).any (·.1) || (backToKw pos (keywordEach kws X.env)).any (·.1.isNone)) = false := by rfl) :
    JE X W (.Call (.Name (Str.ofString c) p) (e :: es) kws pos) (mCallK (mkF c mi) sel ms mks dds) :=
  let ⟨_, hm, F⟩ := V.callF
  je_callW Cc F hm hjk hg ha hkw h1 h2 hall hks he hpl
theorem pick_len {α : Type} (vs ds zs : List α) : ∀ sel : List Sel, (sel.all fun a => match a with
    | .pos i => decide (i < vs.length)
    | .key i => decide (i < zs.length)
    | .dfl i => decide (i < ds.length)) = true → (pickS sel vs ds zs).length = sel.length
  | [], _ => rfl
  | a :: sel, h => by
    rw [List.all_cons] at h
    obtain ⟨h1, h2⟩ := Bool.and_eq_true_iff.mp h
    have ih := pick_len vs ds zs sel h2
    unfold pickS at ih ⊢
    have : ∃ v, a.get vs ds zs = some v := by
      cases a with
      | pos i => exact ⟨_, List.getElem?_eq_getElem (of_decide_eq_true h1)⟩
      | key i => exact ⟨_, List.getElem?_eq_getElem (of_decide_eq_true h1)⟩
      | dfl i => exact ⟨_, List.getElem?_eq_getElem (of_decide_eq_true h1)⟩
    obtain ⟨v, e⟩ := this
    rw [List.filterMap_cons_some e, List.length_cons, List.length_cons, ih]
def selOk (n nd nk : Nat) (sel : List Sel) : Bool := sel.all fun a => match a with
    | .pos i => decide (i < n)
    | .key i => decide (i < nk)
    | .dfl i => decide (i < nd)
theorem sel_len {n nd nk : Nat} {sel : List Sel} (h : selOk n nd nk sel = true) {α : Type} (vs ds zs : List α) (h1 : vs.length = n) (h2 : ds.length = nd) (h3 : zs.length = nk) : (pickS sel vs ds zs).length = sel.length := by
  subst h1 h2 h3
  exact pick_len vs ds zs sel h
theorem clW_of {P : Program} {w : World} {K : PySem.W.Frag} {mg : Str → Option Value} {base : Heap} {C f : Addr} {fd : FuncData} {ps : List Str} {ds : List Value} {dvs : List V} (hm : mg (Str.ofString c) = some (.ref C)) (M : Mk K C f) (F : FnG P w K mg base (L2.CX P w) j f fd ps (spM K mg mi (N + 1))) (hb : BindW1 K fd ps n ks sel ds)
    (hd : Vals dvs ds) (hr : ∀ F ρ, RepL K mg F ρ dvs dds) (hs : selOk n dds.length ks.length sel = true) (hN : sel.length = N) : ClW P w K mg base j c n ks sel mi N dds :=
  ⟨fun vs ds zs h1 h2 h3 => by rw [← hN]; exact sel_len hs vs ds zs h1 h2 h3, C, f, fd, ps, ds, dvs, hm, M, F, hb, hd, hr⟩
end
end FL
namespace FL
open PySem PySem.Spec PyProof.Rows L2
def maxI : List Int → Int
  | [] => 0
  | n :: ns => ns.foldl max n
end FL
namespace FL
open PySem PySem.Spec PyProof.Rows L2
def BindsT (s : Shared) (fd : FuncData) (args : Args) (pre : List (Str × Value)) (pv : Str) (rest : List Value) : Prop :=
  ∀ (M : Model) (A : Around) (E : Value → Shared → Prop) (Q : List (Str × Value) → Shared → Prop), wpAny M A (newTuple rest >>= fun t => pure (pre ++ [(pv, t)])) Q E s → wpAny M A (bindArgs fd args) Q E s
theorem BindsT.of_eq {s : Shared} {fd : FuncData} {args : Args} {pre : List (Str × Value)} {pv : Str} {rest : List Value} (h : bindArgs fd args = (newTuple rest >>= fun t => pure (pre ++ [(pv, t)]))) : BindsT s fd args pre pv rest :=
  fun _ _ _ _ q => h ▸ q
end FL
namespace FL.LQ
open PySem PySem.SeqAt
open AutoSeq1 (wpAny_loadPart')
open MeetsSeq MeetsSeq2 MeetsSeq3 SeqRoads2
section
variable {prog : Program} {w : World} {A : Around} {R : Result → Shared → Prop}
theorem ne_loopG (l b : Addr) (N : Nat) (I : Nat → Shared → Prop) (hl : GQ.ListI prog w A (fun e s' => R (.error e) s') l b N I)
    (fin : ∀ s, I N s → R (.ok (.ret (.bool false))) s) (k : Nat) :
    ∀ i : Nat, N - i = k → i ≤ N → ∀ s, I i s →
      wpAny (model prog w) A.in1 (Builtin.«list.__eq__.loop» ⟨[.ref l, .ref b, rawInt i, rawInt 3], []⟩) (GQ.FinOf prog w A R) (fun e s' => R (.error e) s') s := by
  induction k with
  | zero =>
    intro i hk hi s h
    obtain ⟨items, items2, n, n2, hl1, hb1, hs1, hs2, _⟩ := hl _ _ h
    have hi' : i = N := by omega
    have hR : R (.ok (.ret (.bool false))) s := fin s (hi' ▸ h)
    obtain ⟨hp, g, d, tk, os⟩ := s
    wp_walk using wpAny_loadPart' hl1, wpAny_loadPart' hb1
    have hi1 : items[((i : Nat) : Int).toNat]? = none := by simp; omega
    have hi2 : items2[((i : Nat) : Int).toNat]? = none := by simp; omega
    rw [hi1, hi2]
    wp_walk using wpAny_loadPart' hl1, wpAny_loadPart' hb1
    show R (.ok (.ret (.bool (items.size != items2.size)))) _
    rw [hs1, hs2]
    simpa using hR
  | succ k ih =>
    intro i hk hi s h
    obtain ⟨items, items2, n, n2, hl1, hb1, hs1, hs2, turn⟩ := hl _ _ h
    have hlt : i < items.size := by omega
    have hlt2 : i < items2.size := by omega
    have ht := turn hlt hlt2
    obtain ⟨hp, g, d, tk, os⟩ := s
    wp_walk using wpAny_loadPart' hl1, wpAny_loadPart' hb1
    have hi1 : items[((i : Nat) : Int).toNat]? = some items[i] := by simp [hlt]
    have hi2 : items2[((i : Nat) : Int).toNat]? = some items2[i] := by simp [hlt2]
    have hc : ((i : Int) + 1) = ((i + 1 : Nat) : Int) := by omega
    rw [hi1, hi2]
    refine wpAny_bind (wpAny_mono ht (fun r s2 h2 => ?_) fun _ _ x => x)
    obtain ⟨hr, h2⟩ := h2
    subst hr
    have hrec := ih (i + 1) (by omega) (by omega) s2 h2
    obtain ⟨hp2, g2, d2, tk2, os2⟩ := s2
    wp_walk
    rw [hc]
    exact ⟨plainId_quiet plain_eq_loop _, codeAny_builtin entry_eq_loop (by
      rw [Around.under_plainId plain_eq_loop _]
      exact hrec)⟩
theorem list_neG (l b : Addr) (N : Nat) (I : Nat → Shared → Prop) (hl : GQ.ListI prog w A (fun e s' => R (.error e) s') l b N I)
    (fin : ∀ s, I N s → R (.ok (.ret (.bool false))) s) {s : Shared} (h : I 0 s) :
    wpAny (model prog w) A.in1 (Builtin.«list.__ne__» ⟨[.ref l, .ref b], []⟩) (GQ.FinOf prog w A R) (fun e s' => R (.error e) s') s := by
  obtain ⟨items, items2, n, n2, hl1, hb1, hs1, hs2, _⟩ := hl _ _ h
  have hrec := ne_loopG (A := A) (R := R) l b N I hl fin _ 0 rfl (Nat.zero_le _) s h
  obtain ⟨hp, g, d, tk, os⟩ := s
  have f3 := AutoSeq1.sub_list_list
  have hne : ¬ (items.size != items2.size) = true := by simp [hs1, hs2]
  wp_walk using wpAny_loadPart' hl1, wpAny_loadPart' hb1
  exact ⟨plainId_quiet plain_eq_loop _, codeAny_builtin entry_eq_loop (by
    rw [Around.under_plainId plain_eq_loop _]
    exact hrec)⟩
theorem list_len (neg : Bool) {l b : Addr} {items items2 : Array Value} {n n2 : Nat} {s : Shared} (h1 : s.heap.get? l = some { cls := .type "list", data := .seq items n }) (h2 : s.heap.get? b = some { cls := .type "list", data := .seq items2 n2 }) (hne : items.size ≠ items2.size)
    (h : R (.ok (.ret (.bool neg))) s) : wpAny (model prog w) A.in1 ((if neg then Builtin.«list.__ne__» else Builtin.«list.__eq__») ⟨[.ref l, .ref b], []⟩) (GQ.FinOf prog w A R) (fun e s' => R (.error e) s') s := by
  obtain ⟨hp, g, d, tk, os⟩ := s
  have f3 := AutoSeq1.sub_list_list
  have hne : (items.size != items2.size) = true := by simpa using hne
  cases neg with
  | false =>
    simp only [Bool.false_eq_true, if_false]
    wp_walk using wpAny_loadPart' h1, wpAny_loadPart' h2
    exact h
  | true =>
    simp only [if_true]
    wp_walk using wpAny_loadPart' h1, wpAny_loadPart' h2
    exact h
end
section
variable {prog : Program} {w : World} {A : Around} {E : Value → Shared → Prop} {s : Shared}
theorem nc_listG {l b : Addr} {N : Nat} {Q : Value → Shared → Prop} (hu : A.units < cLine) (I : Nat → Shared → Prop) (hl : GQ.ListI prog w A E l b N I)
    (fin : ∀ s, I N s → Q (.bool false) s) (h : I 0 s) : wpAny (model prog w) A (richCompare .NotEq (.ref l) (.ref b)) Q E s := by
  obtain ⟨items, items2, n, n2, hl1, hb1, _, _, _⟩ := hl _ _ h
  refine wpAny_richCompare_same_room (op := .NotEq) ⟨_, hl1, rfl⟩ ⟨_, hb1, rfl⟩ F.slot_list_ne (GQ.call_here F.slot_list_ne ⟨_, hl1, rfl⟩ F.entry_list_ne (F.args_list_ne_2 _ _) ?_) hu
  exact list_neG (R := wants (fun v s' => v ≠ .notImplemented ∧ Q v s') E) l b N I hl (fun s' q => ⟨(fun x => nomatch x), fin s' q⟩) h
theorem rc_len {l b : Addr} {items items2 : Array Value} {n n2 : Nat} {Q : Value → Shared → Prop} (hu : A.units < cLine) (h1 : s.heap.get? l = some { cls := .type "list", data := .seq items n }) (h2 : s.heap.get? b = some { cls := .type "list", data := .seq items2 n2 }) (hne : items.size ≠ items2.size)
    (h : Q (.bool false) s) : wpAny (model prog w) A (richCompare .Eq (.ref l) (.ref b)) Q E s := by
  refine wpAny_richCompare_same_room (op := .Eq) ⟨_, h1, rfl⟩ ⟨_, h2, rfl⟩ F.slot_list_eq (GQ.call_here F.slot_list_eq ⟨_, h1, rfl⟩ F.entry_list_eq (F.args_list_eq_2 _ _) ?_) hu
  exact list_len (R := wants (fun v s' => v ≠ .notImplemented ∧ Q v s') E) false h1 h2 hne ⟨(fun x => nomatch x), h⟩
theorem nc_len {l b : Addr} {items items2 : Array Value} {n n2 : Nat} {Q : Value → Shared → Prop} (hu : A.units < cLine) (h1 : s.heap.get? l = some { cls := .type "list", data := .seq items n }) (h2 : s.heap.get? b = some { cls := .type "list", data := .seq items2 n2 }) (hne : items.size ≠ items2.size)
    (h : Q (.bool true) s) : wpAny (model prog w) A (richCompare .NotEq (.ref l) (.ref b)) Q E s := by
  refine wpAny_richCompare_same_room (op := .NotEq) ⟨_, h1, rfl⟩ ⟨_, h2, rfl⟩ F.slot_list_ne (GQ.call_here F.slot_list_ne ⟨_, h1, rfl⟩ F.entry_list_ne (F.args_list_ne_2 _ _) ?_) hu
  exact list_len (R := wants (fun v s' => v ≠ .notImplemented ∧ Q v s') E) true h1 h2 hne ⟨(fun x => nomatch x), h⟩
end
end FL.LQ
namespace FL
open PySem PySem.Spec PyProof.Rows L2
def gLenEq (neg : Bool) : D → D → Option Slot
  | .lst xs, .lst ys => if xs.length ≠ ys.length then some (tb neg) else (match xs with
    | [] => some (tb (!neg))
    | _ => none)
  | _, _ => none
def gEqN (neg : Bool) : D → D → Option Slot := fun x y => (gEq neg x y).or (gLenEq neg x y)
def rLenE (neg : Bool) : R2 := fun x y H Q => ∃ p q xs ys, x = .ref p ∧ y = .ref q ∧ H p = some (.lst xs) ∧ H q = some (.lst ys) ∧ ((xs.length ≠ ys.length ∧ Q (.bl neg) H) ∨ (xs = [] ∧ ys = [] ∧ Q (.bl (!neg)) H))
section
variable {X : Cx}
theorem j_len2 (neg : Bool) : R2J X (rLenE neg) (gLenEq neg) := by
  intro Z F ρ μ δ σ H x y dx dy s Q S bx bY e q
  unfold gLenEq at e
  split at e
  · rename_i xs ys
    obtain ⟨p, vs, rfl, hp, rp⟩ := bx.lst S
    obtain ⟨p2, vs2, rfl, hp2, rp2⟩ := bY.lst S
    refine ⟨p, p2, vs, vs2, rfl, rfl, hp, hp2, ?_⟩
    by_cases h : xs.length ≠ ys.length
    · rw [if_pos h] at e
      cases e
      exact .inl ⟨by rw [rp.len, rp2.len]; exact h, q _ H F .refl S ⟨.bl, fun o p z => by cases z⟩⟩
    · rw [if_neg h] at e
      have h : xs.length = ys.length := Classical.not_not.mp h
      split at e
      · rename_i xs'
        cases e
        have h1 : vs = [] := List.eq_nil_of_length_eq_zero rp.len
        have h2 : vs2 = [] := List.eq_nil_of_length_eq_zero (by rw [rp2.len, ← h]; rfl)
        exact .inr ⟨h1, h2, q _ H F .refl S ⟨.bl, fun o p z => by cases z⟩⟩
      · cases e
  · cases e
theorem nilI {s : Shared} {H : Hp} {pins : List (Addr × Obj)} {σ : L2.St} {p q : Addr} {A : Around} {E : Value → Shared → Prop} (I : Inv X pins σ H s) (h1 : H p = some (.lst [])) (h2 : H q = some (.lst [])) : GQ.ListI X.prog X.w A E p q 0 (fun _ s' => s' = s) := by
  intro i s' hs
  subst hs
  obtain ⟨z, its, k, r, e⟩ := I.hok p _ h1
  obtain ⟨z2, its2, k2, r2, e2⟩ := I.hok q _ h2
  cases r
  cases r2
  exact ⟨_, _, k, k2, e, e2, rfl, rfl, fun h => absurd h (Nat.not_lt_zero _)⟩
theorem op_lenEq (hu : X.A.units + 64 < cLine) : OpR X (compareOp .Eq) (rLenE false) := by
  intro pins s σ H x y v u Q I rx ry h
  obtain ⟨p, q, xs, ys, rfl, rfl, h1, h2, h⟩ := h
  cases (show v = Value.ref p from rx)
  cases (show u = Value.ref q from ry)
  have hu0 : X.A.units < cLine := by omega
  show wpAny (model X.prog X.w) X.A (richCompare .Eq (.ref p) (.ref q)) (EP X pins σ Q) X.xe s
  rcases h with ⟨hn, k⟩ | ⟨rfl, rfl, k⟩
  · obtain ⟨z, its, kk, r, e⟩ := I.hok p _ h1
    obtain ⟨z2, its2, kk2, r2, e2⟩ := I.hok q _ h2
    exact LQ.rc_len hu0 e e2 (by rw [List.size_toArray, List.size_toArray, ← r.length, ← r2.length]; exact hn) ⟨.bl false, H, I, rfl, k⟩
  · exact GQ.rc_listG (N := 0) hu0 (fun _ s' => s' = s) (nilI I h1 h2) (fun s' e => by subst e; exact ⟨.bl true, H, I, rfl, k⟩) rfl
theorem op_lenNe (hu : X.A.units + 64 < cLine) : OpR X (compareOp .NotEq) (rLenE true) := by
  intro pins s σ H x y v u Q I rx ry h
  obtain ⟨p, q, xs, ys, rfl, rfl, h1, h2, h⟩ := h
  cases (show v = Value.ref p from rx)
  cases (show u = Value.ref q from ry)
  have hu0 : X.A.units < cLine := by omega
  show wpAny (model X.prog X.w) X.A (richCompare .NotEq (.ref p) (.ref q)) (EP X pins σ Q) X.xe s
  rcases h with ⟨hn, k⟩ | ⟨rfl, rfl, k⟩
  · obtain ⟨z, its, kk, r, e⟩ := I.hok p _ h1
    obtain ⟨z2, its2, kk2, r2, e2⟩ := I.hok q _ h2
    exact LQ.nc_len hu0 e e2 (by rw [List.size_toArray, List.size_toArray, ← r.length, ← r2.length]; exact hn) ⟨.bl true, H, I, rfl, k⟩
  · exact LQ.nc_listG (N := 0) hu0 (fun _ s' => s' = s) (nilI I h1 h2) (fun s' e => by subst e; exact ⟨.bl false, H, I, rfl, k⟩) rfl
theorem j_or2 {r r' : R2} {g g' : D → D → Option Slot} (h : R2J X r g) (h' : R2J X r' g') : R2J X (fun x y H Q => r x y H Q ∨ r' x y H Q) (fun x y => (g x y).or (g' x y)) := by
  intro Z F ρ μ δ σ H x y dx dy s Q S bx bY e q
  dsimp only at e
  cases e1 : g dx dy with
  | some s' =>
    rw [e1] at e
    cases e
    exact .inl (h Z F ρ μ δ σ H x y dx dy _ Q S bx bY e1 q)
  | none =>
    rw [e1] at e
    exact .inr (h' Z F ρ μ δ σ H x y dx dy s Q S bx bY e q)
end
section
variable {X : Cx} {W : WX} {k j : Nat} {N : List Str} {sc : Scope} {a b : Expr} {pos : Pos} {oa ob : Opn} {ma mb : ME}
theorem Cs.eqNT (C : Cs X W k N sc) (ha : JO X W a oa) (hb : JO X W b ob) : JT X W (.Compare a [.Eq] [b] pos) (mTb (m2 (gEqN false) oa ob)) := jt_cmp ((o_eq C.hu).or (op_lenEq C.hu)) (j_or2 j_eq (j_len2 false)) ha hb (nomark _)
theorem Cs.neNT (C : Cs X W k N sc) (ha : JO X W a oa) (hb : JO X W b ob) : JT X W (.Compare a [.NotEq] [b] pos) (mTb (m2 (gEqN true) oa ob)) := jt_cmp ((o_ne C.hu).or (op_lenNe C.hu)) (j_or2 j_ne (j_len2 true)) ha hb (nomark _)
end
end FL
namespace FL
open PySem PySem.Spec PyProof.Rows L2
inductive OutY where
  | nx (acc : List D) (δ : FL.Loc) (μ : Mem)
  | bad
abbrev MY := List D → FL.Loc → Mem → OutY
section
variable (X : Cx)
def FinY (Z F : Hp) (ρ : List Addr) (D : GEnds) : OutY → Prop
  | .nx acc δ μ => ∀ ys' σ' H' F' ρ', Le Z F F' → LeR Z ρ ρ' → Sim X.K X.mg Z F' ρ' μ δ σ' H' → RepL X.K X.mg F' ρ' ys' acc → D.nx ys' σ' H'
  | .bad => False
def rdY (m : MY) : TGn := fun D ys σ H => ∃ Z F ρ μ δ acc, Sim X.K X.mg Z F ρ μ δ σ H ∧ RepL X.K X.mg F ρ ys acc ∧ FinY X Z F ρ D (m acc δ μ)
end
theorem _root_.L2.GS.imp {X : Cx} {s : Stmt} {t t' : TGn} (h : GS X s t) (hi : ∀ D ys σ H, t' D ys σ H → t D ys σ H) : GS X s t' := ⟨fun A S ip R n ys s₀ c fs K J gd lv s σ H D a b k I q => h.run A S ip R n ys s₀ c fs K J gd lv s σ H D a b k I (hi D ys σ H q)⟩
theorem _root_.L2.GSs.imp {X : Cx} {s : List Stmt} {t t' : TGn} (h : GSs X s t) (hi : ∀ D ys σ H, t' D ys σ H → t D ys σ H) : GSs X s t' := ⟨fun A S ip R n ys s₀ c fs K J gd lv s σ H D a b k I q => h.run A S ip R n ys s₀ c fs K J gd lv s σ H D a b k I (hi D ys σ H q)⟩
section
variable {X : Cx} {W : WX} {Z F F1 : Hp} {ρ ρ1 : List Addr} {D : GEnds}
theorem FinY.mono {r : OutY} (h : FinY X Z F ρ D r) (l : Le Z F F1) (lr : LeR Z ρ ρ1) : FinY X Z F1 ρ1 D r := by
  cases r with
  | nx acc δ μ => exact fun ys' σ' H' F' ρ' l' lr' S r => h ys' σ' H' F' ρ' (l.trans l') (lr.trans lr') S r
  | bad => exact h
def gYl (m : ME) : MY := fun acc δ μ => match m δ μ with
  | .ok (.fr d) δ' μ' => if acc.length < 16777216 then .nx (acc ++ [d]) δ' μ' else .bad
  | _ => .bad
theorem gs_yl {e : Expr} {yp pos : Pos} {m : ME} (h : JE X W e m) (hco : X.env.scope.isCoroutine = false) (hi : interactive X.env = false := by rfl) : GS X (.Expr (.Yield (some e) yp) pos) (rdY X (gYl m)) := by
  refine (gs_yield h hco hi).imp fun D ys σ H ⟨Z, F, ρ, μ, δ, acc, S, r, q⟩ => ?_
  unfold gYl at q
  cases e1 : m δ μ with
  | bad => rw [e1] at q; exact q.elim
  | exc x δ' μ' => rw [e1] at q; exact q.elim
  | ok s δ' μ' =>
    rw [e1] at q
    cases s with
    | own o => exact q.elim
    | fr d =>
      dsimp only at q
      by_cases hz : acc.length < 16777216
      · rw [if_pos hz] at q
        refine ⟨by rw [r.len, line_eq]; exact hz, Z, F, ρ, μ, δ, S, ?_⟩
        rw [e1]
        exact fun H' F' ρ' l lr S' v hv => q (ys ++ [v]) σ H' F' ρ' l lr S' ((RepL.up l.to lr.to r).app (.cons hv.1 .nil))
      · rw [if_neg hz] at q; exact q.elim
end
end FL
namespace FL
open PySem PySem.Spec PyProof.Rows L2
def MthB (K : PySem.W.Frag) (mg : Str → Option Value) (cs : List String) (b f : Str) : Prop := ∀ c ∈ cs, ∀ C, mg (Str.ofString c) = some (.ref C) → Cls K C ∧ Meth K C f (fAdF K (b, some f))
theorem mthB_of {K : PySem.W.Frag} {h : Heap} {mg : Str → Option Value} {cs : List String} {b f : Str} (X : K.In h) (G : h.Ns mainGlobals mg) (t : tMths cs b f K = true) : MthB K mg cs b f := by
  intro c hc C hC
  obtain ⟨t1, t⟩ := Bool.and_eq_true_iff.mp t
  obtain ⟨t2, t⟩ := Bool.and_eq_true_iff.mp t
  obtain ⟨t3, t⟩ := Bool.and_eq_true_iff.mp (List.all_eq_true.mp t c hc)
  obtain ⟨t4, t5⟩ := Bool.and_eq_true_iff.mp t
  rw [He.glo_ok X G t3] at hC
  cases hC
  exact ⟨He.cls_ok t4, of_decide_eq_true t5, t1, t2⟩
section
variable {X : Cx} {W : WX} {k j : Nat} {N : List Str} {sc : Scope} {e o a b : Expr} {es : List Expr} {pos p apos pos' : Pos} {x : Str} {i : Nat}
theorem Cg.ov (C : Cg X W k N sc) (h : varC N sc i x = true) : JO X W (.Name x p) (.v i) := jo_v (C.var h)
theorem Cg.hu (C : Cg X W k N sc) : X.A.units + 64 < cLine := by
  have := C.rm.un
  omega
theorem Cg.neNT {oa ob : Opn} (C : Cg X W k N sc) (ha : JO X W a oa) (hb : JO X W b ob) : JT X W (.Compare a [.NotEq] [b] pos) (mTb (m2 (gEqN true) oa ob)) := jt_cmp ((o_ne C.hu).or (op_lenNe C.hu)) (j_or2 j_ne (j_len2 true)) ha hb (nomark _)
theorem Cg.yl {m : ME} {yp : Pos} (C : Cg X W k N sc) (h : JE X W e m) (hco : sc.isCoroutine = false) : GS X (.Expr (.Yield (some e) yp) pos) (rdY X (gYl m)) :=
  gs_yl h (by rw [C.hsc]; exact hco) C.hi
end
end FL
namespace FL
open PySem PySem.Spec PyProof.Rows L2
structure SMet (K : PySem.W.Frag) (C : Addr) (mc : Value) (m : Str) (p g : Addr) : Prop where
  rd : PySem.W.readsIn K C mc = true
  ga : PySem.W.specialIn K (.ref C) "__getattribute__" = some (some (.builtin "type.__getattribute__"))
  at_ : PySem.W.findCls K (.ref C) mc m = some (.get (.builtin "staticmethod.__get__") (.ref p) .none (.ref C))
  rc : ∃ rest, PySem.W.recIn K p "staticmethod" = some (.ref g :: rest)
  kp : PySem.W.keepIn K (.ref g) = true
section
variable {X : Cx} {W : WX} {k j n : Nat} {pins : List (Addr × Obj)} {σ : L2.St} {H : Hp} {s : Shared} {C p0 g : Addr} {mc : Value} {m c : Str} {A : Around} {E' : Value → Shared → Prop} {N : List Str} {sc : Scope} {e : Expr} {es : List Expr} {pos p apos : Pos}
structure SmR (P : Program) (w : World) (K : PySem.W.Frag) (mg : Str → Option Value) (base : Heap) (j : Nat) (c m : Str) (mf : MF) (n : Nat) : Prop where
  ex : ∃ (C p g : Addr) (mc : Value) (fd : FuncData) (ps : List Str), mg c = some (.ref C) ∧ SMet K C mc m p g ∧ FnG P w K mg base (L2.CX P w) j g fd ps (spM K mg mf n) ∧ Binds K fd ps []
end
end FL
namespace FL
open PySem PySem.Spec PyProof.Rows L2
def methT1 (c f : String) (n : Nat) (m : MF) : String → String → Nat → Option MF := fun c' f' n' => if c' = c ∧ f' = f ∧ n' = n then some m else none
@[simp] theorem methT1_at {c f : String} {n : Nat} {m : MF} : methT1 c f n m c f n = some m := if_pos ⟨rfl, rfl, rfl⟩
section
variable {P : Program} {w : World} {K : PySem.W.Frag} {mg : Str → Option Value} {base : Heap} {j : Nat} {c f : String} {n : Nat} {m : MF} {fd : FuncData} {ps : List Str}
theorem methR_of (B : MthB K mg [c] (Str.ofString c) (Str.ofString f)) (F : FnG P w K mg base (L2.CX P w) j (fAdF K (pM c f)) fd ps (spM K mg m (n + 1))) (hb : Binds K fd ps []) : MethR P w K mg base j (methT1 c f n m) := by
  intro c' f' n' m' h C hC
  unfold methT1 at h
  by_cases hc : c' = c ∧ f' = f ∧ n' = n
  · rw [if_pos hc] at h
    cases h
    obtain ⟨rfl, rfl, rfl⟩ := hc
    obtain ⟨cl, me⟩ := B c' (by simp) C hC
    exact ⟨cl, _, fd, ps, [], [], [], m, n' + 1, me, F, hb, .nil, fun _ _ => .nil, rfl, fun ds μ => by rw [List.append_nil]⟩
  · rw [if_neg hc] at h
    cases h
theorem MethR.up {i : Nat} {mt : String → String → Nat → Option MF} (h : MethR P w K mg base i mt) (hij : i ≤ j) : MethR P w K mg base j mt := by
  intro c f n m e C hC
  obtain ⟨cl, g, fd, ps, ds, dvs, dds, m', N, h1, h2, h3⟩ := h c f n m e C hC
  exact ⟨cl, g, fd, ps, ds, dvs, dds, m', N, h1, h2.mono hij, h3⟩
structure StB (K : PySem.W.Frag) (mg : Str → Option Value) (c f : String) : Prop where
  ex : ∃ (C p : Addr) (mc : Value), mg (Str.ofString c) = some (.ref C) ∧ SMet K C mc (Str.ofString f) p (fAdF K (pM c f))
theorem StB.sm (B : StB K mg c f) (F : FnG P w K mg base (L2.CX P w) j (fAdF K (pM c f)) fd ps (spM K mg m n)) (hb : Binds K fd ps []) : SmR P w K mg base j (Str.ofString c) (Str.ofString f) m n := by
  obtain ⟨C, p, mc, h1, h2⟩ := B.ex
  exact ⟨C, p, _, mc, fd, ps, h1, h2, F, hb⟩
end
section
variable {X : Cx} {W : WX} {k j n N : Nat} {nm : List Str} {sc : Scope} {e o : Expr} {es : List Expr} {kws : List Keyword} {pos p apos pos' tpos : Pos} {m mi : MF} {ms mks : List ME} {c : String} {ks : List Str} {sel : List Sel} {dds : List D} {at_ : String → String → Att} {f : String}
theorem clS (Cc : Cs X W k nm sc) (V : ClW X.prog X.w X.K X.mg X.base j c n ks sel mi N dds) (hjk : j + 1 ≤ k) (hg : glC sc (Str.ofString c) = true) (ha : JA X W (e :: es) ms) (hkw : JK X W kws mks) (h1 : ms.length = n) (h2 : mks.length = ks.length)
    (hall : (backToKw pos (keywordEach kws X.env)).all (·.1.isSome) = true := by rfl) (hks : (backToKw pos (keywordEach kws X.env)).filterMap (·.1) = ks := by rfl)
    (he : starEach (e :: es) X.env = (false, eval e X.env) :: starEach es X.env := by rfl) (hpl : ((backTo pos (starEach (e :: es) X.env)).any (·.1) || (backToKw pos (keywordEach kws X.env)).any (·.1.isNone)) = false := by rfl) :
    JE X W (.Call (.Name (Str.ofString c) p) (e :: es) kws pos) (mCallK (mkS c mi) sel ms mks dds) :=
  let ⟨_, hm, F⟩ := V.callS
  je_callW Cc F hm hjk hg ha hkw h1 h2 hall hks he hpl
theorem Fd.bind1 {K : PySem.W.Frag} {x qual : Str} {st : Stmt} {f : Addr} {fd : FuncData} (F : Fd K x qual st f fd .none) {ps ks : List Str} {n : Nat} {sel : List Sel} {dw : List Value}
    (h : ∀ (kV doc pm : Value) (an : Option Addr) (cdv ct : Value), BindW1 K (PySem.W.fnOf x qual (defArgs st) (defBody st) (defScope st) .none kV doc pm an cdv ct) ps n ks sel dw) : BindW1 K fd ps n ks sel dw := by
  obtain ⟨oc, od, kV, doc, pm, an, cdv, ct, osl, rfl, lk, hcd⟩ := F.ex
  exact h _ _ _ _ _ _
end
end FL
namespace FL
open PySem
theorem NF.cons {k h g l c p kp} {fs : List Frame} : NF (.ret k h g l c p kp :: fs) ↔ NF fs := by
  simp [NF, splitAtGen]
theorem NF.app : ∀ {fs gs : List Frame}, NF fs → NF gs → NF (fs ++ gs)
  | [], _, _, h => h
  | .ret _ _ _ _ _ _ _ :: fs, gs, a, b => NF.cons.mpr (NF.app (NF.cons.mp a) b)
  | .gen _ _ _ _ _ :: fs, gs, a, _ => by simp [NF, splitAtGen] at a
def NE : End → Prop
  | .susp _ _ _ _ _ _ fs => NF fs
  | _ => True
theorem NE.gs {e : End} (h : NE e) : NG e.genState := by
  cases e with
  | ret _ => trivial
  | susp _ _ _ _ _ _ fs => exact h
theorem Keep.refl {a b : Array GenState} : Keep a a b b := fun _ _ _ h1 h2 _ => ⟨h1, h2⟩
theorem Rel.push {a b : Array GenState} {c : Code} (h : Rel a b) : Rel (a.push (.fresh c)) (b.push (.fresh c)) := by
  refine ⟨by simp [h.1], fun i x y h1 h2 => ?_⟩
  rw [Array.getElem?_push] at h1 h2
  rw [h.1] at h1
  by_cases e : i = b.size
  · rw [if_pos e] at h1 h2
    injection h1 with h1
    injection h2 with h2
    exact .inl ⟨h1.symm.trans h2, by rw [← h1]; trivial⟩
  · rw [if_neg e] at h1 h2
    exact h.2 i x y h1 h2
theorem Keep.push {a b : Array GenState} {c : Code} (h : Rel a b) : Keep a (a.push (.fresh c)) b (b.push (.fresh c)) := fun i x y h1 h2 _ => by
  have ha := (Array.getElem?_eq_some_iff.mp h1).1
  have hb := (Array.getElem?_eq_some_iff.mp h2).1
  rw [Array.getElem?_push, Array.getElem?_push, if_neg (by omega), if_neg (by omega)]
  exact ⟨h1, h2⟩
theorem Rel.at {a b : Array GenState} (h : Rel a b) {g : Nat} {x : GenState} (hx : a[g]? = some x) : ∃ y, b[g]? = some y ∧ ((x = y ∧ NG x) ∨ Poi x y) := by
  have ha := (Array.getElem?_eq_some_iff.mp hx).1
  have hb : g < b.size := h.1 ▸ ha
  exact ⟨b[g], Array.getElem?_eq_getElem hb, h.2 g x _ hx (Array.getElem?_eq_getElem hb)⟩
end FL
namespace FL
open PySem
open Sem (wp)
def Sg (M : Model) (A : Around) (Φ : End → Shared → Prop) (c : Code) (t : Sem PySem.Fin) (fs : List Frame) (s : Shared) : Prop :=
  ∀ Γ p, Γ.code = c → Γ.Woken A → ∃ e s', Runs M Γ p t fs s e s' ∧ Φ e s'
end FL
namespace FL
open PySem PySem.Spec PyProof.Rows L2
def Slp (a b : Array GenState) : Prop := ∀ (i : Nat) k l c p fs cl, a[i]? = some (.suspended k l c p fs cl) → b[i]? = some (.suspended k l c p fs cl)
end FL
namespace FL
open PySem PySem.Spec PyProof.Rows L2
def below (h : Heap) (L : Addr) : Heap := { h with objs := h.objs.extract 0 L }
theorem get_iff {h : Heap} {b : Addr} {o : Obj} : h.get? b = some o ↔ h.objs[b]? = some o ∧ o.isFreed = false := Heap.get?_some_iff
theorem below_of {h : Heap} {L b : Addr} {o : Obj} (e : (below h L).get? b = some o) : b < L ∧ h.get? b = some o := by
  rw [get_iff] at e
  obtain ⟨e1, e2⟩ := e
  have e3 : (h.objs.extract 0 L)[b]? = some o := e1
  have hb : b < (h.objs.extract 0 L).size := (Array.getElem?_eq_some_iff.mp e3).1
  rw [Array.size_extract, Nat.sub_zero] at hb
  have hb2 : b < L := Nat.lt_of_lt_of_le hb (Nat.min_le_left _ _)
  rw [Array.getElem?_extract, if_pos (by rw [Nat.sub_zero]; exact hb), Nat.zero_add] at e3
  exact ⟨hb2, get_iff.mpr ⟨e3, e2⟩⟩
theorem below_to {h : Heap} {L b : Addr} {o : Obj} (e : h.get? b = some o) (hb : b < L) : (below h L).get? b = some o := by
  rw [get_iff] at e ⊢
  obtain ⟨e1, e2⟩ := e
  refine ⟨?_, e2⟩
  have hs : b < h.objs.size := (Array.getElem?_eq_some_iff.mp e1).1
  show (h.objs.extract 0 L)[b]? = some o
  rw [Array.getElem?_extract, if_pos (by rw [Nat.sub_zero]; exact Nat.lt_min.mpr ⟨hb, hs⟩), Nat.zero_add]
  exact e1
theorem below_size {h : Heap} {L : Addr} (hL : L ≤ h.objs.size) : (below h L).objs.size = L := by
  show (h.objs.extract 0 L).size = L
  rw [Array.size_extract, Nat.sub_zero]
  exact Nat.min_eq_left hL
def cutH (h : Heap) (L : Addr) (hs : List Addr) : Heap := PySem.W.hideAll (below h L) hs
theorem cut_of {h : Heap} {L b : Addr} {hs : List Addr} {o : Obj} (e : (cutH h L hs).get? b = some o) : b < L ∧ b ∉ hs ∧ h.get? b = some o := by
  obtain ⟨e1, e2⟩ := below_of (PySem.W.of_hideAll hs e)
  refine ⟨e1, fun hm => ?_, e2⟩
  rw [show (cutH h L hs).get? b = none from PySem.W.hideAll_none hs hm] at e
  cases e
theorem cut_to {h : Heap} {L b : Addr} {hs : List Addr} {o : Obj} (e : h.get? b = some o) (hb : b < L) (hn : b ∉ hs) : (cutH h L hs).get? b = some o := PySem.W.hideAll_get hs (below_to e hb) hn
theorem cut_size {h : Heap} {L : Addr} {hs : List Addr} (hL : L ≤ h.objs.size) : (cutH h L hs).objs.size = L := (PySem.W.hideAll_size _ _).trans (below_size hL)
theorem cut_frames {h base : Heap} {L : Addr} {hs : List Addr} : ∀ {l : List Env}, (∀ b ∈ frs l, b < L ∧ b ∉ hs) → h.FunFrames base l → (cutH h L hs).FunFrames base l
  | [], _, _ => trivial
  | env :: l, hb, hf => by
    obtain ⟨k, ⟨a, o, e1, e2, e3, e4⟩, r⟩ := hf
    have ha : a ∈ frs (env :: l) := by unfold frs; rw [List.filterMap_cons, e1]; exact List.mem_cons_self
    refine ⟨k, ⟨a, o, e1, e2, cut_to e3 (hb a ha).1 (hb a ha).2, e4⟩, cut_frames (fun b hm => hb b ?_) r⟩
    unfold frs at hm ⊢
    rw [List.filterMap_cons, e1]
    exact List.mem_cons_of_mem _ hm
structure GD where
  P : Program
  w : World
  K : PySem.W.Frag
  mg : Str → Option Value
  base : Heap
  N : List Str
  env : Env
  l : List Env
  A : Around
def GD.X (G : GD) (s0 : Shared) (H0 : Hp) : Cx where
  prog := G.P
  w := G.w
  K := G.K
  mg := G.mg
  base := G.base
  A := G.A.deeper G.env
  N := G.N
  s_0 := s0
  H_0 := H0
  env := G.env
  outer := G.l
  stack := G.env :: G.l
  ex := []
  fn := fun _ => true
  calm := true
  pn := []
  xe := fun _ _ => False
structure GD.Ok (G : GD) : Prop where
  kind : G.env.scope.kind = .function
  glob : G.env.globals = mainGlobals
  blt : G.env.builtins = builtinsNs
  cells : ∀ x c, G.env.cells.lookup x ≠ some c
  nocell : ∀ x, G.env.kindOf x ≠ some .cell ∧ G.env.kindOf x ≠ some .free
  frame : G.env.frame = some G.env.locals
  bl : G.base.objs.size ≤ G.env.locals
  frl : ∀ b ∈ frs G.l, b < G.env.locals
  hd : G.A.handled = none
def LsOnly (δ : Loc) : Prop := ∀ (i : Nat) o, δ[i]? = some (some (.own o)) → ∃ ds, o = .lst ds
structure Pk (G : GD) (F : Hp) (ρ : List Addr) (δ : Loc) (σ : L2.St) (lk : Addr → Option (List V)) (hs : List Addr) (h : Heap) : Prop where
  len : σ.length = δ.length
  lenN : σ.length = G.N.length
  fr : ∀ (i : Nat) d, δ[i]? = some (some (.fr d)) → ∃ v, σ[i]? = some (some v) ∧ Rep G.K G.mg F ρ v d
  own : ∀ (i : Nat) o, δ[i]? = some (some (.own o)) → ∃ p ds vs, o = .lst ds ∧ σ[i]? = some (some (.ref p)) ∧ lk p = some vs ∧ RepL G.K G.mg F ρ vs ds
  apart : ∀ (i j : Nat) p s s', δ[i]? = some (some (.own s)) → δ[j]? = some (some (.own s')) → σ[i]? = some (some (.ref p)) → σ[j]? = some (some (.ref p)) → i = j
  lks : ∀ p vs, lk p = some vs → p ∈ hs ∧ vs.length ≤ sizeLine ∧ ∃ its n, Vals vs its ∧ h.get? p = some { cls := .type "list", data := .seq its.toArray n }
  hsk : ∀ p ∈ hs, p ≠ G.env.locals ∧ G.base.get? p = none ∧ p ∉ frs G.l ∧ ∃ vs, lk p = some vs
  loc : ∃ m, h.Ns G.env.locals m ∧ ∀ (i : Nat) (x : Str) (v : V), G.N[i]? = some x → σ[i]? = some (some v) → Vis G.env.scope x → ∃ u, RelV v u ∧ Look G.env h m x u
section
variable {G : GD} {F F' : Hp} {ρ ρ' : List Addr} {δ : Loc} {σ : L2.St} {lk : Addr → Option (List V)} {hs : List Addr} {h h' : Heap}
theorem look_to (OK : G.Ok) {m : Str → Option Value} {x : Str} {u : Value} (q : Look G.env h m x u) : Look G.env h' m x u := by
  rcases q with q | ⟨_, c, e, _⟩
  · exact .inl q
  · exact absurd e (OK.cells x c)
theorem Pk.stay (OK : G.Ok) (k : Pk G F ρ δ σ lk hs h) (l : ∀ p o, F p = some o → F' p = some o) (lr : ∀ (k : Nat) p, ρ[k]? = some p → ρ'[k]? = some p) (hk : ∀ b ∈ G.env.locals :: hs, ∀ o, h.get? b = some o → h'.get? b = some o) : Pk G F' ρ' δ σ lk hs h' := by
  refine ⟨k.len, k.lenN, fun i d e => ?_, fun i o e => ?_, k.apart, fun p vs e => ?_, k.hsk, ?_⟩
  · obtain ⟨v, e1, r⟩ := k.fr i d e
    exact ⟨v, e1, Rep.up l lr r⟩
  · obtain ⟨p, ds, vs, e1, e2, e3, r⟩ := k.own i o e
    exact ⟨p, ds, vs, e1, e2, e3, RepL.up l lr r⟩
  · obtain ⟨e1, e2, its, n, e3, e4⟩ := k.lks p vs e
    exact ⟨e1, e2, its, n, e3, hk p (List.mem_cons_of_mem _ e1) _ e4⟩
  · obtain ⟨m, hn, q⟩ := k.loc
    refine ⟨m, hn.at' fun o e => hk _ List.mem_cons_self o e, fun i x v e1 e2 e3 => ?_⟩
    obtain ⟨u, r, z⟩ := q i x v e1 e2 e3
    exact ⟨u, r, look_to OK z⟩
end
def Ext (G : GD) (h : Heap) (lk : Addr → Option (List V)) (H : Hp) (p : Addr) : Prop := G.env.locals < p ∧ lk p = none ∧ H p = none ∧ ∃ o, h.get? p = some o
def extO (h : Heap) (p : Addr) : HO := .ext fun h' => ∀ o, h.get? p = some o → h'.get? p = some o
section
variable (G : GD) (h : Heap) (lk : Addr → Option (List V)) (Z F H : Hp) (ρ : List Addr)
open Classical in
noncomputable def hgW : Hp := fun p => match lk p with
  | some vs => some (.lst vs)
  | none => if Ext G h lk H p then some (extO h p) else H p
def isFrz : Option HO → Bool
  | some (.frz _ _) => true
  | _ => false
open Classical in
noncomputable def zW : Hp := fun p => if (lk p).isSome = true then none else if Ext G h lk H p then some (extO h p) else if isFrz (H p) = true then H p else if p ∈ ρ ∨ (F p).isSome = true then Z p else H p
end
section
variable {G : GD} {h : Heap} {lk : Addr → Option (List V)} {Z F H : Hp} {ρ : List Addr} {p : Addr}
theorem hg_lk {vs : List V} (e : lk p = some vs) : hgW G h lk H p = some (.lst vs) := by unfold hgW; rw [e]
theorem hg_ext (e : Ext G h lk H p) : hgW G h lk H p = some (extO h p) := by
  unfold hgW
  rw [e.2.1]
  exact if_pos e
theorem hg_else (e : lk p = none) (n : ¬ Ext G h lk H p) : hgW G h lk H p = H p := by
  unfold hgW
  rw [e]
  exact if_neg n
theorem hg_some (e : lk p = none) {u : HO} (n : H p = some u) : hgW G h lk H p = some u := by
  rw [hg_else e fun x => by rw [x.2.2.1] at n; cases n]
  exact n
theorem zw_lk {vs : List V} (e : lk p = some vs) : zW G h lk Z F H ρ p = none := by unfold zW; rw [if_pos (by rw [e]; rfl)]
theorem zw_ext (e : Ext G h lk H p) : zW G h lk Z F H ρ p = some (extO h p) := by
  unfold zW
  rw [if_neg (by rw [e.2.1]; exact Bool.false_ne_true), if_pos e]
theorem zw_known (e : lk p = none) (n : ¬ Ext G h lk H p) (nf : isFrz (H p) = false) (k : p ∈ ρ ∨ (F p).isSome = true) : zW G h lk Z F H ρ p = Z p := by
  unfold zW
  rw [if_neg (by rw [e]; exact Bool.false_ne_true), if_neg n, if_neg (by rw [nf]; exact Bool.false_ne_true), if_pos k]
theorem zw_else (e : lk p = none) (n : ¬ Ext G h lk H p) (k : ¬ (p ∈ ρ ∨ (F p).isSome = true)) : zW G h lk Z F H ρ p = H p := by
  unfold zW
  rw [if_neg (by rw [e]; exact Bool.false_ne_true), if_neg n]
  split
  · rfl
  · rfl
end
structure Wk (G : GD) (Z F : Hp) (ρ : List Addr) (μ : Mem) (H : Hp) (δ : Loc) (σ : L2.St) (lk : Addr → Option (List V)) (hs : List Addr) (s : Shared) : Prop where
  e0 : Env0 G.P G.w G.K G.mg G.base G.A G.l s H
  sim : Sim G.K G.mg Z F ρ μ [] [] H
  pk : Pk G F ρ δ σ lk hs s.heap
  hL : H G.env.locals = none
  hh : ∀ p ∈ hs, H p = none
  tabs : ∀ P q, Own.tab P q ∈ μ → P < G.env.locals
def sW (G : GD) (hs : List Addr) (s : Shared) : Shared := { s with heap := cutH s.heap G.env.locals hs }
open Classical in
noncomputable def h0W (G : GD) (hs : List Addr) (H : Hp) : Hp := fun p => if p < G.env.locals ∧ p ∉ hs then H p else none
section
variable {G : GD} {Z F H : Hp} {ρ : List Addr} {μ : Mem} {δ : Loc} {σ : L2.St} {lk : Addr → Option (List V)} {hs : List Addr} {s : Shared}
theorem h0_none {p : Addr} (n : H p = none) : h0W G hs H p = none := by
  unfold h0W
  split
  · exact n
  · rfl
theorem h0_some {p : Addr} {u : HO} (e : h0W G hs H p = some u) : p < G.env.locals ∧ p ∉ hs ∧ H p = some u := by
  unfold h0W at e
  split at e
  · rename_i c
    exact ⟨c.1, c.2, e⟩
  · cases e
theorem h0_at {p : Addr} (hp : p < G.env.locals) (hn : p ∉ hs) : h0W G hs H p = H p := by unfold h0W; rw [if_pos ⟨hp, hn⟩]
theorem Wk.lk_none (k : Wk G Z F ρ μ H δ σ lk hs s) {p : Addr} (hp : p ∉ hs) : lk p = none := by
  cases e : lk p with
  | none => rfl
  | some vs => exact absurd (k.pk.lks p vs e).1 hp
theorem Wk.lk_of (k : Wk G Z F ρ μ H δ σ lk hs s) {p : Addr} {u : HO} (e : H p = some u) : p ∉ hs ∧ lk p = none := by
  have hp : p ∉ hs := fun hm => by rw [k.hh p hm] at e; cases e
  exact ⟨hp, k.lk_none hp⟩
theorem Wk.lt (k : Wk G Z F ρ μ H δ σ lk hs s) : G.env.locals < s.heap.objs.size := let ⟨_, hn, _⟩ := k.pk.loc; hn.lt
theorem Wk.frn (OK : G.Ok) (k : Wk G Z F ρ μ H δ σ lk hs s) : ∀ b ∈ frs G.l, b < G.env.locals ∧ b ∉ hs := fun b hb => ⟨OK.frl b hb, fun hm => (k.pk.hsk b hm).2.2.1 hb⟩
theorem Wk.bsn (OK : G.Ok) (k : Wk G Z F ρ μ H δ σ lk hs s) {b : Addr} {o : Obj} (e : G.base.get? b = some o) : b < G.env.locals ∧ b ∉ hs := ⟨Nat.lt_of_lt_of_le (Heap.lt_size e) OK.bl, fun hm => by rw [(k.pk.hsk b hm).2.1] at e; cases e⟩
theorem own_kind {K : PySem.W.Frag} {mg : Str → Option Value} {c : Own} {p : Addr} {u : HO} (r : OwnR K mg F ρ H p c) (e : H p = some u) : (∀ xs, u ≠ .tup xs) ∧ (∀ o v, u ≠ .frz o v) ∧ (∀ ps, u = .tbl ps → ∃ q, c = .tab p q) ∧ (∀ φ, u ≠ .ext φ) := by
  cases c with
  | lst ds => obtain ⟨vs, h, _⟩ := r; rw [e] at h; cases h; exact ⟨fun _ z => (by cases z), fun _ _ z => (by cases z), fun _ z => (by cases z), fun _ z => (by cases z)⟩
  | dct ks ds => obtain ⟨vs, h, _⟩ := r; rw [e] at h; cases h; exact ⟨fun _ z => (by cases z), fun _ _ z => (by cases z), fun _ z => (by cases z), fun _ z => (by cases z)⟩
  | ins c kd ks ds => obtain ⟨C, dx, vs, _, _, h, _⟩ := r; rw [e] at h; cases h; exact ⟨fun _ z => (by cases z), fun _ _ z => (by cases z), fun _ z => (by cases z), fun _ z => (by cases z)⟩
  | idc k => obtain ⟨q, _, h⟩ := r; rw [e] at h; cases h; exact ⟨fun _ z => (by cases z), fun _ _ z => (by cases z), fun _ z => (by cases z), fun _ z => (by cases z)⟩
  | tab P q => obtain ⟨e0, ps, h, _⟩ := r; subst e0; rw [e] at h; cases h; exact ⟨fun _ z => (by cases z), fun _ _ z => (by cases z), fun _ _ => ⟨q, rfl⟩, fun _ z => (by cases z)⟩
theorem Wk.z_hg (k : Wk G Z F ρ μ H δ σ lk hs s) {p : Addr} {o : HO} (e : zW G s.heap lk Z F H ρ p = some o) : hgW G s.heap lk H p = some o := by
  cases hl : lk p with
  | some vs => rw [zw_lk hl] at e; cases e
  | none =>
    by_cases hx : Ext G s.heap lk H p
    · rw [zw_ext hx] at e; rw [hg_ext hx]; exact e
    · rw [hg_else hl hx]
      by_cases hf : isFrz (H p) = true
      · unfold zW at e
        rw [if_neg (by rw [hl]; exact Bool.false_ne_true), if_neg hx, if_pos hf] at e
        exact e
      · by_cases hk : p ∈ ρ ∨ (F p).isSome = true
        · rw [zw_known hl hx (by simpa using hf) hk] at e
          exact k.sim.zk p o e
        · rw [zw_else hl hx hk] at e
          exact e
theorem wake_in (OK : G.Ok) (k : Wk G Z F ρ μ H δ σ lk hs s) :
    Inv (G.X (sW G hs s) (h0W G hs H)) [] σ (hgW G s.heap lk H) s ∧ Sim G.K G.mg (zW G s.heap lk Z F H ρ) F ρ μ δ σ (hgW G s.heap lk H) := by
  have hLs := k.lt
  have hsz : (cutH s.heap G.env.locals hs).objs.size = G.env.locals := cut_size (Nat.le_of_lt hLs)
  have lkL : lk G.env.locals = none := k.lk_none fun hm => (k.pk.hsk _ hm).1 rfl
  have hgL : hgW G s.heap lk H G.env.locals = none := by
    rw [hg_else lkL fun x => absurd x.1 (Nat.lt_irrefl _)]
    exact k.hL
  constructor
  · refine ⟨⟨k.e0.mod, OK.kind, OK.glob, OK.blt, Nat.le_of_eq hsz, fun x y c e => absurd e (OK.cells x c), fun x hx => ?_, fun x c _ e => absurd e (OK.cells x c), fun _ => OK.hd, Around.frames_deeper k.e0.frames, .inr ⟨rfl, OK.frame⟩, fun b hb => absurd (show b ∈ ([] : List Addr) from hb) (by simp),
      fun b o e => ?_, ?_, fun b o _ hb => absurd (show b ∈ ([] : List Addr) from hb) (by simp), fun b hb => absurd (show b ∈ ([] : List Addr) from hb) (by simp), cut_frames (k.frn OK) k.e0.funs, fun b hb => h0_none (k.e0.frf b hb)⟩,
      rfl, k.e0.bare, ⟨fun b o e _ _ _ => (cut_of e).2.2, fun b o e _ _ _ => ⟨o.slots, (cut_of e).2.2⟩, fun b o e n _ => ?_, fun b o e _ => ⟨o, (cut_of e).2.2⟩, fun b xs e => ?_, fun b o u e => ?_, fun b ps e => ?_⟩,
      k.pk.loc, fun x c e => absurd e (OK.cells x c), hgL, fun x c e => absurd e (OK.cells x c), fun p hp => absurd (show p ∈ ([] : List (Addr × Obj)) ++ [] from hp) (by simp), fun p o e => ?_, k.pk.lenN⟩
    · rcases hx with hx | hx
      · exact absurd hx (OK.nocell x).1
      · exact absurd hx (OK.nocell x).2
    · obtain ⟨h1, h2⟩ := k.bsn OK e
      obtain ⟨e1, e2⟩ := k.e0.bs b o e
      exact ⟨cut_to e1 h1 h2, h0_none e2⟩
    · show _ ≤ (cutH s.heap G.env.locals hs).objs.size
      rw [hsz]; exact OK.bl
    · obtain ⟨h1, h2, h3⟩ := cut_of e
      rw [hg_else (k.lk_none h2) fun x => absurd x.1 (Nat.not_lt.mpr (Nat.le_of_lt h1))]
      have n' : h0W G hs H b = none := n
      rw [h0_at h1 h2] at n'
      exact n'
    · obtain ⟨h1, h2, h3⟩ := h0_some e
      exact hg_some (k.lk_none h2) h3
    · obtain ⟨h1, h2, h3⟩ := h0_some e
      exact hg_some (k.lk_none h2) h3
    · obtain ⟨h1, h2, h3⟩ := h0_some e
      exact ⟨#[], by rw [hg_some (k.lk_none h2) h3]; simp⟩
    · cases hl : lk p with
      | some vs =>
        rw [hg_lk hl] at e; cases e
        obtain ⟨_, z, its, n, r, q⟩ := k.pk.lks p vs hl
        exact ⟨z, its, n, r, q⟩
      | none =>
        by_cases hx : Ext G s.heap lk H p
        · rw [hg_ext hx] at e; cases e
          exact ⟨fun _ q => q, hx.2.2.2, fun h1 h2 z q o hp => q o (z o hp)⟩
        · rw [hg_else hl hx] at e
          exact (k.e0.hok p o e).stay (fun b u _ q => q) (fun b q => hg_some (k.lk_of q).2 q) fun b xs q => hg_some (k.lk_of q).2 q
  · refine ⟨fun p o e => ?_, fun p o e => k.z_hg e, k.pk.len, fun i t e => ?_, k.pk.apart, fun j c e => ?_, k.sim.mlen, k.sim.nod⟩
    · rcases k.sim.le p o e with q | ⟨ob, kvs, e1, q⟩
      · exact .inl (hg_some (k.lk_of q).2 q)
      · exact .inr ⟨ob, kvs, e1, hg_some (k.lk_of q).2 q⟩
    · cases t with
      | fr d =>
        obtain ⟨v, e1, r⟩ := k.pk.fr i d e
        exact ⟨v, e1, r⟩
      | own o =>
        obtain ⟨p, ds, vs, rfl, e2, e3, r⟩ := k.pk.own i o e
        obtain ⟨f1, f2, f3, _⟩ := k.sim.notIn (k.hh p (k.pk.lks p vs e3).1)
        exact ⟨.ref p, e2, p, rfl, ⟨f1, zw_lk e3, f3⟩, vs, hg_lk e3, r⟩
    · obtain ⟨a, e1, e2, e3, r⟩ := k.sim.mem j c e
      obtain ⟨u, eu⟩ := r.some
      have hl := (k.lk_of eu).2
      have nx : ¬ Ext G s.heap lk H a := fun x => by rw [x.2.2.1] at eu; cases eu
      have nf : isFrz (H a) = false := by
        cases hf : isFrz (H a) with
        | false => rfl
        | true =>
          rw [eu] at hf
          cases u with
          | frz o v => exact absurd rfl ((own_kind r eu).2.1 o v)
          | _ => cases hf
      refine ⟨a, e1, e2, by rw [zw_known hl nx nf (.inl (List.mem_of_getElem? e1))]; exact e3, r.up (fun _ _ h => h) (fun _ _ h => h) ?_⟩
      rw [hg_some hl eu, eu]
end
structure Slt (G : GD) (Z F : Hp) (ρ : List Addr) (μ : Mem) (H : Hp) (hs : List Addr) (s : Shared) (F' : Hp) (ρ' : List Addr) (H2 : Hp) (s1 : Shared) : Prop where
  os : s1.os = s.os
  bare : AllBare s1.gens
  un : Un (frs G.l) (G.env.locals :: hs) H H2 s.heap s1.heap
  hok : HOk G.P G.w H2 s1.heap
  sim : Sim G.K G.mg Z F' ρ' μ [] [] H2
  le : Le Z F F'
  leR : LeR Z ρ ρ'
  hL : H2 G.env.locals = none
end FL
namespace FL
open PySem PySem.Spec PyProof.Rows L2
structure GB where
  pre : List Stmt
  test : Expr
  ba : List Stmt
  ye : Expr
  yp : Pos
  ypos : Pos
  bb : List Stmt
  wpos : Pos
def GB.turn (B : GB) : List Stmt := B.ba ++ .Expr (.Yield (some B.ye) B.yp) B.ypos :: B.bb
def GB.body (B : GB) : List Stmt := B.pre ++ [.While B.test B.turn [] B.wpos]
structure GM where
  pre : MS
  test : MT
  ba : MS
  ye : ME
  bb : MS
def GL (m : GM) : List D → Loc → Prop
  | [], δ => ∃ δ1, (∀ μ, m.test δ μ = .ok false δ1 μ) ∧ LsOnly δ1
  | d :: ds, δ => ∃ δ1 δ2 δ3 δ4, (∀ μ, m.test δ μ = .ok true δ1 μ) ∧ (∀ μ, m.ba δ1 μ = .nx δ2 μ) ∧ (∀ μ, m.ye δ2 μ = .ok (.fr d) δ3 μ) ∧ LsOnly δ3 ∧ (∀ μ, m.bb δ3 μ = .nx δ4 μ) ∧ GL m ds δ4
def GS0 (m : GM) (ds : List D) (δ : Loc) : Prop := ∃ δ1, (∀ μ, m.pre δ μ = .nx δ1 μ) ∧ GL m ds δ1
theorem GL.one {m : GM} : ∀ {ds es : List D} {δ : Loc}, GL m ds δ → GL m es δ → ds = es
  | [], [], _, _, _ => rfl
  | [], e :: es, δ, ⟨_, h, _⟩, ⟨_, _, _, _, k, _⟩ => by have := (h []).symm.trans (k []); cases this
  | d :: ds, [], δ, ⟨_, _, _, _, h, _⟩, ⟨_, k, _⟩ => by have := (h []).symm.trans (k []); cases this
  | d :: ds, e :: es, δ, ⟨a1, a2, a3, a4, h1, h2, h3, _, h4, h5⟩, ⟨b1, b2, b3, b4, k1, k2, k3, _, k4, k5⟩ => by
    have e1 := (h1 []).symm.trans (k1 []); cases e1
    have e2 := (h2 []).symm.trans (k2 []); cases e2
    have e3 := (h3 []).symm.trans (k3 []); cases e3
    have e4 := (h4 []).symm.trans (k4 []); cases e4
    rw [GL.one h5 k5]
theorem GS0.one {m : GM} {ds es : List D} {δ : Loc} (h : GS0 m ds δ) (k : GS0 m es δ) : ds = es := by
  obtain ⟨a, h1, h2⟩ := h
  obtain ⟨b, k1, k2⟩ := k
  have e := (h1 []).symm.trans (k1 []); cases e
  exact GL.one h2 k2
theorem Slp.trans {a b c : Array GenState} (h : Slp a b) (k : Slp b c) : Slp a c := fun i x l cd p fs cl e => k i x l cd p fs cl (h i x l cd p fs cl e)
def Fin0 (G : GD) (Z F : Hp) (ρ : List Addr) (μ : Mem) (H : Hp) (hs : List Addr) (s : Shared) (e : End) (s1 : Shared) : Prop :=
  (e = .ret (.ok (.ret .none)) ∨ e = .ret (.ok .next)) ∧ ∃ F' ρ' H2, Slt G Z F ρ μ H hs s F' ρ' H2 s1 ∧ Slp s.gens s1.gens
def FinN (G : GD) (Z F : Hp) (ρ : List Addr) (μ : Mem) (H : Hp) (hs : List Addr) (s : Shared) (d : D) (R : Sem PySem.Fin → Code → List Frame → Loc → Prop) (e : End) (s1 : Shared) : Prop :=
  ∃ v l k c p fs δ' x F' ρ' H2 σ' lk' hs', e = .susp v false l k c p fs ∧ e.quiet = true ∧ Slt G Z F ρ μ H hs s F' ρ' H2 s1 ∧ Slp s.gens s1.gens ∧ RelV x v ∧ Rep G.K G.mg F' ρ' x d ∧
    Pk G F' ρ' δ' σ' lk' hs' s1.heap ∧ (∀ p ∈ hs', H2 p = none ∧ (p ∈ hs ∨ s.heap.get? p = none)) ∧ R (k (.send .none)) c fs δ'
def Prom (G : GD) : List D → Sem PySem.Fin → Code → List Frame → Loc → Prop
  | [], t, c, fs, δ => ∀ Z F ρ μ H σ lk hs s, Wk G Z F ρ μ H δ σ lk hs s → Sg (model G.P G.w) G.A (Fin0 G Z F ρ μ H hs s) c t fs s
  | d :: ds, t, c, fs, δ => ∀ Z F ρ μ H σ lk hs s, Wk G Z F ρ μ H δ σ lk hs s → Sg (model G.P G.w) G.A (FinN G Z F ρ μ H hs s d (Prom G ds)) c t fs s
def Run (G : GD) (Z F : Hp) (ρ : List Addr) (μ : Mem) (H : Hp) (lk : Addr → Option (List V)) (hs : List Addr) (s : Shared) (δ : Loc) (σ : L2.St) (s1 : Shared) : Prop :=
  ∃ H1 F1 ρ1, Inv (G.X (sW G hs s) (h0W G hs H)) [] σ H1 s1 ∧ Sim G.K G.mg (zW G s.heap lk Z F H ρ) F1 ρ1 μ δ σ H1 ∧ Le (zW G s.heap lk Z F H ρ) F F1 ∧ LeR (zW G s.heap lk Z F H ρ) ρ ρ1 ∧ Slp s.gens s1.gens
section
variable {G : GD} {B : GB} {m : GM} {Z F H : Hp} {ρ : List Addr} {μ : Mem} {δ δ0 δ' : Loc} {σ σ0 : L2.St} {lk : Addr → Option (List V)} {hs : List Addr} {s s1 : Shared}
theorem Wk.run (OK : G.Ok) (k : Wk G Z F ρ μ H δ σ lk hs s) : Run G Z F ρ μ H lk hs s δ σ s := by
  obtain ⟨I, S⟩ := wake_in OK k
  exact ⟨_, F, ρ, I, S, .refl, .refl, fun _ _ _ _ _ _ _ e => e⟩
end
end FL
namespace FL
open PySem PySem.Spec PyProof.Rows L2
def FpY (B : Cx) (pins : List (Addr × Obj)) (H : Hp) (b : Addr) : Prop :=
  H b = none ∧ b ≠ B.env.locals ∧ b ∉ B.fs ∧ (b ∈ B.ex ∨ B.s_0.heap.get? b = none) ∧ (∀ x c, B.env.cells.lookup x = some c → c ≠ b) ∧ ∀ p ∈ B.pn ++ pins, p.1 ≠ b
theorem FpY.of {B : Cx} {pins : List (Addr × Obj)} {H : Hp} {b : Addr} (h : FpOk B pins H b) : FpY B pins H b := by
  obtain ⟨h0, h1, h2, h3, h4, h5⟩ := h
  exact ⟨h0, h1, h2, h3.imp id fun z => Heap.get?_none_of_le z, h4, h5⟩
def PromS (G : GD) (ds : List D) (δ : Loc) : GenState → Prop
  | .fresh c => Prom G ds ((model G.P G.w).den c) c [] δ
  | .suspended k _ c _ fs _ => Prom G ds (k (.send .none)) c fs δ
  | _ => False
def isSus : GenState → Bool
  | .suspended _ _ _ _ _ _ => true
  | _ => false
structure Asl (G : GD) (a : Addr) (g : Nat) (ds : List D) (b : Bool) (F : Hp) (ρ : List Addr) (hs : List Addr) (s : Shared) : Prop where
  isg : s.heap.IsGen a g
  ne : a ∉ G.env.locals :: hs
  ex : ∃ gs δ σ lk, s.gens[g]? = some gs ∧ Pk G F ρ δ σ lk hs s.heap ∧ PromS G ds δ gs ∧ (b = true → isSus gs = true)
end FL
namespace FL
open PySem PySem.Spec PyProof.Rows L2
section
variable {B : Cx} {pins : List (Addr × Obj)} {σ : L2.St} {H : Hp} {s : Shared} {E : Value → Shared → Prop}
theorem Asl.obj {G : GD} {a : Addr} {g : Nat} {ds : List D} {b : Bool} {F : Hp} {ρ : List Addr} {hs : List Addr} (x : Asl G a g ds b F ρ hs s) : ∀ p ∈ a :: G.env.locals :: hs, ∃ o, s.heap.get? p = some o ∧ ∀ v, o.data ≠ .cell v := by
  obtain ⟨o, nm, qn, ho, hc, hd, _⟩ := x.isg
  obtain ⟨gs, δ, σ, lk, _, pk, _⟩ := x.ex
  intro p hp
  rcases List.mem_cons.mp hp with z | hp
  · rw [z]
    exact ⟨o, ho, fun v q => by rw [hd] at q; cases q⟩
  · rcases List.mem_cons.mp hp with z | hp
    · rw [z]
      obtain ⟨m, ⟨o, es, ep, ho, hd, _⟩, _⟩ := pk.loc
      exact ⟨o, ho, fun v q => by rw [hd] at q; cases q⟩
    · obtain ⟨_, _, _, vs, hv⟩ := pk.hsk p hp
      obtain ⟨_, _, its, n, _, e⟩ := pk.lks p vs hv
      exact ⟨_, e, fun v q => by cases q⟩
end
end FL
namespace FL
open PySem PySem.Spec PyProof.Rows L2
theorem KV.get_no {K : PySem.W.Frag} {mg : Str → Option Value} {F : Hp} {ρ : List Addr} {k : DK} : ∀ {kvs : List (Key × V)} {kds : List (DK × D)}, KV K mg F ρ kvs kds → getA kds k = none → valV kvs k.key = none
  | _, _, .nil, e => rfl
  | _, _, @KV.cons _ _ _ _ k1 v1 d1 kvs kds h t, e => by
    unfold getA at e
    rw [List.find?_cons] at e
    unfold valV
    rw [List.find?_cons]
    simp only [key_dec]
    by_cases z : k1 = k
    · rw [decide_eq_true z] at e
      cases e
    · rw [decide_eq_false z] at e ⊢
      exact KV.get_no t e
theorem KV.len {K : PySem.W.Frag} {mg : Str → Option Value} {F : Hp} {ρ : List Addr} : ∀ {kvs : List (Key × V)} {kds : List (DK × D)}, KV K mg F ρ kvs kds → kvs.length = kds.length
  | _, _, .nil => rfl
  | _, _, .cons h t => by rw [List.length_cons, List.length_cons, KV.len t]
def dctOf : D → Option (List DK × List D)
  | .dct ks ds => some (ks, ds)
  | .fx .df ks ds => some (ks, ds)
  | _ => none
theorem bor_dct {K : PySem.W.Frag} {mg : Str → Option Value} {Z F H : Hp} {ρ : List Addr} {μ : Mem} {δ : Loc} {σ : L2.St} {v : V} {d : D} {ks : List DK} {ds : List D} (S : Sim K mg Z F ρ μ δ σ H) (b : Bor K mg F ρ H v d) (h : dctOf d = some (ks, ds)) :
    ∃ p vs, v = .ref p ∧ Rd H p (.dK ((ks.map DK.key).zip vs)) ∧ ks.length = vs.length ∧ RepL K mg F ρ vs ds := by
  cases d <;> first | (cases h; done) | skip
  · rename_i m ks' ds'
    cases m <;> first | (cases h; done) | skip
    cases h
    obtain ⟨p, o, vs, e, _, q, l, r⟩ := b.dcf S
    exact ⟨p, vs, e, .inr ⟨o, q⟩, l, r⟩
  · cases h
    exact b.dct S
def isDct (d : D) : Bool := (dctOf d).isSome
def gGet1 (d y : D) : Option Slot := (dctOf d).bind fun p => (dkey y).map fun k => .fr ((getA (p.1.zip p.2) k).getD .non)
def mGet1 (oo ob : Opn) : ME := fun δ μ => (oo.ev δ μ).bind fun ra δ1 μ1 => match ra.at δ1 μ1 with
  | some d0 => if isDct d0 = true then (ob.ev δ1 μ1).bind fun rb δ2 μ2 => match ra.at δ2 μ2, rb.at δ2 μ2 with
    | some da, some db => lift (gGet1 da db) δ2 μ2
    | _, _ => .bad
    else .bad
  | none => .bad
section
variable {X : Cx} {W : WX} {o e f : Expr} {pos apos cpos : Pos} {oo ob : Opn} {m : ME} {k : Nat} {N : List Str} {sc : Scope}
theorem is_dct {Z F H : Hp} {ρ : List Addr} {μ : Mem} {δ : Loc} {σ : L2.St} {v : V} {d : D} (S : Sim X.K X.mg Z F ρ μ δ σ H) (b : Bor X.K X.mg F ρ H v d) (h : isDct d = true) : ∃ a, v = .ref a ∧ IsD H a := by
  obtain ⟨⟨ks, ds⟩, e⟩ := Option.isSome_iff_exists.mp h
  obtain ⟨p, vs, rfl, hr, hl, r⟩ := bor_dct S b e
  exact ⟨p, rfl, .inl ⟨_, hr⟩⟩
theorem dget_of {Z F H : Hp} {ρ : List Addr} {μ : Mem} {δ : Loc} {σ : L2.St} {x y : V} {dy : D} {dx : D} {ks : List DK} {ds : List D} {k : DK} (S : Sim X.K X.mg Z F ρ μ δ σ H) (bx : Bor X.K X.mg F ρ H x dx) (ed : dctOf dx = some (ks, ds)) (bY : Bor X.K X.mg F ρ H y dy) (ek : dkey dy = some k) :
    ∃ a r, x = .ref a ∧ DGet H a y r ∧ ((∃ v d, r = some v ∧ getA (ks.zip ds) k = some d ∧ Rep X.K X.mg F ρ v d) ∨ (r = none ∧ getA (ks.zip ds) k = none)) := by
  obtain ⟨p, vs, rfl, hr, hl, r⟩ := bor_dct S bx ed
  cases g : getA (ks.zip ds) k with
  | some d =>
    obtain ⟨v, ev, rv⟩ := (KV.of hl r).get g
    exact ⟨p, some v, rfl, .inl ⟨_, k.key, hr, key_of bY ek, ev.symm⟩, .inl ⟨v, d, rfl, rfl, rv⟩⟩
  | none => exact ⟨p, none, rfl, .inl ⟨_, k.key, hr, key_of bY ek, ((KV.of hl r).get_no g).symm⟩, .inr ⟨rfl, rfl⟩⟩
theorem je_get1 (hu : X.A.units + 1 < cLine) (ho : JO X W o oo) (he : JO X W e ob) (mm : M1 X o "get" apos e cpos) : JE X W (.Call (.Attribute o "get" apos) [e] [] cpos) (mGet1 oo ob) := by
  refine (pe_dget1 hu ho he mm).imp fun σ H Q ⟨Z, F, ρ, μ, δ, S, q⟩ => ⟨Z, F, ρ, μ, δ, S, (FinE.bind q).imp fun ra δ1 μ1 H1 F1 ρ1 l lr S1 ⟨_, _, _, p⟩ x hx => ?_⟩
  cases e0 : ra.at δ1 μ1 with
  | none => simp only [e0] at p; exact p.elim
  | some d0 =>
    simp only [e0] at p
    by_cases hd : isDct d0 = true
    · rw [if_pos hd] at p
      obtain ⟨a, rfl, isd⟩ := is_dct S1 (hx.bor S1 e0) hd
      refine ⟨a, rfl, isd, Z, F1, ρ1, μ1, δ1, S1, p.bind.imp fun rb δ2 μ2 H2 F2 ρ2 l2 lr2 S2 ⟨_, _, _, p2⟩ y hy => ?_⟩
      cases e1 : ra.at δ2 μ2 with
      | none => simp only [e1] at p2; exact p2.elim
      | some da =>
        cases e2 : rb.at δ2 μ2 with
        | none => simp only [e1, e2] at p2; exact p2.elim
        | some db =>
          simp only [e1, e2] at p2
          unfold lift at p2
          cases eg : gGet1 da db with
          | none => simp only [eg] at p2; exact p2.elim
          | some s =>
            simp only [eg] at p2
            unfold gGet1 at eg
            obtain ⟨⟨ks, ds⟩, ed, eg⟩ := Option.bind_eq_some_iff.mp eg
            obtain ⟨kk, ek, rfl⟩ := Option.map_eq_some_iff.mp eg
            obtain ⟨a', r, ea, g, hr⟩ := dget_of S2 ((hx.up l2 lr2).bor S2 e1) ed (hy.bor S2 e2) ek
            cases ea
            refine ⟨r, g, ?_⟩
            rcases hr with ⟨v, d, rfl, eg2, rv⟩ | ⟨rfl, eg2⟩
            · rw [eg2] at p2
              exact p2 H2 F2 ρ2 .refl .refl S2 v ⟨rv, fun o p z => by cases z⟩
            · rw [eg2] at p2
              exact p2 H2 F2 ρ2 .refl .refl S2 .non ⟨.non, fun o p z => by cases z⟩
    · rw [if_neg hd] at p; exact p.elim
def mGet2 (oo ob oc : Opn) : ME := fun δ μ => (oo.ev δ μ).bind fun ra δ1 μ1 => match ra.at δ1 μ1 with
  | some d0 => if isDct d0 = true then (ob.ev δ1 μ1).bind fun rb δ2 μ2 => (oc.ev δ2 μ2).bind fun rc δ3 μ3 => match ra.at δ3 μ3, rb.at δ3 μ3, rc with
    | some da, some db, .d dc => (match dctOf da, dkey db with
      | some p, some k => .ok (.fr ((getA (p.1.zip p.2) k).getD dc)) δ3 μ3
      | _, _ => .bad)
    | _, _, _ => .bad
    else .bad
  | none => .bad
theorem je_get2 {oc : Opn} (hu : X.A.units + 1 < cLine) (ho : JO X W o oo) (he : JO X W e ob) (hf : JO X W f oc) (mm : M2 X o "get" apos e f cpos) : JE X W (.Call (.Attribute o "get" apos) [e, f] [] cpos) (mGet2 oo ob oc) := by
  refine (pe_dget2 hu ho he hf mm).imp fun σ H Q ⟨Z, F, ρ, μ, δ, S, q⟩ => ⟨Z, F, ρ, μ, δ, S, (FinE.bind q).imp fun ra δ1 μ1 H1 F1 ρ1 l lr S1 ⟨_, _, _, p⟩ x hx => ?_⟩
  cases e0 : ra.at δ1 μ1 with
  | none => simp only [e0] at p; exact p.elim
  | some d0 =>
    simp only [e0] at p
    by_cases hd : isDct d0 = true
    · rw [if_pos hd] at p
      obtain ⟨a, rfl, isd⟩ := is_dct S1 (hx.bor S1 e0) hd
      refine ⟨a, rfl, isd, Z, F1, ρ1, μ1, δ1, S1, p.bind.imp fun rb δ2 μ2 H2 F2 ρ2 l2 lr2 S2 ⟨_, _, _, p2⟩ y hy => ?_⟩
      refine ⟨Z, F2, ρ2, μ2, δ2, S2, p2.bind.imp fun rc δ3 μ3 H3 F3 ρ3 l3 lr3 S3 ⟨_, _, _, p3⟩ z hz => ?_⟩
      cases e1 : ra.at δ3 μ3 with
      | none => simp only [e1] at p3; exact p3.elim
      | some da =>
        cases e2 : rb.at δ3 μ3 with
        | none => simp only [e1, e2] at p3; exact p3.elim
        | some db =>
          cases rc with
          | i j => simp only [e1, e2] at p3; exact p3.elim
          | d dc =>
            simp only [e1, e2] at p3
            cases ed : dctOf da with
            | none => simp only [ed] at p3; exact p3.elim
            | some pp =>
             obtain ⟨ks, ds⟩ := pp
             cases ek : dkey db with
             | none => simp only [ed, ek] at p3; exact p3.elim
             | some kk =>
              simp only [ed, ek] at p3
              obtain ⟨a', r, ea, g, hr⟩ := dget_of S3 (((hx.up l2 lr2).up l3 lr3).bor S3 e1) ed ((hy.up l3 lr3).bor S3 e2) ek
              cases ea
              refine ⟨r, g, ?_⟩
              rcases hr with ⟨v, d, rfl, eg2, rv⟩ | ⟨rfl, eg2⟩
              · rw [eg2] at p3
                exact p3 H3 F3 ρ3 .refl .refl S3 v ⟨rv, fun o p z => by cases z⟩
              · rw [eg2] at p3
                exact p3 H3 F3 ρ3 .refl .refl S3 z ⟨hz, fun o p z => by cases z⟩
    · rw [if_neg hd] at p; exact p.elim
def gInD (neg : Bool) (y d : D) : Option Slot := (dctOf d).bind fun p => (dkey y).map fun k => .fr (.bl ((getA (p.1.zip p.2) k).isSome != neg))
def gLenD1 (d : D) : Option Slot := (dctOf d).map fun p => .fr (.int (p.1.zip p.2).length)
def gLenD : List D → Option Slot := fun ds => match ds with
  | [d] => gLenD1 d
  | _ => none
theorem cr_lenD : CallR X (.builtin "len") (fun xs H Q => ∃ a kvs, xs = [V.ref a] ∧ Rd H a (.dK kvs) ∧ Q (.int kvs.length) H) := by
  intro pins s σ H xs us Q I r h
  obtain ⟨a, kvs, rfl, ha, q⟩ := h
  obtain ⟨u, rfl, ru⟩ := vals1 r
  cases ru
  exact d_len I ha fun t s' I' => ⟨.int kvs.length, H, I', ⟨t, rfl⟩, q⟩
theorem j_lenD : RLJ X (fun xs H Q => ∃ a kvs, xs = [V.ref a] ∧ Rd H a (.dK kvs) ∧ Q (.int kvs.length) H) gLenD := by
  intro Z F ρ μ δ σ H xs ds s Q S bs e q
  unfold gLenD at e
  split at e
  · obtain ⟨v, rfl, hb⟩ := bs.one
    rename_i d
    obtain ⟨⟨ks, ds'⟩, ed, rfl⟩ := Option.map_eq_some_iff.mp e
    obtain ⟨p, vs, rfl, hr, hl, r⟩ := bor_dct S hb ed
    refine ⟨p, _, rfl, hr, q _ H F .refl S ⟨?_, fun o p z => by cases z⟩⟩
    have hl2 := RepL.len r
    have : ((ks.map DK.key).zip vs).length = (ks.zip ds').length := by simp [List.length_zip, hl, hl2]
    rw [this]
    exact .int
  · cases e
def gDictD1 (d : D) : Option Slot := (dctOf d).bind fun p => if p.1.length = p.2.length then some (.own (.dct p.1 p.2)) else none
def gDictD : List D → Option Slot := fun ds => match ds with
  | [d] => gDictD1 d
  | _ => none
end
end FL
namespace FL
open PySem PySem.Spec PyProof.Rows L2
theorem no_keys_tup : typeLookup (.type "tuple") "keys" = pure none := am_miss_of_fast (by first | decide +kernel | rfl)
section
variable {P : Program} {w : World} {A : Around} {E : Value → Shared → Prop}
theorem miss_tup {s : Shared} {a : Addr} {o : Obj} {xs : Array Value} {k : Nat} {Q : Option Value → Shared → Prop} (hx : s.heap.get? a = some o) (hc : o.cls = .type "tuple") (hdat : o.data = .seq xs k) (hd : o.dict = none) (hA : A.handled = none)
    (h : ∀ h' tk, (∀ b ob, s.heap.get? b = some ob → h'.get? b = some ob) → Q none { s with heap := h', toks := tk }) : wpAny (model P w) A (getAttr? (.ref a) "keys") Q E s := by
  obtain ⟨c, dct, dat, sl⟩ := o
  simp only at hc hdat hd
  subst hc hdat hd
  obtain ⟨hp, g0, d0, tk0, os0⟩ := s
  have tT : ∀ tk', (⟨hp, g0, d0, tk', os0⟩ : Shared).TypeIs (.ref a) "tuple" := fun _ => ⟨_, hx, rfl⟩
  have m1 := no_keys_tup
  have m2 : (["__module__", "__name__", "__qualname__", "__doc__", "__annotations__"] : List Str).contains "keys" = false := by decide +kernel
  have m3 : ("keys" : Str).length + 100 ≤ sizeLine := by first | size_fits | decide +kernel
  have f1 := sub_AttributeError
  have f3 := PySem.F.slot_tuple_getattribute.lookup
  have f4 := PySem.F.slot_tuple_getattribute.bind (.ref a)
  have f5 : typeLookup (.type "tuple") "__getattr__" = pure none := am_miss_of_fast (by first | decide +kernel | rfl)
  (unfold getAttr? getAttrBy? getAttrBy; repeat (any_goals (first | assumption | exact tT _ | ((with_reducible show wpAny _ _ (call (Value.builtin "tuple.__getattribute__") _ _) _ _ _); refine call_meets PySem.F.slot_tuple_getattribute (tT _) am_entry_tuple_getattribute (PySem.F.args_tuple_getattribute_2 _ _) (meets_getattribute_miss_tuple a xs k sl "keys" _ m1 m2 m3) ⟨hx, hA, fun h' tk' e ne => ?_⟩) | wp_step)))
  (obtain ⟨t1, u1, e1⟩ := ne.there; show wpAny _ _ (getattributeRaised _ _ _ _ _ _ _) _ _ _; unfold getattributeRaised; repeat (any_goals (first | assumption | wp_step)))
  all_goals (first | exact h _ _ ne.keeps | (dsimp only; repeat (any_goals (first | assumption | exact h _ _ ne.keeps | wp_step))))
theorem put_pairs {R : Result → Shared → Prop} {D0 it tu : Addr} {row : Array Value} {res : Value} (hh : A.handled = none) (n1 : tu ≠ it) (n2 : D0 ≠ it) (n3 : D0 ≠ tu) :
    ∀ (todo : List (Key × Value)) (i : Nat) (got : List (Key × Value)) (ix : Int) (t : Tok) (s : Shared), row.size = i + todo.length → got.length + todo.length ≤ sizeLine →
      (∀ (j : Nat) (q : Key × Value), todo[j]? = some q → ∃ (b : Addr) (u : Value), row[i + j]? = some (.ref b) ∧ b ≠ D0 ∧ b ≠ it ∧ IsTup s.heap b #[u, q.2] ∧ keyIs q.1 u = true) →
      s.heap.IsTupleIter it tu i → s.heap.IsTuple tu row → s.heap.DictOf (mixKind P w) D0 got →
      (∀ h' tk, h'.DictOf (mixKind P w) D0 (merged got todo) → (∀ b o, b ≠ D0 → b ≠ it → s.heap.get? b = some o → h'.get? b = some o) → R (.ok (.ret res)) { s with heap := h', toks := tk }) →
      codeAny (model P w) A (.builtin "dict.update.loop" ⟨[.ref D0, .ref it, .int ix t, res], []⟩) R s
  | [], i, got, ix, t, s, z1, z2, hp, hit, hl, hm, hR => by
    refine codeAny_builtin ud_entry (by
      rw [Around.under_plainId ud_plain _]
      show wpAny _ A.in1 (pyNext (.ref it) >>= _) _ _ s
      refine wpAny_bind (wpAny_pyNext_tuple_end (A := A.in1) hh hit hl (by first | exact Array.getElem?_eq_none (Nat.le_of_eq z1) | (simp at z1; simp; omega)) fun h' he => ?_)
      show wpAny _ A.in1 (Builtin.Dict.addKeywords D0 [] >>= _) _ _ _
      exact wpAny_bind (wpAny_pure (wpAny_pure (hR h' s.toks (hm.extBut he n2) fun b o _ hb e => he b o hb e))))
  | q :: todo, i, got, ix, t, s, z1, z2, hp, hit, hl, hm, hR => by
    obtain ⟨b, u, eb, bD, bI, tp, hk⟩ := hp 0 q rfl
    rw [List.length_cons] at z1 z2
    refine codeAny_builtin ud_entry (by
      rw [Around.under_plainId ud_plain _]
      show wpAny _ A.in1 (pyNext (.ref it) >>= _) _ _ s
      refine wpAny_bind (wpAny_pyNext_tuple_item (x := .ref b) hit hl (by simpa using eb) fun h1 hit1 sb1 => ?_)
      have tp1 : IsTup h1 b #[u, q.2] := tp.extBut sb1.extBut bI
      have hl1 : h1.IsTuple tu row := hl.extBut sb1.extBut n1
      have hm1 : h1.DictOf (mixKind P w) D0 got := hm.extBut sb1.extBut n2
      obtain ⟨o, ho, hc, n, hd⟩ := id tp1
      show wpAny _ A.in1 (holding [Value.ref b] _ >>= _) _ _ _
      refine wpAny_bind (wpAny_holding (wpAny_bind (wpAny_tryCatch ?_)))
      unfold Builtin.Dict.pairItems
      refine wpAny_bind (wpAny_typeOf (T := "tuple") ⟨o, ho, hc⟩ ?_)
      rw [if_pos (by first | decide | rfl | simp)]
      refine wpAny_bind (wpAny_seqItems ho hd (wpAny_pure ?_))
      show wpAny _ A.in1 (holding [u, q.2] (dictSet D0 u q.2)) _ _ _
      refine wpAny_holding (wpAny_dictSet_pairs (knd := mixKind P w) (k := q.1) hk hm1 (fun h2 hm2 sb2 => wpAny_pure ⟨plainId_quiet ud_plain _, put_pairs (row := row) hh n1 n2 n3 todo (i + 1) (stored got q.1 q.2) (ix + 1) 0 _ (show row.size = i + 1 + todo.length by omega) ?_ (fun j q' e => ?_) ?_ ?_ hm2 fun h' tk hd' kp => ?_⟩) (by omega))
      · have z3 := stored_length_le got q.1 q.2
        omega
      · obtain ⟨b', u', eb', bD', bI', tp', hk'⟩ := hp (j + 1) q' (by simpa using e)
        exact ⟨b', u', by rw [show i + 1 + j = i + (j + 1) by omega]; exact eb', bD', bI', (tp'.extBut sb1.extBut bI').extBut sb2.extBut bD', hk'⟩
      · exact hit1.at fun o' e => sb2.extBut it o' (Ne.symm n2) e
      · exact hl1.extBut sb2.extBut (Ne.symm n3)
      · exact hR h' tk hd' fun c oc h3 h4 e => kp c oc h3 h4 (sb2.extBut c oc h3 (sb1.extBut c oc h4 e)))
theorem call_dict_rc {s : Shared} {l : Addr} {ol : Obj} {row : Array Value} {n : Nat} {prs : List (Key × Value)} {Q : Value → Shared → Prop} (hh : A.handled = none) (hl : s.heap.get? l = some ol) (hc : ol.cls = .type "tuple") (hd : ol.dict = none)
    (hdat : ol.data = .seq row n) (hsz : row.size = prs.length) (hln : prs.length ≤ sizeLine)
    (ht : ∀ (j : Nat) (q : Key × Value), prs[j]? = some q → ∃ (b : Addr) (u : Value), row[j]? = some (.ref b) ∧ IsTup s.heap b #[u, q.2] ∧ keyIs q.1 u = true)
    (h : ∀ h' tk, h'.DictOf (mixKind P w) s.heap.objs.size (merged [] prs) → (∀ b o, s.heap.get? b = some o → h'.get? b = some o) → Q (.ref s.heap.objs.size) { s with heap := h', toks := tk }) :
    wpAny (model P w) A (call (.type "dict") [.ref l]) Q E s := by
  refine callType_codes (Q₁ := fun obj s₁ => obj = .ref s.heap.objs.size ∧ s₁ = { s with heap := s.heap.push { cls := .type "dict", data := .dict #[] } }) PySem.F.kt_called_dict (PySem.F.kt_typeCall_dict_1 _) PySem.F.entry_dict_init (kt_code_dict_new _ ⟨rfl, rfl⟩) fun obj s1 ho => ?_
  obtain ⟨rfl, rfl⟩ := ho
  have new0 : (s.heap.push { cls := .type "dict", data := .dict #[] }).DictOf (mixKind P w) s.heap.objs.size [] := Heap.DictOf.new s.heap
  have kp0 : ∀ b o, s.heap.get? b = some o → (s.heap.push { cls := .type "dict", data := .dict #[] }).get? b = some o := fun b o e => Heap.get?_push_of_some _ e
  refine ⟨new0.typeIs, PySem.F.args_dict_init_2 _ _, ?_⟩
  (unfold Builtin.«dict.__init__»; refine wpAny_bind ?_; unfold Builtin.Dict.selfAndRest; refine wpAny_bind (wpAny_notOrdered_dict new0.typeIs ?_))
  (show wpAny _ _ (pure (s.heap.objs.size, [Value.ref l])) _ _ _; refine wpAny_pure ?_; show wpAny _ _ (Builtin.Dict.updateFrom "dict.__init__" s.heap.objs.size (.ref l) [] .none) _ _ _; unfold Builtin.Dict.updateFrom)
  refine wpAny_bind (wpAny_typeOf (T := "tuple") ⟨ol, kp0 _ _ hl, hc⟩ ?_)
  rw [if_pos (by first | decide | rfl | simp)]
  refine wpAny_bind (miss_tup (kp0 _ _ hl) hc hdat hd hh fun h1 tk1 kp1 => ?_)
  (rw [if_pos (show (none : Option Value).isNone = true from rfl)]; refine wpAny_bind (wpAny_rule ?_))
  have hl1 : h1.IsTuple l row := ⟨ol, kp1 _ _ (kp0 _ _ hl), hc, n, hdat⟩
  have lt1 : s.heap.objs.size < h1.objs.size := by
    have e : (s.heap.push { cls := .type "dict", data := .dict #[] }).get? s.heap.objs.size = some { cls := .type "dict", data := .dict #[] } := Heap.get?_push_size _ rfl
    exact Heap.lt_size (kp1 _ _ e)
  refine wpAny_bind (wpAny_pyIter_tuple hl1 ?_)
  have kp2 : ∀ b o, h1.get? b = some o → (h1.push { cls := .type "tuple_iterator", data := .fields #[.ref l, .int 0 0] }).get? b = some o := fun b o e => Heap.get?_push_of_some _ e
  have llt : l < s.heap.objs.size := Heap.lt_size hl
  have key := put_pairs (P := P) (w := w) (A := A.in1) (R := wants (fun r s2 => r = .none ∧ Q (.ref s.heap.objs.size) s2) E) (D0 := s.heap.objs.size) (it := h1.objs.size) (tu := l) (row := row) (res := Value.none) hh
    (Nat.ne_of_lt (Nat.lt_trans llt lt1)) (Nat.ne_of_lt lt1) (Nat.ne_of_gt llt) prs 0 [] 0 0
    { s with heap := h1.push { cls := .type "tuple_iterator", data := .fields #[.ref l, .int 0 0] }, toks := tk1 } (by rw [hsz, Nat.zero_add]) (by rw [List.length_nil, Nat.zero_add]; exact hln)
    (fun j q e => by
      obtain ⟨b, u, e1, e2, e3⟩ := ht j q e
      have blt : b < s.heap.objs.size := e2.lt
      exact ⟨b, u, by rw [Nat.zero_add]; exact e1, Nat.ne_of_lt blt, Nat.ne_of_lt (Nat.lt_trans blt lt1), e2.keeps fun c o z => kp2 _ _ (kp1 _ _ (kp0 _ _ z)), e3⟩)
    ⟨_, Heap.get?_push_size _ rfl, rfl, rfl⟩ (hl1.at fun o e => kp2 _ _ e) ((new0.at fun o e => kp1 _ _ e).at fun o e => kp2 _ _ e)
    (fun h' tk hd' kp => ⟨rfl, h h' tk hd' fun b o e => kp b o (Nat.ne_of_lt (Heap.lt_size e)) (Nat.ne_of_lt (Nat.lt_trans (Heap.lt_size e) lt1)) (kp2 _ _ (kp1 _ _ (kp0 _ _ e)))⟩)
  first
    | exact wpAny_pure ⟨plainId_quiet ud_plain _, key⟩
    | exact wpAny_bind (wpAny_pure (wpAny_pure ⟨plainId_quiet ud_plain _, key⟩))
end
end FL
namespace FL
open PySem PySem.Spec PyProof.Rows L2
section
variable {X : Cx} {W : WX} {es : List Expr} {pos : Pos} {t : TA}
def tTupR (t : TA) : TE := fun σ H Q => t σ H fun xs H1 => xs.length ≤ sizeLine ∧ ∀ a o, H1 a = none → o.dict = none → Q (.ref a) (upd H1 a (.frz o (.tup xs)))
theorem pe_tupR {k : Nat} (h : PA X es t) : PE X (.Tuple es k pos) (tTupR t) := by
  refine ⟨fun pins s σ H Q I hq => wpAny_Tuple_spliced (thn (h.run pos pins s σ H _ I hq) fun us s1 ⟨xs, H1, I1, r, z, q⟩ => ⟨by rw [← r.length]; exact z, ?_⟩)⟩
  have fresh : H1 s1.heap.objs.size = none := I1.hok.fresh (Nat.le_refl _)
  exact ⟨.ref s1.heap.objs.size, upd H1 s1.heap.objs.size (.frz { cls := .type "tuple", data := .seq us.toArray } (.tup xs)), I1.laid (t' := s1.toks) (fun b u e => Heap.get?_push_of_some _ e) (Nat.le_refl _) ⟨Heap.get?_push_size _ rfl, z, us, r, ⟨_, Heap.get?_push_size _ rfl, rfl, _, rfl⟩⟩, rfl, q _ _ fresh rfl⟩
def mRcT (ms : List ME) : ME := fun δ μ => (evA ms δ μ).bind fun ds δ1 μ1 => if ds.length ≤ 16777216 then .ok (.fr (.rc ds)) δ1 μ1 else .bad
theorem je_rcT {k : Nat} {ms : List ME} (h : JA X W es ms) : JE X W (.Tuple es k pos) (mRcT ms) := by
  refine (pe_tupR h).imp fun σ H Q ⟨Z, F, ρ, μ, δ, S, q⟩ => ⟨Z, F, ρ, μ, δ, S, (FinE.bind q).imp fun ds δ1 μ1 H1 F1 ρ1 l lr S1 ⟨_, _, _, p⟩ vs hv => ?_⟩
  by_cases hz : ds.length ≤ 16777216
  · rw [if_pos hz] at p
    refine ⟨by rw [hv.len, sizeLine_eq]; exact hz, fun a o ha hd => ?_⟩
    obtain ⟨n1, n2, n3, n4⟩ := S1.notIn ha
    have S2 := S1.laid (o := .frz o (.tup vs)) ha
    obtain ⟨l3, S3⟩ := S2.freeze (p := a) upd_same ⟨n1, n2, n3⟩ n4
    exact p _ _ ρ1 l3 .refl S3 _ ⟨.rc upd_same hd (hv.up l3.to fun _ _ h => h), fun o p z => by cases z⟩
  · rw [if_neg hz] at p; exact p.elim
def cr_dictRr (X : Cx) : List V → Hp → VK → Prop := fun xs H Q => ∃ (a : Addr) (o : Obj) (ps : List Addr) (kvs : List (Key × V)), xs = [.ref a] ∧ H a = some (.frz o (.tup (ps.map V.ref))) ∧ o.dict = none ∧ Paired (fun p kv => SqT X.K H p [kV kv.1, kv.2]) ps kvs ∧
  ∀ p, H p = none → Q (.ref p) (upd H p (.dK (mergeK [] kvs)))
theorem cr_dictR (hcalm : X.calm = true) : CallR X (.type "dict") (cr_dictRr X) := by
  intro pins s σ H xs us Q I r q
  obtain ⟨a, o, ps, kvs, ex, hq, hdn, hp, q⟩ := q
  subst ex
  obtain ⟨u, eu, rx⟩ := vals1 r
  subst eu
  cases rx
  obtain ⟨ho, hz, its, rv, o', ho', hc, n, hdat⟩ := I.hok a _ hq
  rw [ho] at ho'
  cases ho'
  obtain rfl := refs_at rv
  obtain ⟨prs, rel, hl, hpr⟩ := pairs_of I hp
  rw [List.length_map] at hz
  have hm : (s.heap.objs.size == sysModules) = false := beq_eq_false_iff_ne.mpr (Nat.ne_of_gt I.big)
  refine call_dict_rc (prs := prs) (I.ok.hd hcalm) ho hc hdn hdat (by simp [hl]) (by rw [hl]; exact hz) (fun j q' e => ?_) fun h' tk hd' k =>
    ⟨.ref s.heap.objs.size, upd H s.heap.objs.size (.dK (mergeK [] kvs)), I.laid (t' := tk) k (Nat.le_refl _) (show ObjOk X.prog X.w _ _ _ (.dK (mergeK [] kvs)) from ⟨?_, hm, merged [] prs, KV.merge rel .nil, hd'⟩), rfl, q _ (I.hok.fresh (Nat.le_refl _))⟩
  · obtain ⟨b, u, e1, e2, e3⟩ := hpr j q' e
    exact ⟨b, u, by simp [e1], e2, e3⟩
  · refine Nat.le_trans (length_mergeK kvs []) ?_
    rw [List.length_nil, Nat.zero_add, rel.length, hl]
    exact hz
def pairL : List D → Option (DK × D)
  | [k, v] => (dkey k).map fun kk => (kk, v)
  | _ => none
def pairD : D → Option (DK × D)
  | .tup l => pairL l
  | _ => none
def pairsD : List D → Option (List (DK × D))
  | [] => some []
  | x :: xs => (pairD x).bind fun p => (pairsD xs).map fun r => p :: r
def mergeA (kds more : List (DK × D)) : List (DK × D) := more.foldl (fun acc p => putA acc p.1 p.2) kds
theorem KV.mergeA {K : PySem.W.Frag} {mg : Str → Option Value} {F : Hp} {ρ : List Addr} : ∀ {mk : List (Key × V)} {md : List (DK × D)} {kvs : List (Key × V)} {kds : List (DK × D)}, KV K mg F ρ mk md → KV K mg F ρ kvs kds → KV K mg F ρ (mergeK kvs mk) (FL.mergeA kds md)
  | _, _, _, _, .nil, h => h
  | _, _, kvs0, kds0, @KV.cons _ _ _ _ k1 v1 d1 _ _ r t, h => KV.mergeA (kvs := putK kvs0 k1.key v1) (kds := putA kds0 k1 d1) t (h.put r)
theorem pair_of {Z F H : Hp} {ρ : List Addr} {μ : Mem} {δ : Loc} {σ : L2.St} (S : Sim X.K X.mg Z F ρ μ δ σ H) {v : V} {d : D} {kk : DK} {x : D} (h : Rep X.K X.mg F ρ v d) (e : pairD d = some (kk, x)) :
    ∃ p y, v = V.ref p ∧ SqT X.K H p [kV kk.key, y] ∧ Rep X.K X.mg F ρ y x := by
  cases d <;> first | (cases e; done) | skip
  rename_i l
  have ep : pairL l = some (kk, x) := e
  obtain ⟨p, vs', rfl, hq, rl⟩ := (Bor.fr (H := H) h).tup S
  cases rl with
  | nil => cases ep
  | cons r1 t1 =>
    cases t1 with
    | nil => cases ep
    | cons r2 t2 =>
      cases t2 with
      | nil =>
        obtain ⟨k2, ek, e2⟩ := Option.map_eq_some_iff.mp ep
        injection e2 with e3 e4
        subst e3 e4
        have e5 := key_rep r1 ek
        subst e5
        exact ⟨p, _, rfl, hq, r2⟩
      | cons r3 t3 => cases ep
theorem paired_of {Z F H : Hp} {ρ : List Addr} {μ : Mem} {δ : Loc} {σ : L2.St} (S : Sim X.K X.mg Z F ρ μ δ σ H) : ∀ {ds : List D} {vs : List V} {kds : List (DK × D)}, RepL X.K X.mg F ρ vs ds → pairsD ds = some kds → ∃ (ps : List Addr) (kvs : List (Key × V)), vs = ps.map V.ref ∧ Paired (fun p kv => SqT X.K H p [kV kv.1, kv.2]) ps kvs ∧ KV X.K X.mg F ρ kvs kds := by
  intro ds
  induction ds with
  | nil =>
    intro vs kds r e
    cases r
    cases e
    exact ⟨[], [], rfl, .nil, .nil⟩
  | cons d ds ih =>
    intro vs kds r e
    cases r with
    | cons h t =>
      unfold pairsD at e
      obtain ⟨⟨kk, x⟩, ep, e⟩ := Option.bind_eq_some_iff.mp e
      obtain ⟨r, er, rfl⟩ := Option.map_eq_some_iff.mp e
      obtain ⟨ps, kvs, rfl, hp, kv⟩ := ih t er
      obtain ⟨p, y, rfl, hq, r2⟩ := pair_of S h ep
      exact ⟨p :: ps, (kk.key, y) :: kvs, rfl, .cons hq hp, .cons r2 kv⟩
def gDictR1 : D → Option Slot
  | .fx .rc [] xs => (pairsD xs).map fun kds => .own (dctO (FL.mergeA [] kds))
  | _ => none
def gDictR : List D → Option Slot := fun ds => match ds with
  | [d] => gDictR1 d
  | _ => none
theorem vr_newD {Z F : Hp} {ρ : List Addr} {μ : Mem} {δ : Loc} {σ : L2.St} {H : Hp} {p : Addr} {kvs : List (Key × V)} {kds : List (DK × D)} (S : Sim X.K X.mg Z F ρ μ δ σ H) (hp : H p = none) (r : KV X.K X.mg F ρ kvs kds) :
    Sim X.K X.mg Z F ρ μ δ σ (upd H p (.dK kvs)) ∧ VR X.K X.mg Z F ρ δ σ (upd H p (.dK kvs)) (.ref p) (.own (dctO kds)) := by
  obtain ⟨n1, n2, n3, n4⟩ := S.notIn hp
  exact ⟨S.laid hp, ⟨p, rfl, ⟨n1, n2, n3⟩, kv_own r upd_same⟩, fun o p z z2 => by cases z2; exact n4⟩
theorem j_dictR : RLJ X (cr_dictRr X) gDictR := by
  intro Z F ρ μ δ σ H xs ds s Q S b e q
  unfold gDictR at e
  split at e
  · rename_i d
    obtain ⟨v, rfl, hb⟩ := b.one
    cases d <;> first | (cases e; done) | skip
    rename_i m' ks' row
    cases m' <;> cases ks' <;> first | (cases e; done) | skip
    obtain ⟨kds, e1, rfl⟩ := Option.map_eq_some_iff.mp (show (pairsD row).map _ = some s from e)
    obtain ⟨p, o, vs, rfl, hq, hd, r⟩ := hb.rc S
    obtain ⟨ps, kvs, rfl, hp, kv⟩ := paired_of S r e1
    refine ⟨p, o, ps, kvs, rfl, hq, hd, hp, fun l hl => ?_⟩
    obtain ⟨S', vr⟩ := vr_newD S hl (KV.mergeA kv .nil)
    exact q _ _ F .refl S' vr
  · cases e
abbrev rDictD : List V → Hp → VK → Prop := fun xs H Q => ∃ (a : Addr) (kvs : List (Key × V)), xs = [.ref a] ∧ Rd H a (.dK kvs) ∧ ∀ p, H p = none → Q (.ref p) (upd H p (.dK kvs))
theorem j_dictD : RLJ X rDictD gDictD := by
  intro Z F ρ μ δ σ H xs ds s Q S b e q
  unfold gDictD at e
  split at e
  · rename_i d
    obtain ⟨v, rfl, hb⟩ := b.one
    obtain ⟨⟨ks, vs⟩, ed, e⟩ := Option.bind_eq_some_iff.mp e
    dsimp only at e
    by_cases hl : ks.length = vs.length
    · rw [if_pos hl] at e
      cases e
      obtain ⟨p, ws, rfl, hr, hl2, r⟩ := bor_dct S hb ed
      refine ⟨p, _, rfl, hr, fun l hn => ?_⟩
      obtain ⟨S', vr⟩ := vr_newD S hn (KV.of hl2 r)
      have e2 : dctO (ks.zip vs) = .dct ks vs := by
        unfold dctO
        rw [show (ks.zip vs).map (·.1) = ks from List.map_fst_zip (Nat.le_of_eq hl), show (ks.zip vs).map (·.2) = vs from List.map_snd_zip (Nat.le_of_eq hl.symm)]
      rw [e2] at vr
      exact q _ _ F .refl S' vr
    · rw [if_neg hl] at e; cases e
  · cases e
def gDict : List D → Option Slot := fun x => (gDictR x).or (gDictD x)
theorem cr_dict (hc : X.calm = true) : CallR X (.type "dict") (fun xs H Q => cr_dictRr X xs H Q ∨ rDictD xs H Q) := (cr_dictR hc).or call_dictD
theorem j_dict : RLJ X (fun xs H Q => cr_dictRr X xs H Q ∨ rDictD xs H Q) gDict := RLJ.or j_dictR j_dictD
abbrev rInDk (neg : Bool) : R2 := fun y x H Q => ∃ a o, x = .ref a ∧ DGet H a y o ∧ Q (.bl (o.isSome != neg)) H
theorem j_inD (neg : Bool) : R2J X (rInDk neg) (gInD neg) := by
  intro Z F ρ μ δ σ H y x dy dx s Q S bY bx e q
  obtain ⟨⟨ks, ds⟩, ed, e⟩ := Option.bind_eq_some_iff.mp e
  obtain ⟨kk, ek, rfl⟩ := Option.map_eq_some_iff.mp e
  obtain ⟨a, r, rfl, g, hr⟩ := dget_of S bx ed bY ek
  refine ⟨a, r, rfl, g, q _ H F .refl S ⟨?_, fun o p z => by cases z⟩⟩
  rcases hr with ⟨v, d, rfl, eg, _⟩ | ⟨rfl, eg⟩
  · rw [eg]; exact .bl
  · rw [eg]; exact .bl
theorem inD_ {a b : Expr} {oa ob : Opn} (hu : X.A.units + 1 < cLine) (ha : JO X W a oa) (hb : JO X W b ob) (hm : behindInMarks .In b = false := by rfl) : JE X W (.Compare a [.In] [b] pos) (m2 (gInD false) oa ob) :=
  (pe_cmp (pc_din hu ha hb) hm).imp fun σ H Q h => by
    have := m2_read (j_inD false) σ H Q h
    simpa only [tOp, tDIn, rInDk, Bool.bne_false] using this
end
end FL
namespace FL
open PySem PySem.Spec PyProof.Rows L2 PySem.SeqAt
section
variable {M : Model} {P : Program} {w : World} {A : Around} {E : Value → Shared → Prop} {s : Shared} {K : PySem.W.Frag} {x y C : Addr} {ox oy : Obj} {od oe : Option Obj}
theorem same_refs {R : Bool → Shared → Prop} (hx : s.heap.get? x = some ox) (hy : s.heap.get? y = some oy) (hc : ox.cls = .ref C) (h : R (decide (x = y)) s) : wpAny M A (isSame (.ref x) (.ref y)) R E s := by
  by_cases e : x = y
  · subst e
    rw [decide_eq_true rfl] at h
    exact wpAny_isSame_ref_self h
  · rw [decide_eq_false e] at h
    have e' : ¬ ((x == y) = true) := by simpa using e
    unfold isSame
    simp only [if_neg e']
    refine wpAny_bind (wpAny_load hx (wpAny_bind (wpAny_load hy ?_)))
    simp only [hc]
    exact wpAny_pure h
theorem entry_id {Q : PySem.Fin → Shared → Prop} (hx : s.heap.get? x = some ox) (hy : s.heap.get? y = some oy) (hc : ox.cls = .ref C) (hq : Q (.done (.ret (if x = y then .bool true else .notImplemented))) s) :
    wpAny M A (Builtin.«object.__eq__» ⟨[.ref x, .ref y], []⟩) Q E s := by
  (unfold Builtin.«object.__eq__»; show wpAny M A (isSame (.ref x) (.ref y) >>= _) Q E s)
  refine wpAny_bind (same_refs hx hy hc ?_)
  by_cases e : x = y
  · rw [if_pos e] at hq
    rw [decide_eq_true e]
    exact wpAny_pure hq
  · rw [if_neg e] at hq
    rw [decide_eq_false e]
    exact wpAny_pure hq
theorem try_id (X : K.In s.heap) (I : PySem.W.InstAt s.heap x ox C od) (hy : s.heap.get? y = some oy) (hx : s.heap.get? x = some ox) (hc : ox.cls = .ref C) (hm : PySem.W.mroIn K C (.type "object") = some true) (hs : PySem.W.findIn K (.ref C) "__eq__" = some (some (.builtin "object.__eq__"))) :
    wpAny (model P w) A (tryCompare (.ref x) "__eq__" (.ref y)) (fun r s' => r = (if x = y then some (.bool true) else none) ∧ s' = s) E s := by
  unfold tryCompare
  refine wpAny_bind (HN.ifBound_objEq X I hs (wpAny_call (codeAny_call_builtin F.cmp_object.eq.plain F.cmpEntry_eq (PySem.W.check_slot F.cmpKind_eq F.cmpSplit_eq (I.type.andThen (PySem.W.looks_mroIn X hm)) (F.cmpArgs_eq _ _) (entry_id hx hy hc ?_)))))
  by_cases e : x = y
  · rw [if_pos e, if_pos e]
    exact wpAny_pure ⟨rfl, rfl⟩
  · rw [if_neg e, if_neg e]
    exact wpAny_pure ⟨rfl, rfl⟩
theorem rc_id (hu : A.units < cLine) (X : K.In s.heap) (I : PySem.W.InstAt s.heap x ox C od) (J : PySem.W.InstAt s.heap y oy C oe) (hx : s.heap.get? x = some ox) (hy : s.heap.get? y = some oy) (hc : ox.cls = .ref C) (hc2 : oy.cls = .ref C) (hm : PySem.W.mroIn K C (.type "object") = some true) (hs : PySem.W.findIn K (.ref C) "__eq__" = some (some (.builtin "object.__eq__"))) :
    RcAt A s (.ref x) (.ref y) (decide (x = y)) := fun P w E Q h => by
  have one := try_id (P := P) (w := w) (A := A) (E := E) X I hy hx hc hm hs
  have two := try_id (P := P) (w := w) (A := A) (E := E) X J hx hy hc2 hm hs
  simp only [richCompare, cmpInfo_Eq, oneThing_ref]
  refine wpAny_holding (wpAny_bind (wpAny_cRoomFor hu (wpAny_bind (I.type.here (wpAny_bind (J.type.here ?_))))))
  rw [if_neg (by simp)]
  refine wpAny_bind (wpAny_pure ?_)
  simp only [Bool.false_eq_true, if_false, Bool.not_false, if_true]
  refine wpAny_bind (m := tryCompare (.ref x) _ (.ref y)) (wpAny_mono one (fun r s1 z => ?_) fun _ _ e => e)
  obtain ⟨rfl, rfl⟩ := z
  by_cases e : x = y
  · rw [decide_eq_true e] at h
    rw [if_pos e]
    exact wpAny_pure h
  · rw [decide_eq_false e] at h
    rw [if_neg e]
    refine wpAny_bind (m := tryCompare (.ref y) _ (.ref x)) (wpAny_mono two (fun r s2 z => ?_) fun _ _ e => e)
    obtain ⟨rfl, rfl⟩ := z
    rw [if_neg (Ne.symm e)]
    refine wpAny_bind (wpAny_rule (wpAny_bind (same_refs hx hy hc (wpAny_pure ?_))))
    rw [decide_eq_false e]
    exact h
theorem rc_non (hu : A.units < cLine) (X : K.In s.heap) (I : PySem.W.InstAt s.heap x ox C od) (hm : PySem.W.mroIn K C (.type "object") = some true) (hs : PySem.W.findIn K (.ref C) "__eq__" = some (some (.builtin "object.__eq__"))) (hn : PySem.W.subIn K (.ref C) (.type "NoneType") = some false) :
    RcAt A s .none (.ref x) false := fun P w E Q h => by
  have one : wpAny (model P w) A (tryCompare (.ref x) "__eq__" .none) (fun r s' => r = none ∧ s' = s) E s := by
    unfold tryCompare
    exact wpAny_bind (HN.ifBound_objEq X I hs (HN.call_objEq X I hm (wpAny_pure ⟨rfl, rfl⟩)))
  have two : wpAny (model P w) A (tryCompare .none "__eq__" (.ref x)) (fun r s' => r = none ∧ s' = s) E s :=
    wpAny_tryCompare_declines (show s.TypeIs .none "NoneType" from rfl) F.slot_NoneType_eq (call_gives F.slot_NoneType_eq rfl F.entry_NoneType_eq (F.args_NoneType_eq_2 _ _) (NoneType___eq___none_ref_0 x) ⟨rfl, rfl, rfl⟩)
  simp only [richCompare, cmpInfo_Eq]
  rw [show oneThing? .Eq .none (.ref x) = none from rfl]
  refine wpAny_holding (wpAny_bind (wpAny_cRoomFor hu (wpAny_bind (wpAny_typeOf (show s.TypeIs .none "NoneType" from rfl) (wpAny_bind (I.type.here ?_))))))
  rw [if_pos (by simp)]
  refine wpAny_bind ((PySem.W.looks_subIn X hn).here ?_)
  simp only [Bool.false_eq_true, if_false, Bool.not_false, if_true]
  refine wpAny_bind (m := tryCompare .none _ (.ref x)) (wpAny_mono two (fun r s1 z => ?_) fun _ _ e => e)
  obtain ⟨rfl, rfl⟩ := z
  refine wpAny_bind (m := tryCompare (.ref x) _ .none) (wpAny_mono one (fun r s2 z => ?_) fun _ _ e => e)
  obtain ⟨rfl, rfl⟩ := z
  exact wpAny_bind (wpAny_rule (wpAny_bind (wpAny_of_eq (rfl : isSame .none (.ref x) = pure false) (wpAny_pure h))))
end
structure IdC (K : PySem.W.Frag) (C : Addr) : Prop where
  ob : PySem.W.mroIn K C (.type "object") = some true
  eq : PySem.W.findIn K (.ref C) "__eq__" = some (some (.builtin "object.__eq__"))
  nn : PySem.W.subIn K (.ref C) (.type "NoneType") = some false
def IdCs (K : PySem.W.Frag) (mg : Str → Option Value) (cs : List String) : Prop := ∀ c ∈ cs, ∀ C, mg (Str.ofString c) = some (.ref C) → IdC K C
def rIdE (X : Cx) : R2 := fun x y H Q => ∃ q C dy gs, y = .ref q ∧ H q = some (.ins C dy gs) ∧ IdC X.K C ∧ ((x = .non ∧ Q (.bl false) H) ∨ ∃ p dx fs, x = .ref p ∧ H p = some (.ins C dx fs) ∧ Q (.bl (decide (p = q))) H)
section
variable {X : Cx} {W : WX} {a b : Expr} {pos : Pos} {ma mb : ME} {k : Nat} {N : List Str} {sc : Scope}
theorem op_idE (hu : X.A.units < cLine) : OpR X (compareOp .Eq) (rIdE X) := by
  intro pins s σ H x y v u Q I rx ry h
  obtain ⟨q, C, dy, gs, rfl, hq, c, h⟩ := h
  cases ry
  obtain ⟨mq, O, _⟩ := ins_get I.hok hq
  obtain ⟨oq, J, _⟩ := O.look
  obtain ⟨_, _, _, gq, _⟩ := I.hok q _ hq
  show wpAny (model X.prog X.w) X.A (richCompare .Eq v (.ref q)) (EP X pins σ Q) X.xe s
  rcases h with ⟨rfl, h⟩ | ⟨p, dx, fs, rfl, hp, h⟩
  · cases rx
    exact rc_non hu I.kIn J c.ob c.eq c.nn X.prog X.w X.xe _ ⟨.bl false, H, I, rfl, h⟩
  · cases rx
    obtain ⟨mp, O', _⟩ := ins_get I.hok hp
    obtain ⟨op, J', _⟩ := O'.look
    obtain ⟨_, _, _, gp, _⟩ := I.hok p _ hp
    exact rc_id hu I.kIn J' J gp gq rfl rfl c.ob c.eq X.prog X.w X.xe _ ⟨.bl _, H, I, rfl, h⟩
def clsM (μ : Mem) (k : Nat) : Option String := match μ[k]? with
  | some (.ins c _ _ _) => some c
  | _ => none
def idD (cs : List String) (μ : Mem) : D → D → Option Bool
  | .non, .obj j => (clsM μ j).bind fun c => if c ∈ cs then some false else none
  | .obj i, .obj j => (clsM μ i).bind fun c => (clsM μ j).bind fun c' => if c = c' ∧ c ∈ cs then some (decide (i = j)) else none
  | _, _ => none
def mEqI (cs : List String) (ma mb : ME) : ME := fun δ μ => (ma δ μ).bind fun sa δ1 μ1 => (mb δ1 μ1).bind fun sb δ2 μ2 => match idD cs μ2 sa.d sb.d with
  | some r => .ok (.fr (.bl r)) δ2 μ2
  | none => .bad
theorem clsM_at {Z F H : Hp} {ρ : List Addr} {μ : Mem} {δ : Loc} {σ : L2.St} {v : V} {i : Nat} {c : String} (S : Sim X.K X.mg Z F ρ μ δ σ H) (h : Rep X.K X.mg F ρ v (.obj i)) (e : clsM μ i = some c) :
    ∃ p C dx fs, v = .ref p ∧ ρ[i]? = some p ∧ X.mg (Str.ofString c) = some (.ref C) ∧ H p = some (.ins C dx fs) := by
  unfold clsM at e
  cases e1 : μ[i]? with
  | none => rw [e1] at e; cases e
  | some o =>
    rw [e1] at e
    cases o with
    | ins c' kd ks ds =>
      cases e
      obtain ⟨p, C, dx, vs, rfl, hm, hH, _, _⟩ := ins_at (d := .obj i) (c := c) (ks := ks) (ds := ds) S h (by simp only [insOf, e1])
      cases h with
      | obj hr => exact ⟨p, C, dx, _, rfl, hr, hm, hH⟩
    | _ => cases e
theorem idE_read {cs : List String} (CC : IdCs X.K X.mg cs) : ∀ σ H Q, rdE X W (mEqI cs ma mb) σ H Q →
    tOp (rIdE X) (fun σ H Q => ∃ Z F ρ μ δ, Sim X.K X.mg Z F ρ μ δ σ H ∧ FinE X W Z F ρ σ (fun s δ' μ' F' ρ' H' => ∀ v, Rep X.K X.mg F' ρ' v s.d → Q v H') (ma δ μ))
      (fun σ H Q => ∃ Z F ρ μ δ, Sim X.K X.mg Z F ρ μ δ σ H ∧ FinE X W Z F ρ σ (fun s δ' μ' F' ρ' H' => ∀ v, Rep X.K X.mg F' ρ' v s.d → Q v H') (mb δ μ)) σ H Q := by
  intro σ H Q ⟨Z, F, ρ, μ, δ, S, q⟩
  refine ⟨Z, F, ρ, μ, δ, S, (FinE.bind q).imp fun sa δ1 μ1 H1 F1 ρ1 l1 lr1 S1 ⟨_, _, _, q1⟩ x hx => ?_⟩
  refine ⟨Z, F1, ρ1, μ1, δ1, S1, (FinE.bind q1).imp fun sb δ2 μ2 H2 F2 ρ2 l2 lr2 S2 ⟨_, _, _, z⟩ y hy => ?_⟩
  have hx2 := hx.up l2.to lr2.to
  generalize sa.d = da at hx2 z
  generalize sb.d = db at hy z
  cases ei : idD cs μ2 da db with
  | none => simp only [ei] at z; exact z.elim
  | some r =>
    simp only [ei] at z
    have fin : ∀ r', r' = r → Q (.bl r') H2 := fun r' e => by
      subst e
      exact z H2 F2 ρ2 .refl .refl S2 _ (VR.fr' .bl)
    cases db <;> first | (cases da <;> (cases ei; done)) | skip
    rename_i j
    cases da <;> first | (cases ei; done) | skip
    · obtain ⟨c, e1, e2⟩ := Option.bind_eq_some_iff.mp (show (clsM μ2 j).bind _ = some r from ei)
      by_cases hc : c ∈ cs
      · rw [if_pos hc] at e2
        obtain ⟨p, C, dx, fs, rfl, _, hm, hH⟩ := clsM_at S2 hy e1
        cases hx2
        exact ⟨p, C, dx, fs, rfl, hH, CC c hc C hm, .inl ⟨rfl, fin _ (Option.some.inj e2)⟩⟩
      · rw [if_neg hc] at e2; cases e2
    · rename_i i
      obtain ⟨c, e1, e2⟩ := Option.bind_eq_some_iff.mp (show (clsM μ2 i).bind _ = some r from ei)
      obtain ⟨c', e3, e4⟩ := Option.bind_eq_some_iff.mp e2
      by_cases hc : c = c' ∧ c ∈ cs
      · rw [if_pos hc] at e4
        obtain ⟨rfl, hc⟩ := hc
        obtain ⟨q, C, dy, gs, rfl, hrq, hm, hH⟩ := clsM_at S2 hy e3
        obtain ⟨p, C', dx, fs, rfl, hrp, hm', hH'⟩ := clsM_at S2 hx2 e1
        rw [hm] at hm'
        cases hm'
        refine ⟨q, C, dy, gs, rfl, hH, CC c hc C hm, .inr ⟨p, dx, fs, rfl, hH', fin _ ?_⟩⟩
        rw [← Option.some.inj e4, decide_eq_decide]
        constructor
        · intro e
          subst e
          exact (List.getElem?_inj (List.getElem?_eq_some_iff.mp hrp).1 S2.nod).mp (hrp.trans hrq.symm)
        · intro e
          subst e
          rw [hrp] at hrq
          exact Option.some.inj hrq
      · rw [if_neg hc] at e4; cases e4
end
end FL
namespace FL
open PySem PySem.Spec PyProof.Rows L2
section
variable {X : Cx} {W : WX} {k : Nat} {N : List Str} {sc : Scope} {e : Expr} {os : List Opn} {pos p pos' p' : Pos}
def rLenS (P : Program) (w : World) : List V → Hp → VK → Prop := fun xs H Q => ∃ (a : Addr) (l : List Str), xs = [V.ref a] ∧ H a = some (SetSO P w a l) ∧ Q (.int l.length) H
theorem cr_lenS : CallR X (.builtin "len") (rLenS X.prog X.w) := by
  intro pins s σ H xs us Q I r h
  obtain ⟨a, l, rfl, ha, q⟩ := h
  have R : TxSet X.prog X.w s.heap a l := (I.hok a _ ha).1
  obtain ⟨D, g, ok, _⟩ := R.ob
  have few := R.few
  rw [Vals.ref1 r]
  refine call_len_set g ⟨rfl, rfl, rfl⟩ rfl ok.fit (by rw [ok.sz]; unfold scanBound at few; omega) ?_
  rw [ok.sz]
  exact ⟨.int l.length, H, I.tok _, ⟨_, rfl⟩, q⟩
def gLenS1 : D → Option Slot
  | .lst ys => if ys.all isTx = true ∧ ys.length < 4000 then some (.fr (.int ((ys.map txOf).foldl insT []).length)) else none
  | _ => none
def gLenS : List D → Option Slot := fun ds => match ds with
  | [d] => gLenS1 d
  | _ => none
def rLS (X : Cx) : List V → Hp → VK → Prop := fun xs H Q => rSetS X.K X.prog X.w xs H fun v H1 => rLenS X.prog X.w [v] H1 Q
theorem j_ls : RLJ X (rLS X) gLenS := by
  intro Z F ρ μ δ σ H xs ds s Q S bs e q
  unfold gLenS at e
  split at e
  · rename_i d
    obtain ⟨v, rfl, bv⟩ := bs.one
    cases d <;> first | (cases e; done) | skip
    rename_i ys
    have e : (if ys.all isTx = true ∧ ys.length < 4000 then some (Slot.fr (.int ((ys.map txOf).foldl insT []).length)) else none) = some s := e
    by_cases hc : ys.all isTx = true ∧ ys.length < 4000
    · rw [if_pos hc] at e
      cases e
      obtain ⟨a, vs, rfl, hH, rl⟩ := bv.lst S
      have hy := tx_map hc.1
      rw [hy] at rl
      have hv := rep_strs rl
      subst hv
      refine ⟨a, (ys.map txOf).map toS, rfl, .of hH, by rw [List.length_map, List.length_map]; unfold scanBound; omega, fun b hb => ⟨b, _, rfl, upd_same, ?_⟩⟩
      have e2 : (((ys.map txOf).map toS).foldl insS []).length = ((ys.map txOf).foldl insT []).length := by
        rw [show ([] : List Str) = ([] : List Tx).map toS from rfl, fold_toS, List.length_map]
      rw [e2]
      exact q _ _ F .refl (S.laid hb) ⟨.int, fun o p z => by cases z⟩
    · rw [if_neg hc] at e; cases e
  · cases e
theorem Cs.lenSet (C : Cs X W k N sc) (h1 : glC sc "len" = true) (m1 : X.mg "len" = none) (h2 : glC sc "set" = true) (m2 : X.mg "set" = none) (ha : JOs X W [e] os)
    (he : starEach [e] X.env = (false, eval e X.env) :: starEach [] X.env := by rfl)
    (he2 : starEach [.Call (.Name "set" p') [e] [] pos'] X.env = (false, eval (.Call (.Name "set" p') [e] [] pos') X.env) :: starEach [] X.env := by rfl) :
    JE X W (.Call (.Name "len" p) [.Call (.Name "set" p') [e] [] pos'] [] pos) (mC gLenS os) :=
  (pe_callB cr_lenS (C.gl h1).1 m1 PySem.boot_len (pa_cons (pe_callTy (cr_setS C.calm) (C.gl h2).1 m2 rfl ha (by decide) (by decide) he rfl) pa_nil he2) (by decide) (by decide) he2 rfl).imp (mC_read j_ls)
end
end FL
namespace FL
open PySem PySem.Spec PyProof.Rows L2
section
variable {P : Program} {w : World} {A : Around} {E : Value → Shared → Prop} {s : Shared}
theorem put_pair {d : Addr} {kvs : List (Key × Value)} {k : Key} {key v : Value} {Q : Unit → Shared → Prop} (hkey : (mixKind P w).is k key = true) (hm : s.heap.DictOf (mixKind P w) d kvs) (hz : kvs.length ≤ sizeLine)
    (hQ : ∀ h', h'.DictOf (mixKind P w) d (stored kvs k v) → Heap.SameBut d s.heap h' → Q () { s with heap := h' }) : wpAny (model P w) A (dictPut d ((mixKind P w).hash k) key v) Q E s := by
  obtain ⟨o, es, ep, ho, hc, hd, hk, hp, hn⟩ := hm
  have hes : es.size ≤ sizeLine := by
    have e1 := hp.length
    have e2 : es.toList.length = es.size := by simp
    omega
  have idx : (es.findIdx? fun e => (mixKind P w).is k e.key) = kvs.findIdx? fun kv => decide (kv.1 = k) := by
    rw [← hp.findIdx k]
    obtain ⟨l⟩ := es
    simp
  unfold dictPut
  refine wpAny_bind (wpAny_dictFind_of hkey ho hd hk ?_)
  cases hi : es.findIdx? fun e => (mixKind P w).is k e.key with
  | some i =>
    refine wpAny_updateDict ho hd (hQ _ ⟨_, _, ep, Heap.get?_update_self _ ho (Obj.isFreed_of_dict (Obj.data_mapDict hd _)), hc.mapDict _, Obj.data_mapDict hd _, hk.modify _ _, ?_, ?_⟩ (Heap.SameBut.update ..))
    · have hl : (es.toList.findIdx? fun e => (mixKind P w).is k e.key) = some i := by
        rw [← hi]
        obtain ⟨l⟩ := es
        simp
      have := hp.modify hn hl v
      rw [stored, if_pos (any_of_findIdx_some (idx ▸ hi))]
      obtain ⟨l⟩ := es
      simpa using this
    · rw [stored, if_pos (any_of_findIdx_some (idx ▸ hi)), keys_map_store]
      exact hn
  | none =>
    have out : k ∉ kvs.map (·.1) := not_mem_of_findIdx_none (idx ▸ hi)
    have nany : ¬ (kvs.any fun kv => decide (kv.1 = k)) = true := by
      rw [List.any_eq_true]
      rintro ⟨kv, hkv, he⟩
      exact out (List.mem_map.mpr ⟨kv, hkv, of_decide_eq_true he⟩)
    refine wpAny_updateDictKeys (hz := hes) ho hd (hQ _ ⟨_, _, ep + 1, Heap.get?_update_self _ ho (Obj.isFreed_of_dict (Obj.data_mapDictKeys hd _)), hc.mapDictKeys _, Obj.data_mapDictKeys hd _, hk.push hkey _, ?_, ?_⟩ (Heap.SameBut.update ..))
    · have := hp.append hkey ((mixKind P w).hash k) v
      rw [stored, if_neg nany]
      obtain ⟨l⟩ := es
      simpa using this
    · rw [stored, if_neg nany, List.map_append, List.nodup_append]
      exact ⟨hn, by simp, fun a ha b hb e => out (by
        have hb' : b = k := by simpa using hb
        rw [← hb', ← e]
        exact ha)⟩
theorem key_noref {k : Key} {v : Value} (h : (mixKind P w).is k v = true) : ∀ a, v ≠ .ref a := by
  rcases keyIs_shape h with ⟨i, t, rfl, rfl⟩ | ⟨x, t, rfl, rfl⟩ <;> exact fun a e => by cases e
theorem Prs_at {es : List DictEntry} {kvs : List (Key × Value)} (h : PySem.Pairs (mixKind P w) es kvs) : ∀ (i : Nat) (e : DictEntry), es[i]? = some e → ∃ k, kvs[i]? = some (k, e.val) ∧ (mixKind P w).is k e.key = true := by
  induction h with
  | nil => intro i e h; simp at h
  | cons hk hv t ih =>
    intro i e h
    cases i with
    | zero =>
      simp at h
      subst h
      exact ⟨_, by rw [hv]; rfl, hk⟩
    | succ i => exact ih i e (by simpa using h)
theorem merged_len : ∀ (more got : List (Key × Value)), (merged got more).length ≤ got.length + more.length
  | [], got => Nat.le_refl _
  | p :: more, got => by
    have h1 := merged_len more (stored got p.1 p.2)
    have h2 := stored_length_le got p.1 p.2
    show (merged (stored got p.1 p.2) more).length ≤ _
    rw [List.length_cons]
    omega
theorem merge_map {d a : Addr} {got kvs : List (Key × Value)} {Q : Unit → Shared → Prop} (hda : a ≠ d) (hsm : (a == sysModules) = false) (h0 : s.heap.DictOf (mixKind P w) d got) (ha : s.heap.DictOf (mixKind P w) a kvs) (hz : got.length + kvs.length ≤ sizeLine)
    (hQ : ∀ h', h'.DictOf (mixKind P w) d (merged got kvs) → Heap.SameBut d s.heap h' → Q () { s with heap := h' }) : wpAny (model P w) A (mergeMapping d (.ref a) false) Q E s := by
  obtain ⟨od, esd, epd, god, hcd, hdd, _⟩ := id h0
  obtain ⟨oa, esa, epa, goa, hca, hda', hka, hpa, hna⟩ := id ha
  have hlen : esa.size = kvs.length := by
    have e1 := hpa.length
    simpa using e1
  have loop : ∀ (f : Nat → PUnit → Sem (ForInStep PUnit)) (Q2 : PUnit → Shared → Prop), (∀ i s' e, esa[i]? = some e → s'.heap.get? a = some oa → ∀ (R : Unit → Shared → Prop) (R2 : ForInStep PUnit → Shared → Prop), wpAny (model P w) A (dictPut d e.hash e.key e.val) R E s' → (∀ s2, s2.heap.get? a = some oa → R () s2 → R2 (.yield PUnit.unit) s2) → (∀ s2, R () s2 → s2.heap.get? a = some oa) → wpAny (model P w) A (f i PUnit.unit) R2 E s') →
      (∀ h', h'.DictOf (mixKind P w) d (merged got kvs) → Heap.SameBut d s.heap h' → Q2 PUnit.unit { s with heap := h' }) → wpAny (model P w) A (forIn (List.range esa.size) PUnit.unit f) Q2 E s := by
    intro f Q2 hf hq
    rw [List.range_eq_range']
    refine wpAny_forIn_list f (fun rest _ s' => ∃ i h', i ≤ esa.size ∧ rest = List.range' i (esa.size - i) ∧ s' = { s with heap := h' } ∧ h'.DictOf (mixKind P w) d (merged got (kvs.take i)) ∧ Heap.SameBut d s.heap h') Q2 (fun x rest b s' hI => ?_) (fun b s' hI => ?_) _ _ ⟨0, s.heap, Nat.zero_le _, rfl, rfl, by simpa [merged] using h0, ⟨rfl, fun _ _ => rfl⟩⟩
    · obtain ⟨i, h', hi, er, rfl, hd', sb⟩ := hI
      have hlt : i < esa.size := by
        rcases Nat.lt_or_ge i esa.size with z | z
        · exact z
        · rw [show esa.size - i = 0 by omega] at er
          cases er
      rw [show esa.size - i = (esa.size - (i + 1)) + 1 by omega, List.range'_succ] at er
      injection er with e1 e2
      subst e1
      have ge : esa[x]? = some esa[x] := Array.getElem?_eq_getElem hlt
      obtain ⟨k, ek, ik⟩ := Prs_at hpa x esa[x] (by simpa using ge)
      obtain ⟨k', ik', eh⟩ := hka esa[x] (Array.getElem_mem hlt)
      have ekk : k = k' := (mixKind P w).inj _ _ _ ik ik'
      subst ekk
      have ga : h'.get? a = some oa := (sb.2 a hda).trans goa
      have hz2 : (merged got (kvs.take x)).length ≤ sizeLine := by
        refine Nat.le_trans (merged_len (kvs.take x) got) ?_
        rw [List.length_take]
        omega
      refine hf x _ esa[x] ge ga (fun _ s2 => ∃ h2, s2 = { s with heap := h2 } ∧ h2.DictOf (mixKind P w) d (merged got (kvs.take (x + 1))) ∧ Heap.SameBut d s.heap h2) _ ?_ (fun s2 _ hs2 => ?_) fun s2 hs2 => ?_
      · rw [eh]
        refine put_pair (s := { s with heap := h' }) ik hd' hz2 fun h2 hd2 sb2 => ⟨h2, rfl, ?_, ⟨sb2.1.trans sb.1, fun c hc => (sb2.2 c hc).trans (sb.2 c hc)⟩⟩
        have et : kvs.take (x + 1) = kvs.take x ++ [(k, esa[x].val)] := by
          rw [List.take_succ, ek]
          rfl
        rw [et]
        unfold merged at hd2 ⊢
        rw [List.foldl_append]
        exact hd2
      · obtain ⟨h2, rfl, z1, z2⟩ := hs2
        exact ⟨x + 1, h2, hlt, e2, rfl, z1, z2⟩
      · obtain ⟨h2, rfl, z1, z2⟩ := hs2
        exact (z2.2 a hda).trans goa
    · obtain ⟨i, h', hi, er, rfl, hd', sb⟩ := hI
      have : esa.size - i = 0 := by
        cases q : esa.size - i with
        | zero => rfl
        | succ m => rw [q, List.range'_succ] at er; cases er
      rw [List.take_of_length_le (by omega)] at hd'
      exact hq h' hd' sb
  unfold mergeMapping
  refine wpAny_bind (wpAny_isInstance ha.typeIs isSubtype_dict_dict ?_)
  rw [if_pos rfl]
  refine wpAny_bind (wpAny_specialOf ha.typeIs F.slot_dict_iter.lookup (wpAny_bind (wpAny_pure ?_)))
  rw [show (some (Value.builtin "dict.__iter__") == some (Value.builtin "dict.__iter__")) = true by simp]
  dsimp only
  rw [hsm, if_neg Bool.false_ne_true]
  refine wpAny_bind (wpAny_dictEntries god hdd ?_)
  have rest : ∀ (t : Sem Unit), t = (do
      let es ← dictEntries a
      let epoch ← dictEpoch a
      forIn (List.range es.size) PUnit.unit fun i _ => do
        match (← dictEntries a)[i]? with
        | some e =>
          holding [e.key, e.val] (dictPut d e.hash e.key e.val)
          if ((← dictEpoch a) != epoch) = true then do
            unsupported "dict.changed-during-merge"
            pure (ForInStep.yield PUnit.unit)
          else pure (ForInStep.yield PUnit.unit)
        | _ => do
          unsupported "dict.changed-during-merge"
          pure (ForInStep.yield PUnit.unit)
      pure ()) → wpAny (model P w) A t Q E s := by
    intro t et
    subst et
    refine wpAny_bind (wpAny_dictEntries goa hda' (wpAny_bind (wpAny_dictEpoch goa hda' (wpAny_bind (loop _ _ (fun i s' e ge ga R R2 hp h2 h3 => ?_) fun h' z1 z2 => wpAny_pure (hQ h' z1 z2))))))
    refine wpAny_bind (wpAny_dictEntries ga hda' ?_)
    simp only [ge]
    refine wpAny_bind (wpAny_holding (wpAny_mono hp (fun _ s2 hr => ?_) fun _ _ z => z))
    have g2 := h3 s2 hr
    refine wpAny_bind (wpAny_dictEpoch g2 hda' ?_)
    rw [if_neg (by simp)]
    exact wpAny_pure (h2 s2 g2 hr)
  by_cases he : esd.isEmpty = true
  · rw [if_pos he]
    refine wpAny_bind (wpAny_dictEntries goa hda' (wpAny_bind (wpAny_forIn_array' _ (fun l _ s' => s' = s ∧ ∀ e ∈ l, e ∈ esa.toList) _ (fun x l b s' hI => ?_) (fun b s' hI => ?_) _ _ ⟨rfl, fun e he => he⟩)))
    · obtain ⟨rfl, hm⟩ := hI
      obtain ⟨k, ik, _⟩ := hka x (by simpa using hm x List.mem_cons_self)
      have nr := key_noref ik
      cases hx : x.key with
      | ref b => exact absurd hx (nr b)
      | _ => exact wpAny_pure ⟨rfl, fun e he => hm e (List.mem_cons_of_mem _ he)⟩
    · obtain ⟨rfl, _⟩ := hI
      simp only [Bool.false_eq_true, if_false]
      exact rest _ rfl
  · rw [if_neg he]
    simp only [Bool.false_eq_true, if_false]
    exact rest _ rfl
end
end FL
namespace FL
open PySem PySem.Spec PyProof.Rows L2
section
variable {X : Cx} {W : WX} {de ke ve : Expr} {pos : Pos} {td tk tv : TE}
def tDStar (td tk tv : TE) : TE := fun σ H Q => ∀ p, H p = none → td σ (upd H p (.dK [])) fun x H1 => H1 p = some (.dK []) ∧ ∃ a kvs, x = .ref a ∧ Rd H1 a (.dK kvs) ∧ a ≠ p ∧ kvs.length < sizeLine ∧
  ∀ q, upd H1 p (.dK (mergeK [] kvs)) q = none → tk σ (upd (upd H1 p (.dK (mergeK [] kvs))) q (.dK [])) fun y H2 => tv σ H2 fun z H3 => H3 p = some (.dK (mergeK [] kvs)) ∧ H3 q = some (.dK []) ∧ q ≠ p ∧ ∃ k, y = kV k ∧ Q (.ref p) (upd (upd H3 q (.dK [(k, z)])) p (.dK (mergeK (mergeK [] kvs) [(k, z)])))
theorem eval_ds : eval (.Dict [none, some ke] [de, ve] pos) X.env = (do
    standAt pos
    dictDisplay [(none, (do let x ← eval de X.env; standAt pos; pure x)), (some (eval ke X.env), (do let x ← eval ve X.env; standAt pos; pure x))]) := rfl
theorem dk_merge {pins : List (Addr × Obj)} {σ : L2.St} {H : Hp} {s : Shared} {p a : Addr} {got kvs : List (Key × V)} {A : Around} {E : Value → Shared → Prop} {Q : Unit → Shared → Prop} (I : Inv X pins σ H s) (hp : H p = some (.dK got)) (ha : Rd H a (.dK kvs)) (hap : a ≠ p) (hz : got.length + kvs.length ≤ sizeLine)
    (hQ : ∀ s', Inv X pins σ (upd H p (.dK (mergeK got kvs))) s' → Q () s') : wpAny (model X.prog X.w) A (mergeMapping p (.ref a) false) Q E s := by
  obtain ⟨z1, hsp, vg, rg, dg⟩ := dk_of I.hok hp
  obtain ⟨z2, hsa, va, ra, da⟩ := dk_rd I.hok ha
  have l1 := rg.length
  have l2 := ra.length
  refine merge_map hap hsa dg da (by omega) fun h' dd sb => hQ _ ?_
  have hlen : (mergeK got kvs).length ≤ sizeLine := Nat.le_trans (length_mergeK kvs got) (by omega)
  exact d_write I (by rw [hp]; exact True.intro) sb (let ⟨q, _, _, hq, _⟩ := dd; ⟨q, hq⟩) (dk_new hlen hsp (KV.merge ra rg) dd)
theorem pe_ds (hd : PE X de td) (hk : PE X ke tk) (hv : PE X ve tv) : PE X (.Dict [none, some ke] [de, ve] pos) (tDStar td tk tv) := by
  refine ⟨fun pins s σ H Q I h => ?_⟩
  have hn := I.hok.fresh (Nat.le_refl s.heap.objs.size)
  have I1 := I.laid (a := s.heap.objs.size) (o := .dK []) (h' := s.heap.push { cls := .type "dict", data := .dict #[] }) (t' := s.toks) (fun _ _ q => Heap.get?_push_of_some _ q) (Nat.le_refl _) (dk_empty s.heap I.big)
  have hd1 := h _ hn
  generalize hpe : s.heap.objs.size = p at hn I1 hd1
  rw [eval_ds]
  refine wpAny_bind (wpAny_standAt ?_)
  unfold dictDisplay
  simp only [List.forIn_cons, List.forIn_nil, List.isEmpty_nil, if_true, pure_bind]
  refine wpAny_bind (wpAny_bind (wpAny_bind (wpAny_alloc ?_)))
  rw [hpe]
  refine wpAny_bind (wpAny_holding (wpAny_bind (thn (hd.run pins _ σ _ _ I1 hd1) fun u s2 h2 => wpAny_bind (wpAny_standAt (wpAny_pure ?_)))))
  obtain ⟨x, H1, I2, rx, gp, a, kvs, rfl, hr, hap, hz, h3⟩ := h2
  cases rx
  refine wpAny_bind (wpAny_onRaise (wpAny_tryCatch (wpAny_onRaise (wpAny_holding (dk_merge I2 gp hr hap (by rw [List.length_nil]; omega) fun s3 I3 => wpAny_pure ?_)))))
  dsimp only
  rw [if_neg (by simp)]
  refine wpAny_bind (wpAny_pure ?_)
  dsimp only
  refine wpAny_pure ?_
  dsimp only
  rw [if_neg (by simp)]
  have hn3 : upd H1 p (.dK (mergeK [] kvs)) s3.heap.objs.size = none := I3.hok.fresh (Nat.le_refl _)
  have I4 := I3.laid (a := s3.heap.objs.size) (o := .dK []) (h' := s3.heap.push { cls := .type "dict", data := .dict #[] }) (t' := s3.toks) (fun _ _ q => Heap.get?_push_of_some _ q) (Nat.le_refl _) (dk_empty s3.heap I3.big)
  have h4 := h3 _ hn3
  generalize hqe : s3.heap.objs.size = q at hn3 I4 h4
  refine wpAny_bind (wpAny_bind (wpAny_holding ?_))
  unfold subDict
  refine wpAny_bind (wpAny_alloc ?_)
  rw [hqe]
  refine wpAny_bind (wpAny_holding ?_)
  rw [if_pos (by simp)]
  simp only [List.nil_append, evalPairs, pure_bind]
  refine wpAny_bind (wpAny_bind (thn (hk.run pins _ σ _ _ I4 h4) fun u s5 h5 => ?_))
  obtain ⟨y, H2, I5, ry, h6⟩ := h5
  refine wpAny_bind (wpAny_holding (wpAny_bind (thn (hv.run pins _ σ _ _ I5 h6) fun u2 s6 h7 => wpAny_bind (wpAny_standAt (wpAny_pure ?_)))))
  obtain ⟨z, H3, I6, rz, gp3, gq3, hqp, k, rfl, h8⟩ := h7
  refine wpAny_bind (wpAny_holding (wpAny_pure (wpAny_pure ?_)))
  refine wpAny_holding ?_
  simp only [List.forIn_cons, List.forIn_nil, pure_bind, bind_assoc]
  obtain ⟨z1, hsq, vq, rq, dq⟩ := dk_of I6.hok gq3
  cases rq
  refine wpAny_bind (wpAny_dictSet_pairs (knd := mixKind X.prog X.w) (k := k) (kV_is ry) dq (fun h' dd sb => ?_) (by simp))
  have I7 : Inv X pins σ (upd H3 q (.dK [(k, z)])) { s6 with heap := h', toks := s6.toks + 1 } :=
    d_write I6 (by rw [gq3]; exact True.intro) sb (let ⟨q', _, _, hq', _⟩ := dd; ⟨q', hq'⟩) (dk_new (vs := [(k, u2)]) (by rw [sizeLine_eq]; simp) hsq (.cons ⟨rfl, rz⟩ .nil) dd)
  refine wpAny_pure (wpAny_pure ?_)
  have hp7 : upd H3 q (.dK [(k, z)]) p = some (.dK (mergeK [] kvs)) := by rw [upd_ne (Ne.symm hqp)]; exact gp3
  refine wpAny_bind (wpAny_onRaise (wpAny_holding (dk_merge I7 hp7 (.inl upd_same) hqp ?_ fun s8 I8 => wpAny_pure (wpAny_pure ⟨.ref p, _, I8, rfl, h8⟩))))
  have := length_mergeK kvs []
  rw [List.length_nil] at this
  simp only [List.length_cons, List.length_nil]
  omega
theorem FinE.cutZ {Z Z' F : Hp} {ρ : List Addr} {σ : L2.St} {α β : Type} {Pq : β → Loc → Mem → Hp → List Addr → Hp → Prop} {r : Out α} {g : α → Loc → Mem → Out β} (hL : ∀ F', Le Z' F F' → Le Z F F') (hR : ∀ ρ', LeR Z' ρ ρ' → LeR Z ρ ρ') (h : FinE X W Z F ρ σ Pq (r.cut.bind g)) :
    FinE X W Z' F ρ σ (fun a δ μ F' ρ' H' => Sim X.K X.mg Z' F' ρ' μ δ σ H' ∧ Le Z' F F' ∧ LeR Z' ρ ρ' ∧ FinE X W Z F' ρ' σ Pq (g a δ μ)) r := by
  cases r with
  | ok a δ μ =>
    intro H' F' ρ' l lr S
    exact ⟨S, l, lr, FinE.mono h (hL _ l) (hR _ lr)⟩
  | exc x δ μ => exact h.elim
  | bad => exact h
def mDStar (md mk mv : ME) : ME := fun δ μ => (md δ μ).cut.bind fun sd δ1 μ1 => match dctOf sd.d with
  | some (ks, ds) => if (ks.zip ds).length < 16777216 then (mk δ1 μ1).cut.bind fun sk δ2 μ2 => (mv δ2 μ2).cut.bind fun sv δ3 μ3 => match dkey sk.d with
    | some k => .ok (.own (dctO (putA (FL.mergeA [] (ks.zip ds)) k sv.d))) δ3 μ3
    | none => .bad
    else .bad
  | none => .bad
theorem je_ds {md mk mv : ME} (hd : JE X W de md) (hk : JE X W ke mk) (hv : JE X W ve mv) : JE X W (.Dict [none, some ke] [de, ve] pos) (mDStar md mk mv) := by
  refine (pe_ds hd.locked hk.locked hv.locked).imp fun σ H Q ⟨Z, F, ρ, μ, δ, S, q0⟩ p hp => ?_
  obtain ⟨n1, n2, n3, n4⟩ := S.notIn hp
  have S1 := (S.laid (o := .dK []) hp).guard upd_same ⟨n1, n2, n3⟩ n4
  refine ⟨_, F, ρ, μ, δ, S1, (FinE.cutZ (fun _ l => l.unguard) (fun _ l => l.unguard) q0).imp fun sd δ1 μ1 H1 F1 ρ1 l1 lr1 _ ⟨S2, l1', lr1', q1⟩ v rv => ⟨S2.guarded, ?_⟩⟩
  have fD1 : Free Z F1 ρ1 p := (Free.mk n1 n2 n3).on l1' lr1'
  generalize sd.d = dd at q1 rv
  cases ed : dctOf dd with
  | none => simp only [ed] at q1; exact q1.elim
  | some pp =>
  obtain ⟨ks, ds⟩ := pp
  simp only [ed] at q1
  by_cases hz : (ks.zip ds).length < 16777216
  · rw [if_pos hz] at q1
    obtain ⟨a, vs, rfl, hr, hl, r⟩ := bor_dct S2 (Bor.fr (H := H1) rv) ed
    have kv := KV.of hl r
    have hap : a ≠ p := fun e => by
      cases dd <;> first | (cases ed; done) | skip
      · rename_i m _ _
        cases m <;> first | (cases ed; done) | skip
        cases rv with
        | dcf h _ _ => rw [e, fD1.f] at h; cases h
      · cases rv with
        | dct h _ _ => rcases h with h | ⟨o, h⟩ <;> rw [e, fD1.f] at h <;> cases h
    refine ⟨a, _, rfl, hr, hap, by rw [kv.len, line_eq]; exact hz, fun qq hq => ?_⟩
    generalize hK : (ks.map DK.key).zip vs = kvs at kv hr hq ⊢
    have S3 := (S2.unguard n2).heap (H' := upd H1 p (.dK (mergeK [] kvs))) (fun b ne => upd_ne ne) fD1.f fD1.z fD1.r S2.guardNo
    have S4 := S3.guard upd_same fD1 S2.guardNo
    obtain ⟨m1, m2, m3, m4⟩ := S4.notIn hq
    have S5 := (S4.laid (o := .dK []) hq).guard upd_same ⟨m1, m2, m3⟩ m4
    have hqp : qq ≠ p := fun e => by
      rw [e, upd_same] at hq
      cases hq
    refine ⟨_, F1, ρ1, μ1, δ1, S5, (FinE.cutZ (fun _ l => l.unguard.unguard) (fun _ l => l.unguard.unguard) q1).imp fun sk δ2 μ2 H2 F2 ρ2 l2 lr2 _ ⟨S6, l2', lr2', q2⟩ y ry => ?_⟩
    refine ⟨_, F2, ρ2, μ2, δ2, S6, (FinE.cutZ (fun _ l => l.unguard.unguard) (fun _ l => l.unguard.unguard) q2).imp fun sv δ3 μ3 H3 F3 ρ3 l3 lr3 _ ⟨S7, l3', lr3', q3⟩ z rz => ?_⟩
    cases ek : dkey sk.d with
    | none => simp only [ek] at q3; exact q3.elim
    | some k =>
      simp only [ek] at q3
      have fq : Free (upd Z p (.dK (mergeK [] kvs))) F3 ρ3 qq := ((Free.mk m1 m2 m3).on l2' lr2').on l3' lr3'
      have fp : Free Z F3 ρ3 p := (fD1.on l2'.unguard lr2'.unguard).on l3'.unguard lr3'.unguard
      have S8 := (S7.unguard m2).heap (H' := upd H3 qq (.dK [(k.key, z)])) (fun b ne => upd_ne ne) fq.f fq.z fq.r S7.guardNo
      have S9 := (S8.unguard n2).heap (H' := upd (upd H3 qq (.dK [(k.key, z)])) p (.dK (mergeK (mergeK [] kvs) [(k.key, z)]))) (fun b ne => upd_ne ne) fp.f fp.z fp.r S8.guardNo
      refine ⟨?_, S7.guarded, hqp, k.key, key_rep ry ek, ?_⟩
      · exact S7.zk p _ (by rw [upd_ne (Ne.symm hqp), upd_same])
      · have kv3 : KV X.K X.mg F3 ρ3 (mergeK (mergeK [] kvs) [(k.key, z)]) (putA (FL.mergeA [] (ks.zip ds)) k sv.d) :=
          KV.put rz (KV.mergeA ((kv.up l2'.to lr2'.to).up l3'.to lr3'.to) .nil)
        exact q3 _ F3 ρ3 .refl .refl S9 _ ⟨⟨p, rfl, fp, kv_own kv3 upd_same⟩, fun o p' e1 e2 => by cases e2; exact S8.guardNo⟩
  · rw [if_neg hz] at q1; exact q1.elim
end
end FL
namespace FL
open PySem PySem.Spec PyProof.Rows L2
section
variable {X : Cx} {W : WX} {e : Expr} {es : List Expr} {pos p : Pos} {m : ME} {ms : List ME} {ma : MM (List D)}
def rdL (X : Cx) (W : WX) (ma : MM (List D)) : TA := fun σ H Q => ∃ Z F ρ μ δ, Sim X.K X.mg Z F ρ μ δ σ H ∧ FinE X W Z F ρ σ (fun ds _ _ F' ρ' H' => ∀ vs, RepL X.K X.mg F' ρ' vs ds → Q vs H') (ma δ μ)
theorem jl_of (h : JA X W es ms) : PA X es (rdL X W (evA ms)) := h
def itemsS : D → Option (List D)
  | .lst xs => some xs
  | .tup xs => some xs
  | _ => none
def mStarL (m : ME) (ma : MM (List D)) : MM (List D) := fun δ μ => (m δ μ).bind fun s δ1 μ1 => match itemsS s.d with
  | some xs => (ma δ1 μ1).bind fun ds δ2 μ2 => .ok (xs ++ ds) δ2 μ2
  | none => .bad
theorem jl_star (h : JE X W e m) (t : PA X es (rdL X W ma)) (hs : starEach (.Starred e p :: es) X.env = (true, eval e X.env) :: starEach es X.env := by rfl) : PA X (.Starred e p :: es) (rdL X W (mStarL m ma)) := by
  refine (StX.pa_star h.locked t hs).imp fun σ H Q ⟨Z, F, ρ, μ, δ, S, q⟩ => ?_
  refine ⟨Z, F, ρ, μ, δ, S, (FinE.bind q).imp fun s δ1 μ1 H1 F1 ρ1 l lr S1 ⟨_, _, _, q1⟩ v hv => ?_⟩
  generalize s.d = d at hv q1
  cases ei : itemsS d with
  | none => simp only [ei] at q1; exact q1.elim
  | some xs =>
    simp only [ei] at q1
    have sq : ∃ a vs, v = .ref a ∧ (SqT X.K H1 a vs ∨ SqL X.K H1 a vs) ∧ RepL X.K X.mg F1 ρ1 vs xs := by
      cases d <;> first | (cases ei; done) | skip
      · cases ei
        obtain ⟨a, vs, rfl, hl, r⟩ := (Bor.fr (H := H1) hv).lst S1
        exact ⟨a, vs, rfl, .inr (.of hl), r⟩
      · cases ei
        obtain ⟨a, vs, rfl, hl, r⟩ := (Bor.fr (H := H1) hv).tup S1
        exact ⟨a, vs, rfl, .inl hl, r⟩
    obtain ⟨a, vs, rfl, hq, r⟩ := sq
    refine ⟨a, vs, rfl, hq, Z, F1, ρ1, μ1, δ1, S1, (FinE.bind q1).imp fun ds δ2 μ2 H2 F2 ρ2 l2 lr2 S2 ⟨_, _, _, q2⟩ ws hws => ?_⟩
    exact q2 H2 F2 ρ2 .refl .refl S2 (vs ++ ws) ((r.up l2.to lr2.to).app hws)
def mLstL (ma : MM (List D)) : ME := fun δ μ => (ma δ μ).bind fun ds δ1 μ1 => if ds.length ≤ 16777216 then .ok (.own (.lst ds)) δ1 μ1 else .bad
theorem je_lstL (h : PA X es (rdL X W ma)) : JE X W (.List es pos) (mLstL ma) := by
  refine (pe_lst h).imp fun σ H Q ⟨Z, F, ρ, μ, δ, S, q⟩ => ⟨Z, F, ρ, μ, δ, S, (FinE.bind q).imp fun ds δ1 μ1 H1 F1 ρ1 l lr S1 ⟨_, _, _, p⟩ vs hv => ?_⟩
  by_cases hz : ds.length ≤ 16777216
  · rw [if_pos hz] at p
    refine ⟨by rw [hv.len, sizeLine_eq]; exact hz, fun a ha => ?_⟩
    obtain ⟨S2, vr⟩ := vr_newL S1 ha hv
    exact p _ F1 ρ1 .refl .refl S2 _ vr
  · rw [if_neg hz] at p; exact p.elim
end
end FL
namespace FL
open PySem PySem.Spec PyProof.Rows L2
def evK : List (DK × ME) → MM (List (DK × D))
  | [] => fun δ μ => .ok [] δ μ
  | (k, m) :: r => fun δ μ => (m δ μ).cut.bind fun s δ1 μ1 => (evK r δ1 μ1).bind fun ps δ2 μ2 => .ok ((k, s.d) :: ps) δ2 μ2
def mDisp (kms : List (DK × ME)) : ME := fun δ μ => (evK kms δ μ).bind fun kds δ1 μ1 => .ok (.own (dctO (FL.mergeA [] kds))) δ1 μ1
section
variable {X : Cx} {W : WX} {pos : Pos}
def rdK (X : Cx) (W : WX) (m : ME) : TE := fun σ H Q => ∃ Z F ρ μ δ, Sim X.K X.mg Z F ρ μ δ σ H ∧ FinE X W Z F ρ σ (fun s _ _ F' ρ' H' => ∀ v, Rep X.K X.mg F' ρ' v s.d → Q v H') (m δ μ)
def trK (X : Cx) (W : WX) (kms : List (DK × ME)) : List (TE × TE) := kms.map fun p => (tC (kV p.1.key), rdK X W p.2)
inductive JPs (X : Cx) (W : WX) : List (Option Expr) → List Expr → List (DK × ME) → Prop where
  | nil : JPs X W [] [] []
  | cons {k v : Expr} {ks : List (Option Expr)} {vs : List Expr} {kk : DK} {m : ME} {r : List (DK × ME)} (hk : PE X k (tC (kV kk.key))) (hv : JE X W v m) (t : JPs X W ks vs r) : JPs X W (some k :: ks) (v :: vs) ((kk, m) :: r)
theorem JPs.pps {keys : List (Option Expr)} {values : List Expr} {kms : List (DK × ME)} (h : JPs X W keys values kms) : PPs X pos keys values (trK X W kms) ∧ keys.all (·.isSome) = true ∧ keys.length = values.length ∧ keys.length = kms.length := by
  induction h with
  | nil => exact ⟨pps_nil, rfl, rfl, rfl⟩
  | cons hk hv t ih =>
    obtain ⟨p, a, b, c⟩ := ih
    exact ⟨pps_cons hk hv.locked p, by rw [List.all_cons, a]; rfl, by rw [List.length_cons, List.length_cons, b], by rw [List.length_cons, List.length_cons, c]⟩
theorem disp_read {Z : Hp} {p : Addr} {o : HO} {σ : L2.St} {β : Type} {Pq : β → Loc → Mem → Hp → List Addr → Hp → Prop} : ∀ (kms : List (DK × ME)) (g : List (DK × D) → Loc → Mem → Out β) (F : Hp) (ρ : List Addr) (μ : Mem) (δ : Loc) (H : Hp) (Q : List (V × V) → Hp → Prop),
    Sim X.K X.mg (upd Z p o) F ρ μ δ σ H → FinE X W Z F ρ σ Pq ((evK kms δ μ).bind g) →
      (∀ kds kvs δ2 μ2 F2 ρ2 H2, Sim X.K X.mg (upd Z p o) F2 ρ2 μ2 δ2 σ H2 → Le (upd Z p o) F F2 → LeR (upd Z p o) ρ ρ2 → KV X.K X.mg F2 ρ2 kvs kds → kvs.length = kms.length → FinE X W Z F2 ρ2 σ Pq (g kds δ2 μ2) → Q (kvs.map fun kv => (kV kv.1, kv.2)) H2) → tPairs (trK X W kms) σ H Q
  | [], g, F, ρ, μ, δ, H, Q, S, q, hQ => hQ [] [] δ μ F ρ H S .refl .refl .nil rfl q
  | (k, m) :: r, g, F, ρ, μ, δ, H, Q, S, q, hQ => by
    show tPairs ((tC (kV k.key), rdK X W m) :: trK X W r) σ H Q
    have q' : FinE X W Z F ρ σ Pq ((m δ μ).cut.bind fun s δ1 μ1 => (evK r δ1 μ1).bind fun ps δ2 μ2 => g ((k, s.d) :: ps) δ2 μ2) := by
      have e : (evK ((k, m) :: r) δ μ).bind g = (m δ μ).cut.bind fun s δ1 μ1 => (evK r δ1 μ1).bind fun ps δ2 μ2 => g ((k, s.d) :: ps) δ2 μ2 := by
        show (((m δ μ).cut.bind fun s δ1 μ1 => (evK r δ1 μ1).bind fun ps δ2 μ2 => .ok ((k, s.d) :: ps) δ2 μ2)).bind g = _
        cases (m δ μ).cut with
        | ok s δ1 μ1 =>
          show ((evK r δ1 μ1).bind fun ps δ2 μ2 => Out.ok ((k, s.d) :: ps) δ2 μ2).bind g = (evK r δ1 μ1).bind _
          cases evK r δ1 μ1 <;> rfl
        | exc x δ1 μ1 => rfl
        | bad => rfl
      rw [e] at q
      exact q
    refine ⟨upd Z p o, F, ρ, μ, δ, S, (FinE.cutZ (fun _ l => l.unguard) (fun _ l => l.unguard) q').imp fun s δ1 μ1 H1 F1 ρ1 l1 lr1 _ ⟨S1, l1', lr1', q1⟩ v rv => ?_⟩
    refine disp_read r _ F1 ρ1 μ1 δ1 H1 _ S1 q1 fun kds kvs δ2 μ2 F2 ρ2 H2 S2 l2 lr2 kv hl q2 => ?_
    exact hQ ((k, s.d) :: kds) ((k.key, v) :: kvs) δ2 μ2 F2 ρ2 H2 S2 (l1'.trans l2) (lr1'.trans lr2) (.cons (rv.up l2.to lr2.to) kv) (by rw [List.length_cons, List.length_cons, hl]) q2
theorem je_disp {keys : List (Option Expr)} {values : List Expr} {kms : List (DK × ME)} (h : JPs X W keys values kms) (h0 : keys ≠ []) (h15 : keys.length ≤ 15) : JE X W (.Dict keys values pos) (mDisp kms) := by
  obtain ⟨pp, ha, hl, hk⟩ := h.pps (pos := pos)
  refine (pe_disp pp ha hl h0 h15).imp fun σ H Q ⟨Z, F, ρ, μ, δ, S, q0⟩ p hp => ?_
  obtain ⟨n1, n2, n3, n4⟩ := S.notIn hp
  have S1 := (S.laid (o := .dK []) hp).guard upd_same ⟨n1, n2, n3⟩ n4
  refine disp_read kms _ F ρ μ δ _ _ S1 q0 fun kds kvs δ2 μ2 F2 ρ2 H2 S2 l2 lr2 kv hl2 q2 => ⟨S2.guarded, kvs, rfl, by omega, ?_⟩
  have fp : Free Z F2 ρ2 p := (Free.mk n1 n2 n3).on l2 lr2
  have S3 := (S2.unguard n2).heap (H' := upd H2 p (.dK (mergeK [] kvs))) (fun b ne => upd_ne ne) fp.f fp.z fp.r S2.guardNo
  exact q2 _ F2 ρ2 .refl .refl S3 _ ⟨⟨p, rfl, fp, kv_own (KV.mergeA kv .nil) upd_same⟩, fun o p' e1 e2 => by cases e2; exact S2.guardNo⟩
end
end FL
namespace FL
open PySem PySem.Spec PyProof.Rows L2
section
variable {X : Cx} {W : WX} {e : Expr} {m : ME}
def mFrz (m : ME) : ME := fun δ μ => (m δ μ).bind fun s δ1 μ1 => match s with
  | .own (.dct ks ds) => if ks.length = ds.length then .ok (.fr (.dcf ks ds)) δ1 μ1 else .bad
  | _ => .bad
theorem je_frz (h : JE X W e m) : JE X W e (mFrz m) := by
  refine (pe_lockD h).imp fun σ H Q ⟨Z, F, ρ, μ, δ, S, q⟩ => ⟨Z, F, ρ, μ, δ, S, (FinE.bind q).imp fun s δ1 μ1 H1 F1 ρ1 l lr S1 ⟨_, _, _, p⟩ v vr => ?_⟩
  cases s with
  | fr d => exact p.elim
  | own o =>
    cases o with
    | dct ks ds =>
      have p : FinE X W Z F1 ρ1 σ _ (if ks.length = ds.length then _ else _) := p
      by_cases hl : ks.length = ds.length
      · rw [if_pos hl] at p
        obtain ⟨⟨a, rfl, fr, ow⟩, no⟩ := vr
        obtain ⟨vs, hH, hn, rl⟩ := ow
        refine ⟨a, _, rfl, hH, fun ob H2 h2 hk => ?_⟩
        have no' := no (.dct ks ds) a rfl rfl
        have S2 : Sim X.K X.mg Z F1 ρ1 μ1 δ1 σ H2 := S1.heap hk fr.f fr.z fr.r no'
        obtain ⟨l3, S3⟩ := S2.freeze h2 fr no'
        exact p H2 _ ρ1 l3 .refl S3 _ ⟨.dcf upd_same hn (rl.up l3.to fun _ _ h => h), fun o p z => by cases z⟩
      · rw [if_neg hl] at p; exact p.elim
    | _ => exact p.elim
def mItemsF (m : ME) : MM (List D) := fun δ μ => (m δ μ).bind fun s δ1 μ1 => match s.d with
  | .fx .df ks ds => .ok (itemsD (ks.zip ds)) δ1 μ1
  | _ => .bad
theorem ji_itemsF {elts : List Expr} {kk : Nat} {tpos apos cpos : Pos} (he : JE X W e m) (hbase : attributeBase e "items" X.env (eval e X.env) = eval e X.env := by rfl) (hline : (apos.endLine == cpos.line) = true := by rfl) :
    JI X W (.Tuple elts kk tpos) (.Call (.Attribute e "items" apos) [] [] cpos) (mItemsF m) := by
  refine (pi_items he.locked hbase hline).imp fun σ H R ⟨Z, F, ρ, μ, δ, S, q⟩ => ⟨Z, F, ρ, μ, δ, S, (FinE.bind q).imp fun s δ1 μ1 H1 F1 ρ1 l lr S1 ⟨_, _, _, p⟩ v r => ?_⟩
  generalize s.d = d at p r
  cases d <;> first | exact p.elim | skip
  rename_i mm ks ds
  cases mm <;> first | exact p.elim | skip
  obtain ⟨a, o, vs, rfl, hF, hH, hl, rl⟩ := (Bor.fr (H := H1) r).dcf S1
  exact ⟨a, o, _, rfl, hH, p H1 F1 ρ1 .refl .refl S1 _ (itr_items hF (KV.of hl rl))⟩
end
end FL
namespace FL
open PySem PySem.Spec PyProof.Rows L2
section
variable {X : Cx} {W : WX} {k : Nat} {N : List Str} {sc : Scope} {a b o e f : Expr} {oa ob oo oe of : Opn} {m : ME} {pos apos cpos p : Pos}
theorem Cs.inD (C : Cs X W k N sc) (ha : JO X W a oa) (hb : JO X W b ob) (hm : behindInMarks .In b = false := by rfl) : JE X W (.Compare a [.In] [b] pos) (m2 (gInD false) oa ob) := inD_ (by have := C.hu; omega) ha hb hm
theorem Cs.inDT (C : Cs X W k N sc) (ha : JO X W a oa) (hb : JO X W b ob) (hm : behindInMarks .In b = false := by rfl) : JT X W (.Compare a [.In] [b] pos) (mTb (m2 (gInD false) oa ob)) :=
  (pt_cmp (pc_din (by have := C.hu; omega) ha hb) hm).imp (mTb_read fun σ H Q h => by
    have := m2_read (j_inD false) σ H Q h
    simpa only [tOp, tDIn, rInDk, Bool.bne_false] using this)
theorem Cs.ninDT (C : Cs X W k N sc) (ha : JO X W a oa) (hb : JO X W b ob) (hm : behindInMarks .NotIn b = false := by rfl) : JT X W (.Compare a [.NotIn] [b] pos) (mTb (m2 (gInD true) oa ob)) :=
  (pt_cmp (pc_dnotin (by have := C.hu; omega) ha hb) hm).imp (mTb_read fun σ H Q h => by
    have := m2_read (j_inD true) σ H Q h
    simpa only [tOp, tDNotIn, rInDk, Bool.bne_true] using this)
theorem Cs.eqIT {cs : List String} {ma mb : ME} (C : Cs X W k N sc) (CC : IdCs X.K X.mg cs) (ha : JE X W a ma) (hb : JE X W b mb) : JT X W (.Compare a [.Eq] [b] pos) (mTb (mEqI cs ma mb)) :=
  (pt_cmpR (op_idE (by have := C.hu; omega)) ha.locked hb.locked (nomark b)).imp (mTb_read (idE_read CC))
theorem Cs.get1 (C : Cs X W k N sc) (ho : JO X W o oo) (he : JO X W e oe) (h1 : attributeBase o "get" X.env (eval o X.env) = eval o X.env := by rfl)
    (h2 : ((backTo cpos (starEach [e] X.env)).all (fun x => !x.1) && (backToKw cpos (keywordEach [] X.env)).all (fun x => x.1.isSome) && decide (([e] : List Expr).length + ([] : List Keyword).length + (if ([] : List Keyword).isEmpty then 0 else 1) < 30)) = true := by rfl)
    (h3 : (apos.endLine == cpos.line) = true := by rfl) (h4 : backTo cpos (starEach [e] X.env) = [(false, eval e X.env)] := by rfl) : JE X W (.Call (.Attribute o "get" apos) [e] [] cpos) (mGet1 oo oe) :=
  je_get1 (by have := C.hu; omega) ho he ⟨h1, h2, h3, h4⟩
theorem Cs.get2 (C : Cs X W k N sc) (ho : JO X W o oo) (he : JO X W e oe) (hf : JO X W f of) (h1 : attributeBase o "get" X.env (eval o X.env) = eval o X.env := by rfl)
    (h2 : ((backTo cpos (starEach [e, f] X.env)).all (fun x => !x.1) && (backToKw cpos (keywordEach [] X.env)).all (fun x => x.1.isSome) && decide (([e, f] : List Expr).length + ([] : List Keyword).length + (if ([] : List Keyword).isEmpty then 0 else 1) < 30)) = true := by rfl)
    (h3 : (apos.endLine == cpos.line) = true := by rfl) (h4 : backTo cpos (starEach [e, f] X.env) = [(false, eval e X.env), (false, eval f X.env)] := by rfl) : JE X W (.Call (.Attribute o "get" apos) [e, f] [] cpos) (mGet2 oo oe of) :=
  je_get2 (by have := C.hu; omega) ho he hf ⟨h1, h2, h3, h4⟩
theorem jps_s {k' : String} {j : Nat} {v : Expr} {ks : List (Option Expr)} {vs : List Expr} {r : List (DK × ME)} (hv : JE X W v m) (t : JPs X W ks vs r) : JPs X W (some (.Constant (.str (Str.ofString k')) j p) :: ks) (v :: vs) ((.s (lit k'), m) :: r) := by
  refine JPs.cons (kk := .s (lit k')) ?_ hv t
  show PE X _ (tC (.str (toS (lit k'))))
  rw [← ofS_lit]
  exact pe_str
end
end FL
namespace FL
open PySem PySem.Spec PyProof.Rows L2
theorem idc_of {K : PySem.W.Frag} {h : Heap} {mg : Str → Option Value} {cs : List String} (X : K.In h) (G : h.Ns mainGlobals mg) (t : tIdc cs K = true) : IdCs K mg cs := by
  intro c hc C hC
  obtain ⟨t1, t⟩ := Bool.and_eq_true_iff.mp (List.all_eq_true.mp t c hc)
  obtain ⟨t2, t⟩ := Bool.and_eq_true_iff.mp t
  obtain ⟨t3, t4⟩ := Bool.and_eq_true_iff.mp t
  rw [He.glo_ok X G t1] at hC
  cases hC
  exact ⟨of_decide_eq_true t2, of_decide_eq_true t3, of_decide_eq_true t4⟩
end FL
namespace FL
open PySem L2
def lstAt (μ : Mem) (k : Nat) : Option (List D) := match μ[k]? with
  | some (.lst xs) => some xs
  | _ => none
def itmAt (μ : Mem) (k i : Nat) : Option D := match lstAt μ k with
  | some xs => xs[i]?
  | none => none
def endAt (μ : Mem) (k n : Nat) : Bool := match lstAt μ k with
  | some xs => decide (xs.length ≤ n)
  | none => false
def mItM (m : ME) : MM (Nat × Nat) := fun δ μ => (m δ μ).bind fun s δ1 μ1 => match s with
  | .fr (.obj k) => match lstAt μ1 k with
    | some xs => .ok (k, xs.length) δ1 μ1
    | none => .bad
  | _ => .bad
def forM (g : D → MS) (k n : Nat) : List Nat → MS
  | [] => fun δ μ => if endAt μ k n = true then .nx δ μ else .bad
  | i :: is => fun δ μ => match itmAt μ k i with
    | some d => (g d δ μ).loop (forM g k n is)
    | none => .bad
def mForM (mi : MM (Nat × Nat)) (f : TgF) (m : MS) : MS := fun δ μ => (mi δ μ).thn fun p δ1 μ1 => forM (turnD f m) p.1 p.2 (List.range p.2) δ1 μ1
theorem range_from {n i : Nat} (h : i < n) : (List.range n).drop i = i :: (List.range n).drop (i + 1) := by
  have hl : i < (List.range n).length := by simpa using h
  rw [List.drop_eq_getElem_cons hl]
  simp
section
variable {K : PySem.W.Frag} {mg : Str → Option Value} {Z F F' : Hp} {ρ ρ' : List Addr} {μ : Mem} {δ : Loc} {σ : St} {H H' : Hp} {p : Addr} {v : V}
theorem lstAt_mem {k : Nat} {xs : List D} (h : lstAt μ k = some xs) : μ[k]? = some (.lst xs) := by
  unfold lstAt at h
  split at h
  · rename_i ys e
    cases h
    exact e
  · cases h
theorem mem_lstAt {k : Nat} {xs : List D} (h : μ[k]? = some (.lst xs)) : lstAt μ k = some xs := by
  unfold lstAt; rw [h]
theorem Sim.lstAt (S : Sim K mg Z F ρ μ δ σ H) {k : Nat} {xs : List D} (hp : ρ[k]? = some p) (h : lstAt μ k = some xs) : ∃ vs, H p = some (.lst vs) ∧ RepL K mg F ρ vs xs := by
  obtain ⟨a, ea, _, _, r⟩ := S.mem k _ (lstAt_mem h)
  rw [hp] at ea; cases ea
  exact r
end
section
variable {X : Cx} {W : WX} {e a b : Expr} {es : List Expr} {pos : Pos}
def rdIM (X : Cx) (W : WX) (m : MM (Nat × Nat)) : TI := fun σ H R => ∃ Z F ρ μ δ, Sim X.K X.mg Z F ρ μ δ σ H ∧
  FinE X W Z F ρ σ (fun kn _ _ F' ρ' H' => ∀ p, ρ'[kn.1]? = some p → R (Itl X.K p) H') (m δ μ)
abbrev JIM (X : Cx) (W : WX) (tg e : Expr) (m : MM (Nat × Nat)) : Prop := PI X tg e (rdIM X W m)
theorem ji_m {tg : Expr} {m : ME} (he : JE X W e m) : JIM X W tg e (mItM m) := by
  refine (pi_any he).imp fun σ H R ⟨Z, F, ρ, μ, δ, S, q⟩ => ⟨Z, F, ρ, μ, δ, S, (FinE.bind q).imp fun s δ1 μ1 H1 F1 ρ1 l lr S1 ⟨_, _, _, p⟩ v r => ?_⟩
  cases s with
  | own o => exact p.elim
  | fr d =>
    cases d with
    | obj j =>
      cases e1 : lstAt μ1 j with
      | none => simp only [e1] at p; exact p.elim
      | some xs =>
        simp only [e1] at p
        have r1 : Rep X.K X.mg F1 ρ1 v (.obj j) := r.r
        cases r1 with
        | @obj _ a hp =>
          obtain ⟨vs, hv, _⟩ := S1.lstAt hp e1
          exact .inl ⟨a, rfl, ⟨vs, .of hv⟩, p H1 F1 ρ1 .refl .refl S1 a hp⟩
    | _ => exact p.elim
theorem itm_go {Z F : Hp} {ρ : List Addr} {μ : Mem} {δ : Loc} {σ : St} {H : Hp} {p : Addr} {k i : Nat} {d : D} (S : Sim X.K X.mg Z F ρ μ δ σ H) (hp : ρ[k]? = some p) (h : itmAt μ k i = some d) :
    (Itl X.K p).go i H ∧ ∀ x H', (Itl X.K p).yld i H x H' → H' = H ∧ Rep X.K X.mg F ρ x d := by
  unfold itmAt at h
  cases e1 : lstAt μ k with
  | none => simp only [e1] at h; cases h
  | some xs =>
    simp only [e1] at h
    obtain ⟨vs, hv, r⟩ := S.lstAt hp e1
    obtain ⟨v, hv2, rv⟩ := r.get h
    refine ⟨⟨vs, v, .of hv, hv2⟩, fun x H' y => ?_⟩
    obtain ⟨rfl, y⟩ := y
    have := y vs (.of hv)
    rw [hv2] at this; cases this
    exact ⟨rfl, rv⟩
theorem end_stop {Z F : Hp} {ρ : List Addr} {μ : Mem} {δ : Loc} {σ : St} {H : Hp} {p : Addr} {k n : Nat} (S : Sim X.K X.mg Z F ρ μ δ σ H) (hp : ρ[k]? = some p) (h : endAt μ k n = true) : (Itl X.K p).stop n H := by
  unfold endAt at h
  cases e1 : lstAt μ k with
  | none => simp only [e1] at h; cases h
  | some xs =>
    simp only [e1] at h
    obtain ⟨vs, hv, r⟩ := S.lstAt hp e1
    exact ⟨vs, .of hv, by rw [r.len]; exact of_decide_eq_true h⟩
theorem js_forM {tg iter : Expr} {body : List Stmt} {mi : MM (Nat × Nat)} {f : TgF} {is : List Nat} {m : MS} (hp : PassesOwn (model X.prog X.w) X.A X.env X.xe) (hc : X.calm = true) (hi : JIM X W tg iter mi) (hg : JG X tg f is) (hb : JSs X W body m)
    (hs : ∀ x, foldedSetIterable iter X.env x = pure x := by intro _; rfl)
    (hk : ∀ δ μ k n δ1 μ1, mi δ μ = .ok (k, n) δ1 μ1 → ∃ xs, lstAt μ1 k = some xs ∧ n = xs.length) : JS X W (.For tg iter body [] pos) (mForM mi f m) := by
  refine (ps_for hp hc hi hg hb hs).imp fun E σ H ⟨Z, F, ρ, μ, δ, S, q⟩ => ⟨Z, F, ρ, μ, δ, S, ?_⟩
  have q' := FinS.thn (σ := σ) q
  cases em : mi δ μ with
  | bad => rw [em] at q'; exact q'
  | exc x δ1 μ1 => rw [em] at q'; exact q'
  | ok kn δ1 μ1 =>
  rw [em] at q'
  obtain ⟨k, n⟩ := kn
  obtain ⟨xs, hxs, hn⟩ := hk _ _ _ _ _ _ em
  intro H1 F1 ρ1 l lr S1 a ha
  obtain ⟨_, p⟩ := q' H1 F1 ρ1 l lr S1
  have p : FinS X W Z F1 ρ1 E (forM (turnD f m) k n (List.range n) δ1 μ1) := p
  have ha : ρ1[k]? = some a := ha
  let Wd : Nat → Nat → St → Hp → Prop := fun i j σ H => j = n - i ∧ i ≤ n ∧ ∃ F' ρ' μ δ, ρ'[k]? = some a ∧ Sim X.K X.mg Z F' ρ' μ δ σ H ∧ FinS X W Z F' ρ' E (forM (turnD f m) k n ((List.range n).drop i) δ μ)
  refine ⟨Wd, ⟨n, by simp, Nat.zero_le _, F1, ρ1, μ1, δ1, ha, S1, by rw [List.drop_zero]; exact p⟩, ?_⟩
  rintro i j σ2 H2 ⟨rfl, hle, F2, ρ2, μ2, δ2, hp2, S2, p2⟩
  by_cases hlt : i < n
  · refine .inr ?_
    rw [range_from hlt] at p2
    unfold forM at p2
    cases ei : itmAt μ2 k i with
    | none => simp only [ei] at p2; exact p2.elim
    | some d =>
      simp only [ei] at p2
      obtain ⟨go, yl⟩ := itm_go S2 hp2 ei
      refine ⟨go, fun σ' H' => Wd (i + 1) (n - (i + 1)) σ' H', fun σ' H' w => ⟨n - (i + 1), by omega, w⟩, fun x H' y => ?_⟩
      obtain ⟨rfl, r3⟩ := yl x H' y
      cases ef : f d δ2 with
      | none =>
        have e : turnD f m d δ2 μ2 = .bad := by unfold turnD; rw [ef]
        simp only [e] at p2
        exact p2.elim
      | some δ3 =>
        have e : turnD f m d δ2 μ2 = m δ3 μ2 := by unfold turnD; rw [ef]
        simp only [e] at p2
        refine ⟨Z, F2, ρ2, μ2, δ2, _, S2, r3, δ3, ef, fun σ4 _ _ S4 => ⟨Z, F2, ρ2, μ2, δ3, S4, p2.loop fun σ' H' F' ρ' μ' δ' l' lr' S' q' => ?_⟩⟩
        exact ⟨rfl, hlt, F', ρ', μ', δ', lr'.to _ _ hp2, S', q'⟩
  · have e : i = n := by omega
    subst e
    rw [List.drop_eq_nil_of_le (by simp)] at p2
    unfold forM at p2
    by_cases he : endAt μ2 k i = true
    · simp only [he, if_true] at p2
      exact .inl ⟨end_stop S2 hp2 he, p2.nx S2⟩
    · simp only [he] at p2
      exact p2.elim
theorem itM_len {m : ME} : ∀ δ μ k n δ1 μ1, mItM m δ μ = .ok (k, n) δ1 μ1 → ∃ xs, lstAt μ1 k = some xs ∧ n = xs.length := by
  intro δ μ k n δ1 μ1 h
  unfold mItM at h
  cases em : m δ μ with
  | bad => rw [em] at h; cases h
  | exc x δ2 μ2 => rw [em] at h; cases h
  | ok s δ2 μ2 =>
    rw [em, Out.bind_ok] at h
    cases s with
    | own o => cases h
    | fr d =>
      cases d <;> first | (cases h; done) | skip
      rename_i k'
      cases e1 : lstAt μ2 k' with
      | none => simp only [e1] at h; cases h
      | some xs =>
        simp only [e1] at h
        cases h
        exact ⟨xs, e1, rfl⟩
theorem wipeD_ow {δ : Loc} {s : Own} {i : Nat} : ∀ {vs : List Nat}, (wipeD δ vs)[i]? = some (some (.own s)) → δ[i]? = some (some (.own s))
  | [], h => h
  | v :: vs, h => by
    have hn := wipeD_in h
    unfold wipeD at h
    rw [List.getElem?_set_ne (fun z => hn (by simp [z]))] at h
    exact wipeD_ow h
def lcM (f : TgF) (tests : MT) (elt : ME) (vs : List Nat) (k n : Nat) : List Nat → List D → ME
  | [], acc => fun δ μ => if endAt μ k n = true then .ok (.own (.lst acc)) δ μ else .bad
  | i :: is, acc => fun δ μ => match itmAt μ k i with
    | none => .bad
    | some d => match f d δ with
      | none => .bad
      | some δ' => (tests δ' μ).cut.bind fun b δ2 μ2 => if b = true then (elt δ2 μ2).cut.bind fun s δ3 μ3 => if acc.length < 16777216 then lcM f tests elt vs k n is (acc ++ [s.d]) (wipeD δ3 vs) μ3 else .bad
        else lcM f tests elt vs k n is acc (wipeD δ2 vs) μ2
def mLcM (mi : MM (Nat × Nat)) (f : TgF) (tests : MT) (elt : ME) (vs : List Nat) : ME := fun δ μ => (mi δ μ).bind fun p δ1 μ1 => lcM f tests elt vs p.1 p.2 (List.range p.2) [] (wipeD δ1 vs) μ1
theorem lcM_read {mi : MM (Nat × Nat)} {f : TgF} {tests : MT} {elt : ME} {vs is : List Nat} {B : Cx} (hK : B.K = X.K) (hm : B.mg = X.mg) (hsub : ∀ j ∈ is, j ∈ vs) : ∀ σ H Q, rdE X W (mLcM mi f tests elt vs) σ H Q → tLc (rdIM X W mi) (rdG X f is) (rdT B W0 tests) (rdE B W0 elt) vs σ H Q := by
  intro σ H Q ⟨Z, F, ρ, μ, δ, S, q⟩
  refine ⟨Z, F, ρ, μ, δ, S, (FinE.bind q).imp fun kn δ1 μ1 H1 F1 ρ1 l lr S1 ⟨_, _, _, p⟩ a ha A hA => ?_⟩
  obtain ⟨k, n⟩ := kn
  have ha : ρ1[k]? = some a := ha
  obtain ⟨n1, n2, n3, n4⟩ := S1.notIn hA
  let P : Slot → Loc → Mem → Hp → List Addr → Hp → Prop := fun s δ' _ F' ρ' H' => ∀ v, VR X.K X.mg Z F' ρ' δ' σ H' v s → Q v H'
  let Wd : Nat → Nat → Hp → Prop := fun i j H => j = n - i ∧ i ≤ n ∧ ∃ F' ρ' μ δ vals acc, ρ'[k]? = some a ∧ Sim X.K X.mg Z F' ρ' μ (wipeD δ vs) (L2.wipe σ vs) H ∧
    Free Z F' ρ' A ∧ (∀ (i : Nat) s, (wipeD δ vs)[i]? = some (some (.own s)) → (L2.wipe σ vs)[i]? ≠ some (some (.ref A))) ∧ H A = some (.lst vals) ∧ RepL X.K X.mg F' ρ' vals acc ∧ FinE X W Z F' ρ' σ P (lcM f tests elt vs k n ((List.range n).drop i) acc (wipeD δ vs) μ)
  have wout : ∀ {δ : Loc} {s : Slot} (i : Nat), (wipeD δ vs)[i]? = some (some s) → (L2.wipe σ vs)[i]? = σ[i]? := fun i h => wipe_out (wipeD_in h)
  have Sw := (S1.laid (o := .lst []) hA).wipe vs
  refine ⟨Wd, ⟨n, by simp, Nat.zero_le _, F1, ρ1, μ1, δ1, [], [], ha, Sw, ⟨n1, n2, n3⟩, fun i s e1 e2 => ?_, upd_same, .nil, by rw [List.drop_zero]; exact p⟩, ?_⟩
  · have e4 := wout i e1
    rw [e2] at e4
    exact n4 i s (wipeD_ow e1) e4.symm
  rintro i j H2 ⟨rfl, hle, F2, ρ2, μ2, δ2, vals, acc, hp2, S2, fA, nA, hL, rL, p2⟩
  by_cases hlt : i < n
  · refine .inr ?_
    rw [range_from hlt] at p2
    unfold lcM at p2
    cases ei : itmAt μ2 k i with
    | none => simp only [ei] at p2; exact p2.elim
    | some d =>
    simp only [ei] at p2
    have SG := S2.guard hL fA nA
    obtain ⟨go, yl⟩ := itm_go SG hp2 ei
    refine ⟨go, fun H' => Wd (i + 1) (n - (i + 1)) H', fun H' w => ⟨n - (i + 1), by omega, w⟩, fun x H' y => ?_⟩
    obtain ⟨rfl, r3⟩ := yl x H' y
    cases ef : f d (wipeD δ2 vs) with
    | none => simp only [ef] at p2; exact p2.elim
    | some δ3 =>
      simp only [ef] at p2
      refine ⟨_, F2, ρ2, μ2, _, _, SG, r3, δ3, ef, fun σ4 hσ hl4 S4 => ?_⟩
      have ws : L2.wipe σ4 vs = L2.wipe σ vs := by
        have h1 := wipe_same (σ := L2.wipe σ vs) (σ' := σ4) hl4 (vs := vs) fun j hj => hσ j fun z => hj (hsub j z)
        rw [h1]
        apply wipe_same (wipe_length _ _)
        intro j hj
        exact wipe_out hj
      refine ⟨by rw [ws, wipe_same (σ := σ) (σ' := σ) rfl fun _ _ => rfl], ?_⟩
      refine ⟨_, F2, ρ2, μ2, δ3, by rw [hK, hm]; exact S4, (FinE.cut (p := A) (o := .lst vals) hK hm p2).imp fun b δ5 μ5 H5 F5 ρ5 l5 lr5 _ ⟨S5, l5', lr5', p5⟩ => ?_⟩
      have fin : ∀ {F6 : Hp} {ρ6 : List Addr} {μ6 : Mem} {δ6 : Loc} {H6 H7 : Hp} {vals' : List V} {acc' : List D}, Sim X.K X.mg (upd Z A (.lst vals)) F6 ρ6 μ6 δ6 σ4 H6 → Le (upd Z A (.lst vals)) F2 F6 → LeR (upd Z A (.lst vals)) ρ2 ρ6 →
          (∀ a, a ≠ A → H7 a = H6 a) → H7 A = some (.lst vals') → RepL X.K X.mg F6 ρ6 vals' acc' → FinE X W Z F6 ρ6 σ P (lcM f tests elt vs k n ((List.range n).drop (i + 1)) acc' (wipeD δ6 vs) μ6) → Wd (i + 1) (n - (i + 1)) H7 := by
        intro F6 ρ6 μ6 δ6 H6 H7 vals' acc' S6 l6 lr6 hne hA7 rL' p6
        have fA6 : Free Z F6 ρ6 A := fA.on l6 lr6
        have S7 := (S6.unguard fA.z).heap hne fA6.f fA6.z fA6.r S6.guardNo
        have S8 := S7.wipe vs
        rw [ws] at S8
        refine ⟨rfl, hlt, F6, ρ6, μ6, δ6, vals', acc', lr6.to _ _ hp2, S8, fA6, fun i' s e1 e2 => ?_, hA7, rL', p6⟩
        have e4 : (L2.wipe σ4 vs)[i']? = σ4[i']? := wipe_out (wipeD_in e1)
        rw [ws, e2] at e4
        exact S6.guardNo i' s (wipeD_ow e1) e4.symm
      cases b with
      | false =>
        simp only [if_neg Bool.false_ne_true] at p5 ⊢
        exact fin S5 l5' lr5' (fun _ _ => rfl) S5.guarded (rL.up l5'.to lr5'.to) p5
      | true =>
        simp only [if_true] at p5 ⊢
        refine ⟨_, F5, ρ5, μ5, δ5, by rw [hK, hm]; exact S5, (FinE.cut (p := A) (o := .lst vals) hK hm p5).imp fun s δ6 μ6 H6 F6 ρ6 l6 lr6 _ ⟨S6, l6', lr6', p6⟩ v vr => ?_⟩
        rw [hK, hm] at vr
        obtain ⟨F7, l7, S7, r7⟩ := S6.lock vr
        by_cases hz : acc.length < 16777216
        · rw [if_pos hz] at p6
          have rL6 := rL.up (fun p o h => l7.to p o (l6'.to p o (l5'.to p o h))) fun k p h => lr6'.to k p (lr5'.to k p h)
          refine ⟨vals, S7.guarded, by rw [rL.len, line_eq]; exact hz, ?_⟩
          exact fin S7 (l5'.trans (l6'.trans l7)) (lr5'.trans lr6') (fun a ne => upd_ne ne) upd_same (rL6.app (.cons r7 .nil)) (p6.mono l7.unguard .refl)
        · rw [if_neg hz] at p6; exact p6.elim
  · have e : i = n := by omega
    subst e
    rw [List.drop_eq_nil_of_le (by simp)] at p2
    unfold lcM at p2
    by_cases he : endAt μ2 k i = true
    · simp only [he, if_true] at p2
      refine .inl ⟨end_stop S2 hp2 he, ?_⟩
      have S3 : Sim X.K X.mg Z F2 ρ2 μ2 (wipeD δ2 vs) σ H2 := S2.agree (wipe_length _ _).symm fun i s e => (wout i e).symm
      exact p2 H2 F2 ρ2 .refl .refl S3 (.ref A) ⟨⟨A, rfl, fA, vals, hL, rL⟩, fun o p z1 z2 i o' e1 e2 => by
        cases z2
        exact nA i o' e1 (by rw [wout i e1]; exact e2)⟩
    · simp only [he] at p2
      exact p2.elim
theorem je_lcM {elt tg iter : Expr} {ifs : List Expr} {scope : Scope} {own : List (Str × Nat)} {mi : MM (Nat × Nat)} {f : TgF} {is : List Nat} {tests : MT} {m : ME} (hc : X.calm = true) (hN : X.N.Nodup) (hi : JIM X W tg iter mi) (ok : BlkOk X.N X.env.scope scope own)
    (hg : ∀ (s : Shared) (H : Hp) (C : Addr) (cl : List (Str × Addr)) (fp : List Addr), JG (X.blk s H scope (compEnvC scope cl C X.env) fp) tg f is) (ht : ∀ (s : Shared) (H : Hp) (C : Addr) (cl : List (Str × Addr)) (fp : List Addr), JTs (X.blk s H scope (compEnvC scope cl C X.env) fp) W0 ifs tests)
    (he : ∀ (s : Shared) (H : Hp) (C : Addr) (cl : List (Str × Addr)) (fp : List Addr), JE (X.blk s H scope (compEnvC scope cl C X.env) fp) W0 elt m) (hsub : ∀ j ∈ is, j ∈ own.map (·.2)) (hs : ∀ x, foldedSetIterable iter X.env x = pure x := by intro _; rfl) :
    JE X W (.ListComp elt [⟨tg, iter, ifs, 0⟩] scope pos) (mLcM mi f tests m (own.map (·.2))) :=
  (pe_lc (g := rdG X f is) (tt := rdT X W0 tests) (te := rdE X W0 m) hc hN hi ok hg ht he hs).imp (lcM_read (B := X) rfl rfl hsub)
variable {k : Nat} {N : List Str} {sc : Scope}
theorem Cs.lcM {elt tg iter : Expr} {ifs : List Expr} {scope : Scope} {mi : MM (Nat × Nat)} {f : TgF} {is : List Nat} {tests : MT} {m : ME} {Tx : Program → World → PySem.W.Frag → (Str → Option Value) → Heap → Prop} (C : Cs X W k N sc) (T : Tx X.prog X.w X.K X.mg X.base) (own : List (Str × Nat)) (hi : JIM X W tg iter mi) (ok : blkC N sc scope own = true)
    (hb : ∀ (Y : Cx), Tx Y.prog Y.w Y.K Y.mg Y.base → Cs Y W0 k N (relS scope sc) → JG Y tg f is ∧ JTs Y W0 ifs tests ∧ JE Y W0 elt m) (hsub : (is.all fun j => (own.map (·.2)).contains j) = true) (hs : ∀ x, foldedSetIterable iter X.env x = pure x := by intro _; rfl) :
    JE X W (.ListComp elt [⟨tg, iter, ifs, 0⟩] scope pos) (mLcM mi f tests m (own.map (·.2))) :=
  je_lcM C.calm (by rw [C.hN]; exact C.nd) hi (by rw [C.hN, C.hsc]; exact blkOk_by ok) (fun s H c cl fp => (hb (X.blk s H scope (compEnvC scope cl c X.env) fp) T (C.blk scope s H c cl fp)).1) (fun s H c cl fp => (hb (X.blk s H scope (compEnvC scope cl c X.env) fp) T (C.blk scope s H c cl fp)).2.1)
    (fun s H c cl fp => (hb (X.blk s H scope (compEnvC scope cl c X.env) fp) T (C.blk scope s H c cl fp)).2.2) (fun j hj => by simpa using List.all_eq_true.mp hsub j hj) hs
end
theorem forM_inv {g : D → MS} {k : Nat} {xs : List D} {J : Nat → Loc → Mem → Prop} (hk : ∀ i δ μ, J i δ μ → lstAt μ k = some xs) (hs : ∀ i d δ μ, xs[i]? = some d → J i δ μ → ∃ δ' μ', g d δ μ = .nx δ' μ' ∧ J (i + 1) δ' μ') :
    ∀ (m i : Nat) (δ : Loc) (μ : Mem), i + m = xs.length → J i δ μ → ∃ δ' μ', forM g k xs.length ((List.range xs.length).drop i) δ μ = .nx δ' μ' ∧ J xs.length δ' μ'
  | 0, i, δ, μ, e, h => by
    refine ⟨δ, μ, ?_, by have : i = xs.length := by omega
                         subst this; exact h⟩
    rw [List.drop_eq_nil_of_le (by simp; omega)]
    simp [forM, endAt, hk _ _ _ h]
  | m + 1, i, δ, μ, e, h => by
    have hlt : i < xs.length := by omega
    have hd : xs[i]? = some xs[i] := List.getElem?_eq_getElem hlt
    obtain ⟨δ1, μ1, e1, h1⟩ := hs i _ δ μ hd h
    obtain ⟨δ2, μ2, e2, h2⟩ := forM_inv hk hs m (i + 1) δ1 μ1 (by omega) h1
    refine ⟨δ2, μ2, ?_, h2⟩
    rw [range_from hlt]
    simp [forM, itmAt, hk _ _ _ h, hd, e1, OutS.loop, e2]
end FL
namespace L35
open PySem PySem.Spec PyProof.Rows L2 FL LamX
def sc_iIndex : Scope := { kind := .function, names := [("self", .local), ("schema", .local), ("__class__", .free), ("need_schema", .globalImplicit), ("super", .globalImplicit)], isGenerator := false, isCoroutine := false, more := [] }
theorem scf_iIndex : ClsScope ["self", "schema"] ["self", "schema"] sc_iIndex := ⟨rfl, rfl, rfl, by decide +kernel, rfl, by decide +kernel, by decide +kernel, by decide +kernel, by decide +kernel, by decide +kernel⟩
structure Txt (tb : Nat → Addr) (P : Program) (w : World) (K : PySem.W.Frag) (mg : Str → Option Value) (base : Heap) : Prop where
  n_all : mg "all" = none
  n_bool : mg "bool" = none
  n_dict : mg "dict" = none
  n_int : mg "int" = none
  n_isinstance : mg "isinstance" = none
  n_len : mg "len" = none
  n_max : mg "max" = none
  n_min : mg "min" = none
  n_range : mg "range" = none
  n_set : mg "set" = none
  n_str : mg "str" = none
  n_super : mg "super" = none
  n_tuple : mg "tuple" = none
  c_GREATEST : ∃ t, mg "GREATEST" = some (.int 1000000000 t)
  c_LETTERS : ∃ t, mg "LETTERS" = some (.str (Str.ofString "abcdefghijklmnopqrstuvwxyz") t)
  c_MAX_DOCUMENTS : ∃ t, mg "MAX_DOCUMENTS" = some (.int 500 t)
  c_MAX_FIELDS : ∃ t, mg "MAX_FIELDS" = some (.int 6 t)
  c_MAX_NAME : ∃ t, mg "MAX_NAME" = some (.int 12 t)
  c_MAX_TEXT : ∃ t, mg "MAX_TEXT" = some (.int 400 t)
  c_MAX_WORD : ∃ t, mg "MAX_WORD" = some (.int 20 t)
  c_WORD_SIGNS : ∃ t, mg "WORD_SIGNS" = some (.str (Str.ofString "abcdefghijklmnopqrstuvwxyz0123456789") t)
  t_FIELD_KINDS : TupS K mg "FIELD_KINDS" [lit "text", lit "number"]
  x_BadDocument : Xc P w K mg base "BadDocument" "reason"
  x_BadKey : Xc P w K mg base "BadKey" "reason"
  x_BadSchema : Xc P w K mg base "BadSchema" "reason"
  c_Entry : mg "Entry" = some (.ref (He.ga K "Entry"))
  c_Index : mg "Index" = some (.ref (He.ga K "Index"))
  c_Segment : mg "Segment" = some (.ref (He.ga K "Segment"))
  atts : AttsOk K mg at_
  prp : PrpB K mg prps
  mk_Index : Mk K (He.ga K "Index") (fAdF K (pM "Index" "__init__"))
  mk_Segment : Mk K (He.ga K "Segment") (fAdF K (pM "Segment" "__init__"))
  mk_Entry : Mk K (He.ga K "Entry") (fAdF K (pM "Entry" "__init__"))
  f_iView : ∃ fd, Fd K "__init__" "View.__init__" (clsDef 0 (tp 39)) (fAdF K (pM "View" "__init__")) fd .none
  f_iIndex : ∃ fd, FdK K "__init__" "Index.__init__" (clsDef 0 (tp 43)) (fAdF K (pM "Index" "__init__")) (kvAd K (pM "Index" "__init__")) (codeAd K (pM "Index" "__init__")) (ccAd K (pM "Index" "__init__")) fd
  ce_iIndex : CellOk K (codeAd K (pM "Index" "__init__")) (ccAd K (pM "Index" "__init__")) (He.ga K "Index") P.main.file
  s_iIndex : SupP P K mg (fAdF K (pM "Index" "__init__")) (codeAd K (pM "Index" "__init__")) (ccAd K (pM "Index" "__init__")) (He.ga K "Index") "self" sc_iIndex ["self", "schema"]
  f_iSegment : ∃ fd, Fd K "__init__" "Segment.__init__" (clsDef 0 (tp 27)) (fAdF K (pM "Segment" "__init__")) fd .none
  f_sr_flush : ∃ fd, Fd K "flush" "Index.flush" (clsDef 7 (tp 43)) (fAdF K (pM "Index" "flush")) fd .none
  f_sr_delete : ∃ fd, Fd K "delete" "Index.delete" (clsDef 3 (tp 43)) (fAdF K (pM "Index" "delete")) fd .none
  f_iEntry : ∃ fd, Fd K "__init__" "Entry.__init__" (clsDef 0 (tp 26)) (fAdF K (pM "Entry" "__init__")) fd .none
  f_sr_put : ∃ fd, Fd K "put" "Index.put" (clsDef 2 (tp 43)) (fAdF K (pM "Index" "put")) fd .none
  f_View_size : ∃ fd, Fd K "size" "View.size" (clsDef 1 (tp 39)) (fAdF K (pM "View" "size")) fd .none
  f_Index_segments : ∃ fd, Fd K "segments" "Index.segments" (clsDef 1 (tp 43)) (fAdF K (pM "Index" "segments")) fd .none
  sb_Index : SupB K mg "Index" "__init__" (He.ga K "Index") (fAdF K (pM "View" "__init__"))
  d__law_drawer : ∃ f fd, Fd K "_law_drawer" "_law_drawer" (tp 45) f fd .none ∧ mg "_law_drawer" = some (.ref f) ∧ PySem.W.keepIn K (.ref f) = true
  d_is_made_of : ∃ f fd, Fd K "is_made_of" "is_made_of" (tp 19) f fd .none ∧ mg "is_made_of" = some (.ref f) ∧ PySem.W.keepIn K (.ref f) = true
  d_is_field_name : ∃ f fd, Fd K "is_field_name" "is_field_name" (tp 22) f fd .none ∧ mg "is_field_name" = some (.ref f) ∧ PySem.W.keepIn K (.ref f) = true
  d_is_field_row : ∃ f fd, Fd K "is_field_row" "is_field_row" (tp 33) f fd .none ∧ mg "is_field_row" = some (.ref f) ∧ PySem.W.keepIn K (.ref f) = true
  d_need_schema : ∃ f fd, Fd K "need_schema" "need_schema" (tp 34) f fd .none ∧ mg "need_schema" = some (.ref f) ∧ PySem.W.keepIn K (.ref f) = true
  d__law_drawn : ∃ f fd, Fd K "_law_drawn" "_law_drawn" (tp 46) f fd .none ∧ mg "_law_drawn" = some (.ref f) ∧ PySem.W.keepIn K (.ref f) = true
  d__law_drawn_of : ∃ f fd, Fd K "_law_drawn_of" "_law_drawn_of" (tp 47) f fd .none ∧ mg "_law_drawn_of" = some (.ref f) ∧ PySem.W.keepIn K (.ref f) = true
  d__law_segment_flush : ∃ f fd, Fd K "_law_segment_flush" "_law_segment_flush" (tp 50) f fd .none ∧ mg "_law_segment_flush" = some (.ref f) ∧ PySem.W.keepIn K (.ref f) = true
  d_is_key : ∃ f fd, Fd K "is_key" "is_key" (tp 21) f fd .none ∧ mg "is_key" = some (.ref f) ∧ PySem.W.keepIn K (.ref f) = true
  d_need_key : ∃ f fd, Fd K "need_key" "need_key" (tp 36) f fd .none ∧ mg "need_key" = some (.ref f) ∧ PySem.W.keepIn K (.ref f) = true
  d_is_text : ∃ f fd, Fd K "is_text" "is_text" (tp 20) f fd .none ∧ mg "is_text" = some (.ref f) ∧ PySem.W.keepIn K (.ref f) = true
  d_is_integer : ∃ f fd, Fd K "is_integer" "is_integer" (tp 18) f fd .none ∧ mg "is_integer" = some (.ref f) ∧ PySem.W.keepIn K (.ref f) = true
  d_is_value_for : ∃ f fd, Fd K "is_value_for" "is_value_for" (tp 37) f fd .none ∧ mg "is_value_for" = some (.ref f) ∧ PySem.W.keepIn K (.ref f) = true
  d_kind_of_field : ∃ f fd, Fd K "kind_of_field" "kind_of_field" (tp 35) f fd .none ∧ mg "kind_of_field" = some (.ref f) ∧ PySem.W.keepIn K (.ref f) = true
  d_need_document : ∃ f fd, Fd K "need_document" "need_document" (tp 38) f fd .none ∧ mg "need_document" = some (.ref f) ∧ PySem.W.keepIn K (.ref f) = true
  d_split_words : ∃ f fd, Fd K "split_words" "split_words" (tp 24) f fd .none ∧ mg "split_words" = some (.ref f) ∧ PySem.W.keepIn K (.ref f) = true
  d__law_segment_put : ∃ f fd, Fd K "_law_segment_put" "_law_segment_put" (tp 49) f fd .none ∧ mg "_law_segment_put" = some (.ref f) ∧ PySem.W.keepIn K (.ref f) = true
  d_live_entries : ∃ f fd, Fd K "live_entries" "live_entries" (tp 28) f fd .none ∧ mg "live_entries" = some (.ref f) ∧ PySem.W.keepIn K (.ref f) = true
  d_segment_row : ∃ f fd, Fd K "segment_row" "segment_row" (tp 29) f fd .none ∧ mg "segment_row" = some (.ref f) ∧ PySem.W.keepIn K (.ref f) = true
  d__law_segmented : ∃ f fd, Fd K "_law_segmented" "_law_segmented" (tp 48) f fd .none ∧ mg "_law_segmented" = some (.ref f) ∧ PySem.W.keepIn K (.ref f) = true
  mth_flush : MthB K mg ["Index"] (Str.ofString "Index") (Str.ofString "flush")
  mth_delete : MthB K mg ["Index"] (Str.ofString "Index") (Str.ofString "delete")
  mth_put : MthB K mg ["Index"] (Str.ofString "Index") (Str.ofString "put")
  idc : IdCs K mg ["Entry"]
def sc__law_drawer : Scope := { kind := .function, names := [("_law_script", .local), ("_law_k", .local), ("_law_cell", .local), ("len", .globalImplicit)], isGenerator := false, isCoroutine := false, more := [] }
theorem scf__law_drawer : FnScope ["_law_script", "_law_k", "_law_cell"] ["_law_script", "_law_k"] sc__law_drawer := ⟨rfl, rfl, rfl, by decide +kernel, rfl, by decide +kernel, by decide +kernel⟩
noncomputable def b__law_drawer (δ : FL.Loc) (μ : Mem) : OutS := (mSeq (mSet 2 (mIf (mTb (m2 (gEq true) (.v 0) (.e (mLst [])))) (m2 gIxL (.v 0) (.e (m2 gMod (.v 1) (.e (mC gLen [(.v 0)]))))) (mD (.int 1))))
    (mRet (mShare (mLst [(mV 2), (m2 gMulA (.e (mD (.int 3))) (.v 1)), (mIf (mTb (m2 gGe (.v 2) (.e (m2 gPow (.e (mD (.int 10))) (.e (mD (.int 18))))))) (m2 gDiv (.v 2) (.e (m2 gPow (.e (mD (.int 10))) (.e (mD (.int 18)))))) (mD (.int 0)))])))) δ μ
noncomputable def m__law_drawer : MF := mFn 3 (b__law_drawer)
theorem g__law_drawer {tb : Nat → Addr} {P : Program} {w : World} {K : PySem.W.Frag} {mg : Str → Option Value} {base : Heap} {f : Addr} {fd : FuncData} (F : Fd K "_law_drawer" "_law_drawer" (tp 45) f fd .none) (T : Txt tb P w K mg base) : FnG P w K mg base (L2.CX P w) (0 + 1) f fd ["_law_script", "_law_k"] (spM K mg (mFn 3 (b__law_drawer)) 2) := by
  refine fnG_s (N := ["_law_script", "_law_k", "_law_cell"]) (sc := sc__law_drawer) F scf__law_drawer (by kernel_rfl) rfl ?_
  intro X W hP hw hK hM hB C
  subst hP hw hK hM hB
  exact (jss_cons (C.set (by decide +kernel) (je_if (C.neT (C.ov (by decide +kernel)) (jo_e (je_lst ja_nil))) (ix_ (C.ov (by decide +kernel)) (jo_e (mod_ (C.ov (by decide +kernel)) (jo_e (C.bi (by decide +kernel) T.n_len PySem.boot_len o_len j_len (jos_cons (C.ov (by decide +kernel)) jos_nil))))) (by intro _ _; rfl)) je_int))
    (jss_one (js_ret (je_share (je_lst (ja_cons (C.v (by decide +kernel)) (ja_cons (mul_ (jo_e je_int) (C.ov (by decide +kernel))) (ja_cons (je_if (geT (C.ov (by decide +kernel)) (jo_e (pow_ (jo_e je_int) (jo_e je_int)))) (div_ (C.ov (by decide +kernel)) (jo_e (pow_ (jo_e je_int) (jo_e je_int)))) je_int) ja_nil))))))))
theorem bd__law_drawer {K : PySem.W.Frag} {f : Addr} {fd : FuncData} (F : Fd K "_law_drawer" "_law_drawer" (tp 45) f fd .none) : Binds K fd ["_law_script", "_law_k"] [] :=
  F.binds fun _ _ _ _ _ _ us hl => match us, hl with | [_, _], _ => by kernel_rfl
theorem ok__law_drawer {tb : Nat → Addr} {P : Program} {w : World} {K : PySem.W.Frag} {mg : Str → Option Value} {base : Heap} (T : Txt tb P w K mg base) : Fu P w K mg base 1 "_law_drawer" m__law_drawer 2 [] := by
  obtain ⟨f, fd, F, hm, hk⟩ := T.d__law_drawer
  exact Fu.mk0 (g__law_drawer F T) hm hk (bd__law_drawer F)
def sc_is_made_of : Scope := { kind := .function, names := [("value", .local), ("signs", .cell), ("most", .local), ("isinstance", .globalImplicit), ("str", .globalImplicit), ("len", .globalImplicit), ("all", .globalImplicit)], isGenerator := false, isCoroutine := false, more := [("fast", .str "value"), ("fast", .str "signs"), ("fast", .str "most"), ("fast", .str "sign")] }
theorem scf_is_made_of : FnScope ["value", "signs", "most", "sign"] ["value", "signs", "most"] sc_is_made_of := ⟨rfl, rfl, rfl, by decide +kernel, rfl, by decide +kernel, by decide +kernel⟩
noncomputable def e1_is_made_of (δ : FL.Loc) (μ : Mem) : Out FL.Slot := (m2 (gIn false) (.v 3) (.v 1)) δ μ
noncomputable def b_is_made_of (δ : FL.Loc) (μ : Mem) : OutS := (mRet (mAndV (mC gIsi [(.v 0), (.e (mD (.ty "str")))]) (mAndV (mChain gLe gLe (.e (mD (.int 1))) (.e (mC gLen [(.v 0)])) (.v 2)) (mC gAll [(.e (mLc (mIt (mV 0)) (tgV 3) mYes e1_is_made_of [3]))])))) δ μ
noncomputable def m_is_made_of : MF := mFn 4 (b_is_made_of)
theorem g_is_made_of {tb : Nat → Addr} {P : Program} {w : World} {K : PySem.W.Frag} {mg : Str → Option Value} {base : Heap} {f : Addr} {fd : FuncData} (F : Fd K "is_made_of" "is_made_of" (tp 19) f fd .none) (T : Txt tb P w K mg base) : FnG P w K mg base (L2.CX P w) (0 + 1) f fd ["value", "signs", "most"] (spM K mg (mFn 4 (b_is_made_of)) 3) := by
  refine fnG_s (N := ["value", "signs", "most", "sign"]) (sc := sc_is_made_of) F scf_is_made_of (by kernel_rfl) rfl ?_
  intro X W hP hw hK hM hB C
  subst hP hw hK hM hB
  exact (jss_one (js_ret (je_and (C.bi (by decide +kernel) T.n_isinstance (by decide +kernel) call_isi j_isi (jos_cons (C.ov (by decide +kernel)) (jos_cons (jo_e (C.ty (by decide +kernel) T.n_str (by decide +kernel))) jos_nil))) (je_and (chain_ o_le j_le o_le j_le (jo_e je_int) (jo_e (C.bi (by decide +kernel) T.n_len PySem.boot_len o_len j_len (jos_cons (C.ov (by decide +kernel)) jos_nil))) (C.ov (by decide +kernel))) (je_one (C.bi (by decide +kernel) T.n_all (by decide +kernel) (cr_all C.calm) j_all (jos_cons (jo_e (Cs.lc (Tx := Txt tb) C.toCs T [("sign", 3)] (ji_any (C.v (by decide +kernel))) (by decide +kernel) (fun Y T1 C1 => ⟨(C1.tg (by decide +kernel)), jts_nil, (in_ (C1.ov (by decide +kernel)) (C1.ov (by decide +kernel)))⟩) (by rfl))) jos_nil)))))))
theorem bd_is_made_of {K : PySem.W.Frag} {f : Addr} {fd : FuncData} (F : Fd K "is_made_of" "is_made_of" (tp 19) f fd .none) : Binds K fd ["value", "signs", "most"] [] :=
  F.binds fun _ _ _ _ _ _ us hl => match us, hl with | [_, _, _], _ => by kernel_rfl
theorem ok_is_made_of {tb : Nat → Addr} {P : Program} {w : World} {K : PySem.W.Frag} {mg : Str → Option Value} {base : Heap} (T : Txt tb P w K mg base) : Fu P w K mg base 1 "is_made_of" m_is_made_of 3 [] := by
  obtain ⟨f, fd, F, hm, hk⟩ := T.d_is_made_of
  exact Fu.mk0 (g_is_made_of F T) hm hk (bd_is_made_of F)
def sc_is_field_name : Scope := { kind := .function, names := [("value", .local), ("is_made_of", .globalImplicit), ("LETTERS", .globalImplicit), ("MAX_NAME", .globalImplicit)], isGenerator := false, isCoroutine := false, more := [] }
theorem scf_is_field_name : FnScope ["value"] ["value"] sc_is_field_name := ⟨rfl, rfl, rfl, by decide +kernel, rfl, by decide +kernel, by decide +kernel⟩
noncomputable def b_is_field_name (δ : FL.Loc) (μ : Mem) : OutS := (mRet (mCall m_is_made_of [(mV 0), (mD (.str (lit "abcdefghijklmnopqrstuvwxyz"))), (mD (.int 12))] [])) δ μ
noncomputable def m_is_field_name : MF := mFn 1 (b_is_field_name)
theorem g_is_field_name {tb : Nat → Addr} {P : Program} {w : World} {K : PySem.W.Frag} {mg : Str → Option Value} {base : Heap} {f : Addr} {fd : FuncData} (F : Fd K "is_field_name" "is_field_name" (tp 22) f fd .none) (T : Txt tb P w K mg base) : FnG P w K mg base (L2.CX P w) (1 + 1) f fd ["value"] (spM K mg (mFn 1 (b_is_field_name)) 1) := by
  refine fnG_s (N := ["value"]) (sc := sc_is_field_name) F scf_is_field_name (by kernel_rfl) rfl ?_
  intro X W hP hw hK hM hB C
  subst hP hw hK hM hB
  exact (jss_one (js_ret (je_call C.toCs (ok_is_made_of T) (by decide +kernel) (by decide +kernel) (ja_cons (C.v (by decide +kernel)) (ja_cons (C.gStr (by decide +kernel) T.c_LETTERS) (ja_cons (C.gInt (by decide +kernel) T.c_MAX_NAME) ja_nil))) rfl)))
theorem bd_is_field_name {K : PySem.W.Frag} {f : Addr} {fd : FuncData} (F : Fd K "is_field_name" "is_field_name" (tp 22) f fd .none) : Binds K fd ["value"] [] :=
  F.binds fun _ _ _ _ _ _ us hl => match us, hl with | [_], _ => by kernel_rfl
theorem ok_is_field_name {tb : Nat → Addr} {P : Program} {w : World} {K : PySem.W.Frag} {mg : Str → Option Value} {base : Heap} (T : Txt tb P w K mg base) : Fu P w K mg base 2 "is_field_name" m_is_field_name 1 [] := by
  obtain ⟨f, fd, F, hm, hk⟩ := T.d_is_field_name
  exact Fu.mk0 (g_is_field_name F T) hm hk (bd_is_field_name F)
def sc_is_field_row : Scope := { kind := .function, names := [("value", .local), ("isinstance", .globalImplicit), ("tuple", .globalImplicit), ("len", .globalImplicit), ("is_field_name", .globalImplicit), ("str", .globalImplicit), ("FIELD_KINDS", .globalImplicit)], isGenerator := false, isCoroutine := false, more := [] }
theorem scf_is_field_row : FnScope ["value"] ["value"] sc_is_field_row := ⟨rfl, rfl, rfl, by decide +kernel, rfl, by decide +kernel, by decide +kernel⟩
noncomputable def b_is_field_row (δ : FL.Loc) (μ : Mem) : OutS := (mSeq (mIfS (mOr (mNot (mTb (mC gIsi [(.v 0), (.e (mD (.ty "tuple")))]))) (mOr (mTb (m2 (gEq true) (.e (mC gLen [(.v 0)])) (.e (mD (.int 2))))) (mNot (mTb (mCall m_is_field_name [(m2 gIxL (.v 0) (.e (mD (.int 0))))] []))))) (mRet (mD (.bl false)))
    mPass)
    (mRet (mAndV (mC gIsi [(.e (m2 gIxL (.v 0) (.e (mD (.int 1))))), (.e (mD (.ty "str")))]) (m2 (gIn false) (.e (m2 gIxL (.v 0) (.e (mD (.int 1))))) (.e (mD (.tup ([lit "text", lit "number"].map .str)))))))) δ μ
noncomputable def m_is_field_row : MF := mFn 1 (b_is_field_row)
theorem g_is_field_row {tb : Nat → Addr} {P : Program} {w : World} {K : PySem.W.Frag} {mg : Str → Option Value} {base : Heap} {f : Addr} {fd : FuncData} (F : Fd K "is_field_row" "is_field_row" (tp 33) f fd .none) (T : Txt tb P w K mg base) : FnG P w K mg base (L2.CX P w) (2 + 1) f fd ["value"] (spM K mg (mFn 1 (b_is_field_row)) 1) := by
  refine fnG_s (N := ["value"]) (sc := sc_is_field_row) F scf_is_field_row (by kernel_rfl) rfl ?_
  intro X W hP hw hK hM hB C
  subst hP hw hK hM hB
  exact (jss_cons (js_if (jt_w (jw_or (jt_not (jt_e (C.bi (by decide +kernel) T.n_isinstance (by decide +kernel) call_isi j_isi (jos_cons (C.ov (by decide +kernel)) (jos_cons (jo_e (C.ty (by decide +kernel) T.n_tuple (by decide +kernel))) jos_nil))))) (jw_or (C.neT (jo_e (C.bi (by decide +kernel) T.n_len PySem.boot_len o_len j_len (jos_cons (C.ov (by decide +kernel)) jos_nil))) (jo_e je_int)) (jw_or1 (jt_not (jt_e (je_call C.toCs (ok_is_field_name T) (by decide +kernel) (by decide +kernel) (ja_cons (ix_ (C.ov (by decide +kernel)) (jo_e je_int) (by intro _ _; rfl)) ja_nil) rfl))))))) (jss_one (js_ret je_bl))
    jss_nil)
    (jss_one (js_ret (je_and (C.bi (by decide +kernel) T.n_isinstance (by decide +kernel) call_isi j_isi (jos_cons (jo_e (ix_ (C.ov (by decide +kernel)) (jo_e je_int) (by intro _ _; rfl))) (jos_cons (jo_e (C.ty (by decide +kernel) T.n_str (by decide +kernel))) jos_nil))) (je_one (in_ (jo_e (ix_ (C.ov (by decide +kernel)) (jo_e je_int) (by intro _ _; rfl))) (jo_e (C.toCs.gTupS (by decide +kernel) T.t_FIELD_KINDS))))))))
theorem bd_is_field_row {K : PySem.W.Frag} {f : Addr} {fd : FuncData} (F : Fd K "is_field_row" "is_field_row" (tp 33) f fd .none) : Binds K fd ["value"] [] :=
  F.binds fun _ _ _ _ _ _ us hl => match us, hl with | [_], _ => by kernel_rfl
theorem ok_is_field_row {tb : Nat → Addr} {P : Program} {w : World} {K : PySem.W.Frag} {mg : Str → Option Value} {base : Heap} (T : Txt tb P w K mg base) : Fu P w K mg base 3 "is_field_row" m_is_field_row 1 [] := by
  obtain ⟨f, fd, F, hm, hk⟩ := T.d_is_field_row
  exact Fu.mk0 (g_is_field_row F T) hm hk (bd_is_field_row F)
def sc_need_schema : Scope := { kind := .function, names := [("value", .local), ("isinstance", .globalImplicit), ("tuple", .globalImplicit), ("len", .globalImplicit), ("MAX_FIELDS", .globalImplicit), ("BadSchema", .globalImplicit), ("all", .globalImplicit), ("set", .globalImplicit)], isGenerator := false, isCoroutine := false, more := [("fast", .str "value"), ("fast", .str "one"), ("fast", .str "name"), ("fast", .str "kind")] }
theorem scf_need_schema : FnScope ["value", "one", "name", "kind"] ["value"] sc_need_schema := ⟨rfl, rfl, rfl, by decide +kernel, rfl, by decide +kernel, by decide +kernel⟩
noncomputable def e1_need_schema (δ : FL.Loc) (μ : Mem) : Out FL.Slot := (mCall m_is_field_row [(mV 1)] []) δ μ
noncomputable def e2_need_schema (δ : FL.Loc) (μ : Mem) : Out FL.Slot := (mV 2) δ μ
noncomputable def b_need_schema (δ : FL.Loc) (μ : Mem) : OutS := (mSeq (mIfS (mOr (mNot (mTb (mC gIsi [(.v 0), (.e (mD (.ty "tuple")))]))) (mNot (mTb (mChain gLe gLe (.e (mD (.int 1))) (.e (mC gLen [(.v 0)])) (.e (mD (.int 6))))))) (mRaise "BadSchema" "reason" (mD (.str (lit "not a tuple of 1 to 6 pairs"))))
    mPass)
    (mSeq (mIfS (mNot (mTb (mC gAll [(.e (mLc (mIt (mV 0)) (tgV 1) mYes e1_need_schema [1]))]))) (mRaise "BadSchema" "reason" (mD (.str (lit "not pairs of a field name and a kind"))))
    mPass)
    (mIfS (mTb (m2 gLt (.e (mC gLenS [(.e (mLc (mIt (mV 0)) (tgT 2 (tgC (tgV 2) (tgC (tgV 3) tgN))) mYes e2_need_schema [2, 3]))])) (.e (mC gLen [(.v 0)])))) (mRaise "BadSchema" "reason" (mD (.str (lit "a field name occurs twice"))))
    mPass))) δ μ
noncomputable def m_need_schema : MF := mFn 4 (b_need_schema)
theorem g_need_schema {tb : Nat → Addr} {P : Program} {w : World} {K : PySem.W.Frag} {mg : Str → Option Value} {base : Heap} {f : Addr} {fd : FuncData} (F : Fd K "need_schema" "need_schema" (tp 34) f fd .none) (T : Txt tb P w K mg base) : FnG P w K mg base (L2.CX P w) (3 + 1) f fd ["value"] (spM K mg (mFn 4 (b_need_schema)) 1) := by
  refine fnG_s (N := ["value", "one", "name", "kind"]) (sc := sc_need_schema) F scf_need_schema (by kernel_rfl) rfl ?_
  intro X W hP hw hK hM hB C
  subst hP hw hK hM hB
  exact (jss_cons (js_if (jt_w (jw_or (jt_not (jt_e (C.bi (by decide +kernel) T.n_isinstance (by decide +kernel) call_isi j_isi (jos_cons (C.ov (by decide +kernel)) (jos_cons (jo_e (C.ty (by decide +kernel) T.n_tuple (by decide +kernel))) jos_nil))))) (jw_or1 (jt_not (chainT o_le j_le o_le j_le (jo_e je_int) (jo_e (C.bi (by decide +kernel) T.n_len PySem.boot_len o_len j_len (jos_cons (C.ov (by decide +kernel)) jos_nil))) (jo_e (C.gInt (by decide +kernel) T.c_MAX_FIELDS))))))) (jss_one (js_raise C.toCs T.x_BadSchema (by decide) (by decide +kernel) je_str))
    jss_nil)
    (jss_cons (js_if (jt_not (jt_e (C.bi (by decide +kernel) T.n_all (by decide +kernel) (cr_all C.calm) j_all (jos_cons (jo_e (Cs.lc (Tx := Txt tb) C.toCs T [("one", 1)] (ji_any (C.v (by decide +kernel))) (by decide +kernel) (fun Y T1 C1 => ⟨(C1.tg (by decide +kernel)), jts_nil, (je_call C1 (ok_is_field_row T1) (by decide +kernel) (by decide +kernel) (ja_cons (C1.v (by decide +kernel)) ja_nil) rfl)⟩) (by rfl))) jos_nil)))) (jss_one (js_raise C.toCs T.x_BadSchema (by decide) (by decide +kernel) je_str))
    jss_nil)
    (jss_one (js_if (ltT (jo_e (Cs.lenSet C.toCs (by decide +kernel) T.n_len (by decide +kernel) T.n_set (jos_cons (jo_e (Cs.lc (Tx := Txt tb) C.toCs T [("name", 2), ("kind", 3)] (ji_any (C.v (by decide +kernel))) (by decide +kernel) (fun Y T1 C1 => ⟨(jg_t C1.calm (jgs_cons (C1.tg (by decide +kernel)) (jgs_cons (C1.tg (by decide +kernel)) jgs_nil))), jts_nil, (C1.v (by decide +kernel))⟩) (by rfl))) jos_nil))) (jo_e (C.bi (by decide +kernel) T.n_len PySem.boot_len o_len j_len (jos_cons (C.ov (by decide +kernel)) jos_nil)))) (jss_one (js_raise C.toCs T.x_BadSchema (by decide) (by decide +kernel) je_str))
    jss_nil))))
theorem bd_need_schema {K : PySem.W.Frag} {f : Addr} {fd : FuncData} (F : Fd K "need_schema" "need_schema" (tp 34) f fd .none) : Binds K fd ["value"] [] :=
  F.binds fun _ _ _ _ _ _ us hl => match us, hl with | [_], _ => by kernel_rfl
theorem ok_need_schema {tb : Nat → Addr} {P : Program} {w : World} {K : PySem.W.Frag} {mg : Str → Option Value} {base : Heap} (T : Txt tb P w K mg base) : Fu P w K mg base 4 "need_schema" m_need_schema 1 [] := by
  obtain ⟨f, fd, F, hm, hk⟩ := T.d_need_schema
  exact Fu.mk0 (g_need_schema F T) hm hk (bd_need_schema F)
def sc_iView : Scope := { kind := .function, names := [("self", .local), ("schema", .local)], isGenerator := false, isCoroutine := false, more := [] }
theorem scf_iView : FnScope ["self", "schema"] ["self", "schema"] sc_iView := ⟨rfl, rfl, rfl, by decide +kernel, rfl, by decide +kernel, by decide +kernel⟩
noncomputable def b_iView (δ : FL.Loc) (μ : Mem) : OutS := (mSeq (mStF at_ "schema" (.v 0) (mV 1))
    (mStF at_ "kept" (.v 0) (mFrz mDct0))) δ μ
noncomputable def m_iView : MF := mFn 2 b_iView
theorem g_iView {tb : Nat → Addr} {P : Program} {w : World} {K : PySem.W.Frag} {mg : Str → Option Value} {base : Heap} {fd : FuncData} (F : Fd K "__init__" "View.__init__" (clsDef 0 (tp 39)) (fAdF K (pM "View" "__init__")) fd .none) (T : Txt tb P w K mg base) : FnG P w K mg base (L2.CX P w) (0 + 1) (fAdF K (pM "View" "__init__")) fd ["self", "schema"] (spM K mg (mFn 2 b_iView) 2) := by
  refine fnG_s (N := ["self", "schema"]) (sc := sc_iView) F scf_iView (by kernel_rfl) rfl ?_
  intro X W hP hw hK hM hB C
  subst hP hw hK hM hB
  exact (jss_cons (js_stF T.atts (C.ov (by decide +kernel)) (C.v (by decide +kernel)))
    (jss_one (js_stF T.atts (C.ov (by decide +kernel)) (je_frz je_dict0))))
theorem bd_iView {K : PySem.W.Frag} {fd : FuncData} (F : Fd K "__init__" "View.__init__" (clsDef 0 (tp 39)) (fAdF K (pM "View" "__init__")) fd .none) : Binds K fd ["self", "schema"] [] :=
  F.binds fun _ _ _ _ _ _ us hl => match us, hl with | [_, _], _ => by kernel_rfl
theorem su_Index {tb : Nat → Addr} {P : Program} {w : World} {K : PySem.W.Frag} {mg : Str → Option Value} {base : Heap} (T : Txt tb P w K mg base) : SupR P w K mg base 1 "Index" "__init__" (He.ga K "Index") m_iView 2 := by
  obtain ⟨fd, F⟩ := T.f_iView
  exact supR_of T.sb_Index (g_iView F T) (bd_iView F)
noncomputable def b_iIndex (δ : FL.Loc) (μ : Mem) : OutS := (mSeq (mEx (mCall m_need_schema [(mV 1)] []))
    (mSeq (mSuper "Index" m_iView [(mV 1)])
    (mStF at_ "pieces" (.v 0) (mLst [])))) δ μ
noncomputable def m_iIndex : MF := mFn 2 b_iIndex
theorem g_iIndex {tb : Nat → Addr} {P : Program} {w : World} {K : PySem.W.Frag} {mg : Str → Option Value} {base : Heap} {kV : Value} {fd : FuncData} (F : FdK K "__init__" "Index.__init__" (clsDef 0 (tp 43)) (fAdF K (pM "Index" "__init__")) kV (codeAd K (pM "Index" "__init__")) (ccAd K (pM "Index" "__init__")) fd) (T : Txt tb P w K mg base) : FnG P w K mg base (L2.CX P w) (4 + 1) (fAdF K (pM "Index" "__init__")) fd ["self", "schema"] (spM K mg (mFn 2 b_iIndex) 2) := by
  refine fnG_cs (N := ["self", "schema"]) (sc := sc_iIndex) (F.fc T.ce_iIndex) scf_iIndex (by kernel_rfl) rfl ?_
  intro X W hP hw hK hM hB C ST
  subst hP hw hK hM hB
  exact (jwb_cons (jws_of (js_expr (je_call C.toCs (ok_need_schema T) (by decide +kernel) (by decide +kernel) (ja_cons (C.v (by decide +kernel)) ja_nil) rfl)))
    (jwb_cons (jws_super C (ST _ T.s_iIndex) (SupR.ok (su_Index T)) (by decide) (ja_cons (C.v (by decide +kernel)) ja_nil) rfl (by decide +kernel) rfl rfl rfl rfl)
    (jwb_of (jss_one (js_stF T.atts (C.ov (by decide +kernel)) (je_lst ja_nil))))))
theorem cl_Index_1 {tb : Nat → Addr} {P : Program} {w : World} {K : PySem.W.Frag} {mg : Str → Option Value} {base : Heap} (T : Txt tb P w K mg base) : ClW P w K mg base 5 "Index" 1 [] [.pos 0] m_iIndex 1 [] := by
  obtain ⟨fd, F⟩ := T.f_iIndex
  exact clW_of T.c_Index T.mk_Index (g_iIndex F T) (F.bind1 fun _ _ _ _ _ _ s x us ws _ h1 h2 => match us, ws, h1, h2 with | [_], [], _, _ => .of_eq (by kernel_rfl)) .nil (fun _ _ => .nil) rfl rfl
def sc__law_drawn : Scope := { kind := .function, names := [("_law_drawer_here", .local), ("_law_many", .local), ("_law_found", .local), ("_law_primes", .local), ("_law_prime", .local)], isGenerator := false, isCoroutine := false, more := [] }
theorem scf__law_drawn : FnScope ["_law_drawer_here", "_law_many", "_law_found", "_law_primes", "_law_prime"] ["_law_drawer_here", "_law_many"] sc__law_drawn := ⟨rfl, rfl, rfl, by decide +kernel, rfl, by decide +kernel, by decide +kernel⟩
noncomputable def b__law_drawn (δ : FL.Loc) (μ : Mem) : OutS := (mSeq (mIfS (mTb (m2 gGt (.e (m2 gIxL (.v 0) (.e (mD (.int 2))))) (.e (mD (.int 0))))) (mSeq (mSet 2 (m2 gMod (.e (m2 gIxL (.v 0) (.e (mD (.int 2))))) (.v 1)))
    (mSeq (mSetI gSetL (.v 0) (.e (mD (.int 2))) (m2 gDiv (.e (m2 gIxL (.v 0) (.e (mD (.int 2))))) (.v 1)))
    (mRet (mV 2))))
    mPass)
    (mSeq (mSetI gSetL (.v 0) (.e (mD (.int 1))) (m2 gAdd (.e (m2 gIxL (.v 0) (.e (mD (.int 1))))) (.e (mD (.int 1)))))
    (mSeq (mSet 3 (mLst [(mD (.int 2147483647)), (mD (.int 2147483629)), (mD (.int 2147483587)), (mD (.int 2147483579)), (mD (.int 2147483563)), (mD (.int 2147483549)), (mD (.int 2147483543)), (mD (.int 2147483497))]))
    (mSeq (mSet 4 (m2 gIxL (.e (m2 gAdd (.v 3) (.e (mLst [(mD (.int 2147483489)), (mD (.int 2147483477)), (mD (.int 2147483423))])))) (.e (m2 gMod (.e (m2 gIxL (.v 0) (.e (mD (.int 1))))) (.e (mD (.int 11)))))))
    (mRet (m2 gMod (.e (m2 gDiv (.e (m2 gMod (.e (m2 gPow (.e (m2 gAdd (.e (m2 gAdd (.e (m2 gMod (.e (m2 gIxL (.v 0) (.e (mD (.int 0))))) (.v 4))) (.e (m2 gMulA (.e (mD (.int 7919))) (.e (m2 gIxL (.v 0) (.e (mD (.int 1))))))))) (.e (mD (.int 1))))) (.e (mD (.int 5))))) (.v 4))) (.e (mD (.int 13))))) (.v 1))))))) δ μ
noncomputable def m__law_drawn : MF := mFn 5 (b__law_drawn)
theorem g__law_drawn {tb : Nat → Addr} {P : Program} {w : World} {K : PySem.W.Frag} {mg : Str → Option Value} {base : Heap} {f : Addr} {fd : FuncData} (F : Fd K "_law_drawn" "_law_drawn" (tp 46) f fd .none) (T : Txt tb P w K mg base) : FnG P w K mg base (L2.CX P w) (0 + 1) f fd ["_law_drawer_here", "_law_many"] (spM K mg (mFn 5 (b__law_drawn)) 2) := by
  refine fnG_s (N := ["_law_drawer_here", "_law_many", "_law_found", "_law_primes", "_law_prime"]) (sc := sc__law_drawn) F scf__law_drawn (by kernel_rfl) rfl ?_
  intro X W hP hw hK hM hB C
  subst hP hw hK hM hB
  exact (jss_cons (js_if (gtT (jo_e (ix_ (C.ov (by decide +kernel)) (jo_e je_int) (by intro _ _; rfl))) (jo_e je_int)) (jss_cons (C.set (by decide +kernel) (mod_ (jo_e (ix_ (C.ov (by decide +kernel)) (jo_e je_int) (by intro _ _; rfl))) (C.ov (by decide +kernel))))
    (jss_cons (setI_ (div_ (jo_e (ix_ (C.ov (by decide +kernel)) (jo_e je_int) (by intro _ _; rfl))) (C.ov (by decide +kernel))) (C.ov (by decide +kernel)) (jo_e je_int))
    (jss_one (js_ret (C.v (by decide +kernel))))))
    jss_nil)
    (jss_cons (setI_ (add_ (jo_e (ix_ (C.ov (by decide +kernel)) (jo_e je_int) (by intro _ _; rfl))) (jo_e je_int)) (C.ov (by decide +kernel)) (jo_e je_int))
    (jss_cons (C.set (by decide +kernel) (je_lst (ja_cons je_int (ja_cons je_int (ja_cons je_int (ja_cons je_int (ja_cons je_int (ja_cons je_int (ja_cons je_int (ja_cons je_int ja_nil))))))))))
    (jss_cons (C.set (by decide +kernel) (ix_ (jo_e (add_ (C.ov (by decide +kernel)) (jo_e (je_lst (ja_cons je_int (ja_cons je_int (ja_cons je_int ja_nil))))))) (jo_e (mod_ (jo_e (ix_ (C.ov (by decide +kernel)) (jo_e je_int) (by intro _ _; rfl))) (jo_e je_int))) (by intro _ _; rfl)))
    (jss_one (js_ret (mod_ (jo_e (div_ (jo_e (mod_ (jo_e (pow_ (jo_e (add_ (jo_e (add_ (jo_e (mod_ (jo_e (ix_ (C.ov (by decide +kernel)) (jo_e je_int) (by intro _ _; rfl))) (C.ov (by decide +kernel)))) (jo_e (mul_ (jo_e je_int) (jo_e (ix_ (C.ov (by decide +kernel)) (jo_e je_int) (by intro _ _; rfl))))))) (jo_e je_int))) (jo_e je_int))) (C.ov (by decide +kernel)))) (jo_e je_int))) (C.ov (by decide +kernel)))))))))
theorem bd__law_drawn {K : PySem.W.Frag} {f : Addr} {fd : FuncData} (F : Fd K "_law_drawn" "_law_drawn" (tp 46) f fd .none) : Binds K fd ["_law_drawer_here", "_law_many"] [] :=
  F.binds fun _ _ _ _ _ _ us hl => match us, hl with | [_, _], _ => by kernel_rfl
theorem ok__law_drawn {tb : Nat → Addr} {P : Program} {w : World} {K : PySem.W.Frag} {mg : Str → Option Value} {base : Heap} (T : Txt tb P w K mg base) : Fu P w K mg base 1 "_law_drawn" m__law_drawn 2 [] := by
  obtain ⟨f, fd, F, hm, hk⟩ := T.d__law_drawn
  exact Fu.mk0 (g__law_drawn F T) hm hk (bd__law_drawn F)
def sc__law_drawn_of : Scope := { kind := .function, names := [("_law_drawer_here", .local), ("_law_items", .local), ("_law_drawn", .globalImplicit), ("len", .globalImplicit)], isGenerator := false, isCoroutine := false, more := [] }
theorem scf__law_drawn_of : FnScope ["_law_drawer_here", "_law_items"] ["_law_drawer_here", "_law_items"] sc__law_drawn_of := ⟨rfl, rfl, rfl, by decide +kernel, rfl, by decide +kernel, by decide +kernel⟩
noncomputable def b__law_drawn_of (δ : FL.Loc) (μ : Mem) : OutS := (mRet (m2 gIxL (.v 1) (.e (mCall m__law_drawn [(mV 0), (mC gLen [(.v 1)])] [])))) δ μ
noncomputable def m__law_drawn_of : MF := mFn 2 (b__law_drawn_of)
theorem g__law_drawn_of {tb : Nat → Addr} {P : Program} {w : World} {K : PySem.W.Frag} {mg : Str → Option Value} {base : Heap} {f : Addr} {fd : FuncData} (F : Fd K "_law_drawn_of" "_law_drawn_of" (tp 47) f fd .none) (T : Txt tb P w K mg base) : FnG P w K mg base (L2.CX P w) (1 + 1) f fd ["_law_drawer_here", "_law_items"] (spM K mg (mFn 2 (b__law_drawn_of)) 2) := by
  refine fnG_s (N := ["_law_drawer_here", "_law_items"]) (sc := sc__law_drawn_of) F scf__law_drawn_of (by kernel_rfl) rfl ?_
  intro X W hP hw hK hM hB C
  subst hP hw hK hM hB
  exact (jss_one (js_ret (ix_ (C.ov (by decide +kernel)) (jo_e (je_call C.toCs (ok__law_drawn T) (by decide +kernel) (by decide +kernel) (ja_cons (C.v (by decide +kernel)) (ja_cons (C.bi (by decide +kernel) T.n_len PySem.boot_len o_len j_len (jos_cons (C.ov (by decide +kernel)) jos_nil)) ja_nil)) rfl)) (by intro _ _; rfl))))
theorem bd__law_drawn_of {K : PySem.W.Frag} {f : Addr} {fd : FuncData} (F : Fd K "_law_drawn_of" "_law_drawn_of" (tp 47) f fd .none) : Binds K fd ["_law_drawer_here", "_law_items"] [] :=
  F.binds fun _ _ _ _ _ _ us hl => match us, hl with | [_, _], _ => by kernel_rfl
theorem ok__law_drawn_of {tb : Nat → Addr} {P : Program} {w : World} {K : PySem.W.Frag} {mg : Str → Option Value} {base : Heap} (T : Txt tb P w K mg base) : Fu P w K mg base 2 "_law_drawn_of" m__law_drawn_of 2 [] := by
  obtain ⟨f, fd, F, hm, hk⟩ := T.d__law_drawn_of
  exact Fu.mk0 (g__law_drawn_of F T) hm hk (bd__law_drawn_of F)
def sc_iSegment : Scope := { kind := .function, names := [("self", .local), ("entries", .local), ("is_open", .local)], isGenerator := false, isCoroutine := false, more := [] }
theorem scf_iSegment : FnScope ["self", "entries", "is_open"] ["self", "entries", "is_open"] sc_iSegment := ⟨rfl, rfl, rfl, by decide +kernel, rfl, by decide +kernel, by decide +kernel⟩
noncomputable def b_iSegment (δ : FL.Loc) (μ : Mem) : OutS := (mSeq (mStF at_ "added" (.v 0) (mV 1))
    (mStF at_ "is_open" (.v 0) (mV 2))) δ μ
noncomputable def m_iSegment : MF := mFn 3 b_iSegment
theorem g_iSegment {tb : Nat → Addr} {P : Program} {w : World} {K : PySem.W.Frag} {mg : Str → Option Value} {base : Heap} {fd : FuncData} (F : Fd K "__init__" "Segment.__init__" (clsDef 0 (tp 27)) (fAdF K (pM "Segment" "__init__")) fd .none) (T : Txt tb P w K mg base) : FnG P w K mg base (L2.CX P w) (0 + 1) (fAdF K (pM "Segment" "__init__")) fd ["self", "entries", "is_open"] (spM K mg (mFn 3 b_iSegment) 3) := by
  refine fnG_s (N := ["self", "entries", "is_open"]) (sc := sc_iSegment) F scf_iSegment (by kernel_rfl) rfl ?_
  intro X W hP hw hK hM hB C
  subst hP hw hK hM hB
  exact (jss_cons (js_stF T.atts (C.ov (by decide +kernel)) (C.v (by decide +kernel)))
    (jss_one (js_stF T.atts (C.ov (by decide +kernel)) (C.v (by decide +kernel)))))
theorem cl_Segment_2 {tb : Nat → Addr} {P : Program} {w : World} {K : PySem.W.Frag} {mg : Str → Option Value} {base : Heap} (T : Txt tb P w K mg base) : ClW P w K mg base 1 "Segment" 2 [] [.pos 0, .pos 1] m_iSegment 2 [] := by
  obtain ⟨fd, F⟩ := T.f_iSegment
  exact clW_of T.c_Segment T.mk_Segment (g_iSegment F T) (F.bind1 fun _ _ _ _ _ _ s x us ws _ h1 h2 => match us, ws, h1, h2 with | [_, _], [], _, _ => .of_eq (by kernel_rfl)) .nil (fun _ _ => .nil) rfl rfl
def sc_sr_flush : Scope := { kind := .function, names := [("self", .local), ("Segment", .globalImplicit)], isGenerator := false, isCoroutine := false, more := [] }
theorem scf_sr_flush : FnScope ["self"] ["self"] sc_sr_flush := ⟨rfl, rfl, rfl, by decide +kernel, rfl, by decide +kernel, by decide +kernel⟩
noncomputable def b_sr_flush (δ : FL.Loc) (μ : Mem) : OutS := (mIfS (mAnd (mTb (m2 (gEqN true) (.e (mAt at_ "pieces" (.v 0))) (.e (mLst [])))) (mTb (mAt at_ "is_open" (.e (m2 gIxL (.e (mAt at_ "pieces" (.v 0))) (.e (mNeg (mD (.int 1))))))))) (mStF at_ "pieces" (.v 0) (mLstL (mStarL (mSl gSl (.e (mAt at_ "pieces" (.v 0))) mNoP (mP (mNeg (mD (.int 1))))) (evA [(mCallK (mkF "Segment" m_iSegment) [.pos 0, .pos 1] [(mAt at_ "added" (.e (m2 gIxL (.e (mAt at_ "pieces" (.v 0))) (.e (mNeg (mD (.int 1))))))), (mD (.bl false))] [] [])]))))
    mPass) δ μ
noncomputable def m_sr_flush : MF := mFn 1 b_sr_flush
theorem g_sr_flush {tb : Nat → Addr} {P : Program} {w : World} {K : PySem.W.Frag} {mg : Str → Option Value} {base : Heap} {fd : FuncData} (F : Fd K "flush" "Index.flush" (clsDef 7 (tp 43)) (fAdF K (pM "Index" "flush")) fd .none) (T : Txt tb P w K mg base) : FnG P w K mg base (L2.CX P w) (2 + 1) (fAdF K (pM "Index" "flush")) fd ["self"] (spM K mg (mFn 1 b_sr_flush) 1) := by
  refine fnG_s (N := ["self"]) (sc := sc_sr_flush) F scf_sr_flush (by kernel_rfl) rfl ?_
  intro X W hP hw hK hM hB C
  subst hP hw hK hM hB
  exact (jss_one (js_if (jt_w (jw_and (C.neNT (jo_e (je_at T.atts (C.ov (by decide +kernel)))) (jo_e (je_lst ja_nil))) (jw_and1 (jt_e (je_at T.atts (jo_e (ix_ (jo_e (je_at T.atts (C.ov (by decide +kernel)))) (jo_e (neg_ je_int)) (by intro _ _; rfl)))))))) (jss_one (js_stF T.atts (C.ov (by decide +kernel)) (je_lstL (jl_star (slice_ (jo_e (je_at T.atts (C.ov (by decide +kernel)))) jp_none (jp_some (neg_ je_int))) (jl_of (ja_cons (clF C.toCs (cl_Segment_2 T) (by decide) (by decide +kernel) (ja_cons (je_at T.atts (jo_e (ix_ (jo_e (je_at T.atts (C.ov (by decide +kernel)))) (jo_e (neg_ je_int)) (by intro _ _; rfl)))) (ja_cons je_bl ja_nil)) jk_nil rfl rfl) ja_nil))))))
    jss_nil))
theorem bd_sr_flush {K : PySem.W.Frag} {fd : FuncData} (F : Fd K "flush" "Index.flush" (clsDef 7 (tp 43)) (fAdF K (pM "Index" "flush")) fd .none) : Binds K fd ["self"] [] :=
  F.binds fun _ _ _ _ _ _ us hl => match us, hl with | [_], _ => by kernel_rfl
noncomputable def mt_flush : String → String → Nat → Option MF := methT1 "Index" "flush" 0 m_sr_flush
theorem mr_flush {tb : Nat → Addr} {P : Program} {w : World} {K : PySem.W.Frag} {mg : Str → Option Value} {base : Heap} (T : Txt tb P w K mg base) : MethR P w K mg base 3 mt_flush := by
  obtain ⟨fd, F⟩ := T.f_sr_flush
  exact methR_of T.mth_flush (g_sr_flush F T) (bd_sr_flush F)
def sc__law_segment_flush : Scope := { kind := .function, names := [("_law_box", .local)], isGenerator := false, isCoroutine := false, more := [] }
theorem scf__law_segment_flush : FnScope ["_law_box"] ["_law_box"] sc__law_segment_flush := ⟨rfl, rfl, rfl, by decide +kernel, rfl, by decide +kernel, by decide +kernel⟩
noncomputable def b__law_segment_flush (δ : FL.Loc) (μ : Mem) : OutS := (mIfS (mAnd (mTb (m2 (gEqN true) (.e (m2 gGetD (.v 0) (.e (mD (.str (lit "pieces")))))) (.e (mLst [])))) (mTb (m2 gIxL (.e (m2 gIxL (.e (m2 gGetD (.v 0) (.e (mD (.str (lit "pieces")))))) (.e (mNeg (mD (.int 1)))))) (.e (mD (.int 1)))))) (mSetI gSetL (.e (m2 gGetD (.v 0) (.e (mD (.str (lit "pieces")))))) (.e (mNeg (mD (.int 1)))) (mTup [(m2 gIxL (.e (m2 gIxL (.e (m2 gGetD (.v 0) (.e (mD (.str (lit "pieces")))))) (.e (mNeg (mD (.int 1)))))) (.e (mD (.int 0)))), (mD (.bl false))]))
    mPass) δ μ
noncomputable def m__law_segment_flush : MF := mFn 1 (b__law_segment_flush)
theorem g__law_segment_flush {tb : Nat → Addr} {P : Program} {w : World} {K : PySem.W.Frag} {mg : Str → Option Value} {base : Heap} {f : Addr} {fd : FuncData} (F : Fd K "_law_segment_flush" "_law_segment_flush" (tp 50) f fd .none) (T : Txt tb P w K mg base) : FnG P w K mg base (L2.CX P w) (0 + 1) f fd ["_law_box"] (spM K mg (mFn 1 (b__law_segment_flush)) 1) := by
  refine fnG_s (N := ["_law_box"]) (sc := sc__law_segment_flush) F scf__law_segment_flush (by kernel_rfl) rfl ?_
  intro X W hP hw hK hM hB C
  subst hP hw hK hM hB
  exact (jss_one (js_if (jt_w (jw_and (C.neNT (jo_e (C.toCs.getD (C.ov (by decide +kernel)) (jo_e je_str) (by intro _ _; rfl))) (jo_e (je_lst ja_nil))) (jw_and1 (jt_e (ix_ (jo_e (ix_ (jo_e (C.toCs.getD (C.ov (by decide +kernel)) (jo_e je_str) (by intro _ _; rfl))) (jo_e (neg_ je_int)) (by intro _ _; rfl))) (jo_e je_int) (by intro _ _; rfl)))))) (jss_one (setI_ (je_tup (ja_cons (ix_ (jo_e (ix_ (jo_e (C.toCs.getD (C.ov (by decide +kernel)) (jo_e je_str) (by intro _ _; rfl))) (jo_e (neg_ je_int)) (by intro _ _; rfl))) (jo_e je_int) (by intro _ _; rfl)) (ja_cons je_bl ja_nil))) (jo_e (C.toCs.getD (C.ov (by decide +kernel)) (jo_e je_str) (by intro _ _; rfl))) (jo_e (neg_ je_int))))
    jss_nil))
theorem bd__law_segment_flush {K : PySem.W.Frag} {f : Addr} {fd : FuncData} (F : Fd K "_law_segment_flush" "_law_segment_flush" (tp 50) f fd .none) : Binds K fd ["_law_box"] [] :=
  F.binds fun _ _ _ _ _ _ us hl => match us, hl with | [_], _ => by kernel_rfl
theorem ok__law_segment_flush {tb : Nat → Addr} {P : Program} {w : World} {K : PySem.W.Frag} {mg : Str → Option Value} {base : Heap} (T : Txt tb P w K mg base) : Fu P w K mg base 1 "_law_segment_flush" m__law_segment_flush 1 [] := by
  obtain ⟨f, fd, F, hm, hk⟩ := T.d__law_segment_flush
  exact Fu.mk0 (g__law_segment_flush F T) hm hk (bd__law_segment_flush F)
def sc_is_key : Scope := { kind := .function, names := [("value", .local), ("is_made_of", .globalImplicit), ("LETTERS", .globalImplicit), ("MAX_NAME", .globalImplicit)], isGenerator := false, isCoroutine := false, more := [] }
theorem scf_is_key : FnScope ["value"] ["value"] sc_is_key := ⟨rfl, rfl, rfl, by decide +kernel, rfl, by decide +kernel, by decide +kernel⟩
noncomputable def b_is_key (δ : FL.Loc) (μ : Mem) : OutS := (mRet (mCall m_is_made_of [(mV 0), (mD (.str (lit "abcdefghijklmnopqrstuvwxyz"))), (mD (.int 12))] [])) δ μ
noncomputable def m_is_key : MF := mFn 1 (b_is_key)
theorem g_is_key {tb : Nat → Addr} {P : Program} {w : World} {K : PySem.W.Frag} {mg : Str → Option Value} {base : Heap} {f : Addr} {fd : FuncData} (F : Fd K "is_key" "is_key" (tp 21) f fd .none) (T : Txt tb P w K mg base) : FnG P w K mg base (L2.CX P w) (1 + 1) f fd ["value"] (spM K mg (mFn 1 (b_is_key)) 1) := by
  refine fnG_s (N := ["value"]) (sc := sc_is_key) F scf_is_key (by kernel_rfl) rfl ?_
  intro X W hP hw hK hM hB C
  subst hP hw hK hM hB
  exact (jss_one (js_ret (je_call C.toCs (ok_is_made_of T) (by decide +kernel) (by decide +kernel) (ja_cons (C.v (by decide +kernel)) (ja_cons (C.gStr (by decide +kernel) T.c_LETTERS) (ja_cons (C.gInt (by decide +kernel) T.c_MAX_NAME) ja_nil))) rfl)))
theorem bd_is_key {K : PySem.W.Frag} {f : Addr} {fd : FuncData} (F : Fd K "is_key" "is_key" (tp 21) f fd .none) : Binds K fd ["value"] [] :=
  F.binds fun _ _ _ _ _ _ us hl => match us, hl with | [_], _ => by kernel_rfl
theorem ok_is_key {tb : Nat → Addr} {P : Program} {w : World} {K : PySem.W.Frag} {mg : Str → Option Value} {base : Heap} (T : Txt tb P w K mg base) : Fu P w K mg base 2 "is_key" m_is_key 1 [] := by
  obtain ⟨f, fd, F, hm, hk⟩ := T.d_is_key
  exact Fu.mk0 (g_is_key F T) hm hk (bd_is_key F)
def sc_need_key : Scope := { kind := .function, names := [("value", .local), ("is_key", .globalImplicit), ("BadKey", .globalImplicit)], isGenerator := false, isCoroutine := false, more := [] }
theorem scf_need_key : FnScope ["value"] ["value"] sc_need_key := ⟨rfl, rfl, rfl, by decide +kernel, rfl, by decide +kernel, by decide +kernel⟩
noncomputable def b_need_key (δ : FL.Loc) (μ : Mem) : OutS := (mIfS (mNot (mTb (mCall m_is_key [(mV 0)] []))) (mRaise "BadKey" "reason" (mD (.str (lit "not a string of 1 to 12 letters"))))
    mPass) δ μ
noncomputable def m_need_key : MF := mFn 1 (b_need_key)
theorem g_need_key {tb : Nat → Addr} {P : Program} {w : World} {K : PySem.W.Frag} {mg : Str → Option Value} {base : Heap} {f : Addr} {fd : FuncData} (F : Fd K "need_key" "need_key" (tp 36) f fd .none) (T : Txt tb P w K mg base) : FnG P w K mg base (L2.CX P w) (3 + 1) f fd ["value"] (spM K mg (mFn 1 (b_need_key)) 1) := by
  refine fnG_s (N := ["value"]) (sc := sc_need_key) F scf_need_key (by kernel_rfl) rfl ?_
  intro X W hP hw hK hM hB C
  subst hP hw hK hM hB
  exact (jss_one (js_if (jt_not (jt_e (je_call C.toCs (ok_is_key T) (by decide +kernel) (by decide +kernel) (ja_cons (C.v (by decide +kernel)) ja_nil) rfl))) (jss_one (js_raise C.toCs T.x_BadKey (by decide) (by decide +kernel) je_str))
    jss_nil))
theorem bd_need_key {K : PySem.W.Frag} {f : Addr} {fd : FuncData} (F : Fd K "need_key" "need_key" (tp 36) f fd .none) : Binds K fd ["value"] [] :=
  F.binds fun _ _ _ _ _ _ us hl => match us, hl with | [_], _ => by kernel_rfl
theorem ok_need_key {tb : Nat → Addr} {P : Program} {w : World} {K : PySem.W.Frag} {mg : Str → Option Value} {base : Heap} (T : Txt tb P w K mg base) : Fu P w K mg base 4 "need_key" m_need_key 1 [] := by
  obtain ⟨f, fd, F, hm, hk⟩ := T.d_need_key
  exact Fu.mk0 (g_need_key F T) hm hk (bd_need_key F)
def sc_sr_delete : Scope := { kind := .function, names := [("self", .local), ("key", .cell), ("need_key", .globalImplicit), ("NoDocument", .globalImplicit)], isGenerator := false, isCoroutine := false, more := [("fast", .str "self"), ("fast", .str "key"), ("fast", .str "other"), ("fast", .str "entry")] }
theorem scf_sr_delete : FnScope ["self", "key", "other", "entry"] ["self", "key"] sc_sr_delete := ⟨rfl, rfl, rfl, by decide +kernel, rfl, by decide +kernel, by decide +kernel⟩
noncomputable def b_sr_delete (δ : FL.Loc) (μ : Mem) : OutS := (mSeq (mEx (mCall m_need_key [(mV 1)] []))
    (mSeq (mIfS (mTb (m2 (gInD true) (.v 1) (.e (mAt at_ "kept" (.v 0))))) mBad
    mPass)
    (mStF at_ "kept" (.v 0) (mFrz (mDc (mItemsF (mAt at_ "kept" (.v 0))) (tgT 2 (tgC (tgV 2) (tgC (tgV 3) tgN))) (mTb (m2 (gEq true) (.v 2) (.v 1))) (mV 2) (mV 3) [2, 3]))))) δ μ
noncomputable def m_sr_delete : MF := mFn 4 b_sr_delete
theorem g_sr_delete {tb : Nat → Addr} {P : Program} {w : World} {K : PySem.W.Frag} {mg : Str → Option Value} {base : Heap} {fd : FuncData} (F : Fd K "delete" "Index.delete" (clsDef 3 (tp 43)) (fAdF K (pM "Index" "delete")) fd .none) (T : Txt tb P w K mg base) : FnG P w K mg base (L2.CX P w) (4 + 1) (fAdF K (pM "Index" "delete")) fd ["self", "key"] (spM K mg (mFn 4 b_sr_delete) 2) := by
  refine fnG_s (N := ["self", "key", "other", "entry"]) (sc := sc_sr_delete) F scf_sr_delete (by kernel_rfl) rfl ?_
  intro X W hP hw hK hM hB C
  subst hP hw hK hM hB
  exact (jss_cons (js_expr (je_call C.toCs (ok_need_key T) (by decide +kernel) (by decide +kernel) (ja_cons (C.v (by decide +kernel)) ja_nil) rfl))
    (jss_cons (js_if (C.toCs.ninDT (C.ov (by decide +kernel)) (jo_e (je_at T.atts (C.ov (by decide +kernel))))) (jss_one js_never)
    jss_nil)
    (jss_one (js_stF T.atts (C.ov (by decide +kernel)) (je_frz (Cs.dc (Tx := Txt tb) C.toCs T [("other", 2), ("entry", 3)] (ji_itemsF (je_at T.atts (C.ov (by decide +kernel)))) (by decide +kernel) (fun Y T1 C1 => ⟨(jg_t C1.calm (jgs_cons (C1.tg (by decide +kernel)) (jgs_cons (C1.tg (by decide +kernel)) jgs_nil))), (jts_one (C1.neT (C1.ov (by decide +kernel)) (C1.ov (by decide +kernel)))), (C1.v (by decide +kernel)), (C1.v (by decide +kernel))⟩) (by rfl)))))))
theorem bd_sr_delete {K : PySem.W.Frag} {fd : FuncData} (F : Fd K "delete" "Index.delete" (clsDef 3 (tp 43)) (fAdF K (pM "Index" "delete")) fd .none) : Binds K fd ["self", "key"] [] :=
  F.binds fun _ _ _ _ _ _ us hl => match us, hl with | [_, _], _ => by kernel_rfl
noncomputable def mt_delete : String → String → Nat → Option MF := methT1 "Index" "delete" 1 m_sr_delete
theorem mr_delete {tb : Nat → Addr} {P : Program} {w : World} {K : PySem.W.Frag} {mg : Str → Option Value} {base : Heap} (T : Txt tb P w K mg base) : MethR P w K mg base 5 mt_delete := by
  obtain ⟨fd, F⟩ := T.f_sr_delete
  exact methR_of T.mth_delete (g_sr_delete F T) (bd_sr_delete F)
def sc_is_text : Scope := { kind := .function, names := [("value", .local), ("isinstance", .globalImplicit), ("str", .globalImplicit), ("len", .globalImplicit), ("MAX_TEXT", .globalImplicit)], isGenerator := false, isCoroutine := false, more := [] }
theorem scf_is_text : FnScope ["value"] ["value"] sc_is_text := ⟨rfl, rfl, rfl, by decide +kernel, rfl, by decide +kernel, by decide +kernel⟩
noncomputable def b_is_text (δ : FL.Loc) (μ : Mem) : OutS := (mRet (mAndV (mC gIsi [(.v 0), (.e (mD (.ty "str")))]) (m2 gLe (.e (mC gLen [(.v 0)])) (.e (mD (.int 400)))))) δ μ
noncomputable def m_is_text : MF := mFn 1 (b_is_text)
theorem g_is_text {tb : Nat → Addr} {P : Program} {w : World} {K : PySem.W.Frag} {mg : Str → Option Value} {base : Heap} {f : Addr} {fd : FuncData} (F : Fd K "is_text" "is_text" (tp 20) f fd .none) (T : Txt tb P w K mg base) : FnG P w K mg base (L2.CX P w) (0 + 1) f fd ["value"] (spM K mg (mFn 1 (b_is_text)) 1) := by
  refine fnG_s (N := ["value"]) (sc := sc_is_text) F scf_is_text (by kernel_rfl) rfl ?_
  intro X W hP hw hK hM hB C
  subst hP hw hK hM hB
  exact (jss_one (js_ret (je_and (C.bi (by decide +kernel) T.n_isinstance (by decide +kernel) call_isi j_isi (jos_cons (C.ov (by decide +kernel)) (jos_cons (jo_e (C.ty (by decide +kernel) T.n_str (by decide +kernel))) jos_nil))) (je_one (le_ (jo_e (C.bi (by decide +kernel) T.n_len PySem.boot_len o_len j_len (jos_cons (C.ov (by decide +kernel)) jos_nil))) (jo_e (C.gInt (by decide +kernel) T.c_MAX_TEXT)))))))
theorem bd_is_text {K : PySem.W.Frag} {f : Addr} {fd : FuncData} (F : Fd K "is_text" "is_text" (tp 20) f fd .none) : Binds K fd ["value"] [] :=
  F.binds fun _ _ _ _ _ _ us hl => match us, hl with | [_], _ => by kernel_rfl
theorem ok_is_text {tb : Nat → Addr} {P : Program} {w : World} {K : PySem.W.Frag} {mg : Str → Option Value} {base : Heap} (T : Txt tb P w K mg base) : Fu P w K mg base 1 "is_text" m_is_text 1 [] := by
  obtain ⟨f, fd, F, hm, hk⟩ := T.d_is_text
  exact Fu.mk0 (g_is_text F T) hm hk (bd_is_text F)
def sc_is_integer : Scope := { kind := .function, names := [("value", .local), ("low", .local), ("high", .local), ("isinstance", .globalImplicit), ("int", .globalImplicit), ("bool", .globalImplicit)], isGenerator := false, isCoroutine := false, more := [] }
theorem scf_is_integer : FnScope ["value", "low", "high"] ["value", "low", "high"] sc_is_integer := ⟨rfl, rfl, rfl, by decide +kernel, rfl, by decide +kernel, by decide +kernel⟩
noncomputable def b_is_integer (δ : FL.Loc) (μ : Mem) : OutS := (mSeq (mIfS (mOr (mNot (mTb (mC gIsi [(.v 0), (.e (mD (.ty "int")))]))) (mTb (mC gIsi [(.v 0), (.e (mD (.ty "bool")))]))) (mRet (mD (.bl false)))
    mPass)
    (mRet (mAndV (mOrV (m2 (gIsN false) (.v 1) (.e (mD .non))) (m2 gLe (.v 1) (.v 0))) (mOrV (m2 (gIsN false) (.v 2) (.e (mD .non))) (m2 gLe (.v 0) (.v 2)))))) δ μ
noncomputable def m_is_integer : MF := mFn 3 (b_is_integer)
theorem g_is_integer {tb : Nat → Addr} {P : Program} {w : World} {K : PySem.W.Frag} {mg : Str → Option Value} {base : Heap} {f : Addr} {fd : FuncData} (F : Fd K "is_integer" "is_integer" (tp 18) f fd .none) (T : Txt tb P w K mg base) : FnG P w K mg base (L2.CX P w) (0 + 1) f fd ["value", "low", "high"] (spM K mg (mFn 3 (b_is_integer)) 3) := by
  refine fnG_s (N := ["value", "low", "high"]) (sc := sc_is_integer) F scf_is_integer (by kernel_rfl) rfl ?_
  intro X W hP hw hK hM hB C
  subst hP hw hK hM hB
  exact (jss_cons (js_if (jt_w (jw_or (jt_not (jt_e (C.bi (by decide +kernel) T.n_isinstance (by decide +kernel) call_isi j_isi (jos_cons (C.ov (by decide +kernel)) (jos_cons (jo_e (C.ty (by decide +kernel) T.n_int (by decide +kernel))) jos_nil))))) (jw_or1 (jt_e (C.bi (by decide +kernel) T.n_isinstance (by decide +kernel) call_isi j_isi (jos_cons (C.ov (by decide +kernel)) (jos_cons (jo_e (C.ty (by decide +kernel) T.n_bool (by decide +kernel))) jos_nil))))))) (jss_one (js_ret je_bl))
    jss_nil)
    (jss_one (js_ret (je_and (je_or (isN_ (C.ov (by decide +kernel)) (jo_e je_non)) (je_one (le_ (C.ov (by decide +kernel)) (C.ov (by decide +kernel))))) (je_one (je_or (isN_ (C.ov (by decide +kernel)) (jo_e je_non)) (je_one (le_ (C.ov (by decide +kernel)) (C.ov (by decide +kernel))))))))))
theorem bd_is_integer {K : PySem.W.Frag} {f : Addr} {fd : FuncData} (F : Fd K "is_integer" "is_integer" (tp 18) f fd .none) : Binds K fd ["value", "low", "high"] [] :=
  F.binds fun _ _ _ _ _ _ us hl => match us, hl with | [_, _, _], _ => by kernel_rfl
theorem ok_is_integer {tb : Nat → Addr} {P : Program} {w : World} {K : PySem.W.Frag} {mg : Str → Option Value} {base : Heap} (T : Txt tb P w K mg base) : Fu P w K mg base 1 "is_integer" m_is_integer 3 [] := by
  obtain ⟨f, fd, F, hm, hk⟩ := T.d_is_integer
  exact Fu.mk0 (g_is_integer F T) hm hk (bd_is_integer F)
def sc_is_value_for : Scope := { kind := .function, names := [("kind", .local), ("value", .local), ("is_text", .globalImplicit), ("is_integer", .globalImplicit), ("GREATEST", .globalImplicit)], isGenerator := false, isCoroutine := false, more := [] }
theorem scf_is_value_for : FnScope ["kind", "value"] ["kind", "value"] sc_is_value_for := ⟨rfl, rfl, rfl, by decide +kernel, rfl, by decide +kernel, by decide +kernel⟩
noncomputable def b_is_value_for (δ : FL.Loc) (μ : Mem) : OutS := (mSeq (mIfS (mTb (m2 (gEq false) (.v 0) (.e (mD (.str (lit "text")))))) (mRet (mCall m_is_text [(mV 1)] []))
    mPass)
    (mRet (mAndV (m2 (gEq false) (.v 0) (.e (mD (.str (lit "number"))))) (mCall m_is_integer [(mV 1), (m2 gSub (.e (mD (.int 0))) (.e (mD (.int 1000000000)))), (mD (.int 1000000000))] [])))) δ μ
noncomputable def m_is_value_for : MF := mFn 2 (b_is_value_for)
theorem g_is_value_for {tb : Nat → Addr} {P : Program} {w : World} {K : PySem.W.Frag} {mg : Str → Option Value} {base : Heap} {f : Addr} {fd : FuncData} (F : Fd K "is_value_for" "is_value_for" (tp 37) f fd .none) (T : Txt tb P w K mg base) : FnG P w K mg base (L2.CX P w) (1 + 1) f fd ["kind", "value"] (spM K mg (mFn 2 (b_is_value_for)) 2) := by
  refine fnG_s (N := ["kind", "value"]) (sc := sc_is_value_for) F scf_is_value_for (by kernel_rfl) rfl ?_
  intro X W hP hw hK hM hB C
  subst hP hw hK hM hB
  exact (jss_cons (js_if (C.eqT (C.ov (by decide +kernel)) (jo_e je_str)) (jss_one (js_ret (je_call C.toCs (ok_is_text T) (by decide +kernel) (by decide +kernel) (ja_cons (C.v (by decide +kernel)) ja_nil) rfl)))
    jss_nil)
    (jss_one (js_ret (je_and (C.eq (C.ov (by decide +kernel)) (jo_e je_str)) (je_one (je_call C.toCs (ok_is_integer T) (by decide +kernel) (by decide +kernel) (ja_cons (C.v (by decide +kernel)) (ja_cons (sub_ (jo_e je_int) (jo_e (C.gInt (by decide +kernel) T.c_GREATEST))) (ja_cons (C.gInt (by decide +kernel) T.c_GREATEST) ja_nil))) rfl))))))
theorem bd_is_value_for {K : PySem.W.Frag} {f : Addr} {fd : FuncData} (F : Fd K "is_value_for" "is_value_for" (tp 37) f fd .none) : Binds K fd ["kind", "value"] [] :=
  F.binds fun _ _ _ _ _ _ us hl => match us, hl with | [_, _], _ => by kernel_rfl
theorem ok_is_value_for {tb : Nat → Addr} {P : Program} {w : World} {K : PySem.W.Frag} {mg : Str → Option Value} {base : Heap} (T : Txt tb P w K mg base) : Fu P w K mg base 2 "is_value_for" m_is_value_for 2 [] := by
  obtain ⟨f, fd, F, hm, hk⟩ := T.d_is_value_for
  exact Fu.mk0 (g_is_value_for F T) hm hk (bd_is_value_for F)
def sc_kind_of_field : Scope := { kind := .function, names := [("schema", .local), ("field", .local), ("dict", .globalImplicit)], isGenerator := false, isCoroutine := false, more := [] }
theorem scf_kind_of_field : FnScope ["schema", "field"] ["schema", "field"] sc_kind_of_field := ⟨rfl, rfl, rfl, by decide +kernel, rfl, by decide +kernel, by decide +kernel⟩
noncomputable def b_kind_of_field (δ : FL.Loc) (μ : Mem) : OutS := (mRet (mGet1 (.e (mFrz (mC gDict [(.v 0)]))) (.v 1))) δ μ
noncomputable def m_kind_of_field : MF := mFn 2 (b_kind_of_field)
theorem g_kind_of_field {tb : Nat → Addr} {P : Program} {w : World} {K : PySem.W.Frag} {mg : Str → Option Value} {base : Heap} {f : Addr} {fd : FuncData} (F : Fd K "kind_of_field" "kind_of_field" (tp 35) f fd .none) (T : Txt tb P w K mg base) : FnG P w K mg base (L2.CX P w) (0 + 1) f fd ["schema", "field"] (spM K mg (mFn 2 (b_kind_of_field)) 2) := by
  refine fnG_s (N := ["schema", "field"]) (sc := sc_kind_of_field) F scf_kind_of_field (by kernel_rfl) rfl ?_
  intro X W hP hw hK hM hB C
  subst hP hw hK hM hB
  exact (jss_one (js_ret (C.toCs.get1 (jo_e (je_frz (C.bt (by decide +kernel) T.n_dict rfl (cr_dict C.calm) j_dict (jos_cons (C.ov (by decide +kernel)) jos_nil)))) (C.ov (by decide +kernel)))))
theorem bd_kind_of_field {K : PySem.W.Frag} {f : Addr} {fd : FuncData} (F : Fd K "kind_of_field" "kind_of_field" (tp 35) f fd .none) : Binds K fd ["schema", "field"] [] :=
  F.binds fun _ _ _ _ _ _ us hl => match us, hl with | [_, _], _ => by kernel_rfl
theorem ok_kind_of_field {tb : Nat → Addr} {P : Program} {w : World} {K : PySem.W.Frag} {mg : Str → Option Value} {base : Heap} (T : Txt tb P w K mg base) : Fu P w K mg base 1 "kind_of_field" m_kind_of_field 2 [] := by
  obtain ⟨f, fd, F, hm, hk⟩ := T.d_kind_of_field
  exact Fu.mk0 (g_kind_of_field F T) hm hk (bd_kind_of_field F)
def sc_need_document : Scope := { kind := .function, names := [("schema", .cell), ("value", .local), ("isinstance", .globalImplicit), ("dict", .globalImplicit), ("BadDocument", .globalImplicit), ("all", .globalImplicit)], isGenerator := false, isCoroutine := false, more := [("fast", .str "schema"), ("fast", .str "value"), ("fast", .str "name"), ("fast", .str "one")] }
theorem scf_need_document : FnScope ["schema", "value", "name", "one"] ["schema", "value"] sc_need_document := ⟨rfl, rfl, rfl, by decide +kernel, rfl, by decide +kernel, by decide +kernel⟩
noncomputable def e1_need_document (δ : FL.Loc) (μ : Mem) : Out FL.Slot := (mCall m_is_value_for [(mCall m_kind_of_field [(mV 0), (mV 2)] []), (mV 3)] []) δ μ
noncomputable def b_need_document (δ : FL.Loc) (μ : Mem) : OutS := (mSeq (mIfS (mNot (mTb (mC gIsi [(.v 1), (.e (mD (.ty "dict")))]))) (mRaise "BadDocument" "reason" (mD (.str (lit "not a dict"))))
    mPass)
    (mIfS (mNot (mTb (mC gAll [(.e (mLc (mItemsF (mV 1)) (tgT 2 (tgC (tgV 2) (tgC (tgV 3) tgN))) mYes e1_need_document [2, 3]))]))) (mRaise "BadDocument" "reason" (mD (.str (lit "a field or a value does not fit the schema"))))
    mPass)) δ μ
noncomputable def m_need_document : MF := mFn 4 (b_need_document)
theorem g_need_document {tb : Nat → Addr} {P : Program} {w : World} {K : PySem.W.Frag} {mg : Str → Option Value} {base : Heap} {f : Addr} {fd : FuncData} (F : Fd K "need_document" "need_document" (tp 38) f fd .none) (T : Txt tb P w K mg base) : FnG P w K mg base (L2.CX P w) (3 + 1) f fd ["schema", "value"] (spM K mg (mFn 4 (b_need_document)) 2) := by
  refine fnG_s (N := ["schema", "value", "name", "one"]) (sc := sc_need_document) F scf_need_document (by kernel_rfl) rfl ?_
  intro X W hP hw hK hM hB C
  subst hP hw hK hM hB
  exact (jss_cons (js_if (jt_not (jt_e (C.bi (by decide +kernel) T.n_isinstance (by decide +kernel) call_isi j_isi (jos_cons (C.ov (by decide +kernel)) (jos_cons (jo_e (C.ty (by decide +kernel) T.n_dict (by decide +kernel))) jos_nil))))) (jss_one (js_raise C.toCs T.x_BadDocument (by decide) (by decide +kernel) je_str))
    jss_nil)
    (jss_one (js_if (jt_not (jt_e (C.bi (by decide +kernel) T.n_all (by decide +kernel) (cr_all C.calm) j_all (jos_cons (jo_e (Cs.lc (Tx := Txt tb) C.toCs T [("name", 2), ("one", 3)] (ji_itemsF (C.v (by decide +kernel))) (by decide +kernel) (fun Y T1 C1 => ⟨(jg_t C1.calm (jgs_cons (C1.tg (by decide +kernel)) (jgs_cons (C1.tg (by decide +kernel)) jgs_nil))), jts_nil, (je_call C1 (ok_is_value_for T1) (by decide +kernel) (by decide +kernel) (ja_cons (je_call C1 (ok_kind_of_field T1) (by decide +kernel) (by decide +kernel) (ja_cons (C1.v (by decide +kernel)) (ja_cons (C1.v (by decide +kernel)) ja_nil)) rfl) (ja_cons (C1.v (by decide +kernel)) ja_nil)) rfl)⟩) (by rfl))) jos_nil)))) (jss_one (js_raise C.toCs T.x_BadDocument (by decide) (by decide +kernel) je_str))
    jss_nil)))
theorem bd_need_document {K : PySem.W.Frag} {f : Addr} {fd : FuncData} (F : Fd K "need_document" "need_document" (tp 38) f fd .none) : Binds K fd ["schema", "value"] [] :=
  F.binds fun _ _ _ _ _ _ us hl => match us, hl with | [_, _], _ => by kernel_rfl
theorem ok_need_document {tb : Nat → Addr} {P : Program} {w : World} {K : PySem.W.Frag} {mg : Str → Option Value} {base : Heap} (T : Txt tb P w K mg base) : Fu P w K mg base 4 "need_document" m_need_document 2 [] := by
  obtain ⟨f, fd, F, hm, hk⟩ := T.d_need_document
  exact Fu.mk0 (g_need_document F T) hm hk (bd_need_document F)
def sc_split_words : Scope := { kind := .function, names := [("text", .local), ("found", .local), ("run", .local), ("sign", .local), ("WORD_SIGNS", .globalImplicit), ("len", .globalImplicit), ("MAX_WORD", .globalImplicit)], isGenerator := false, isCoroutine := false, more := [] }
theorem scf_split_words : FnScope ["text", "found", "run", "sign"] ["text"] sc_split_words := ⟨rfl, rfl, rfl, by decide +kernel, rfl, by decide +kernel, by decide +kernel⟩
noncomputable def f1_split_words (δ : FL.Loc) (μ : Mem) : OutS := (mSeq (mIfS (mTb (m2 (gIn false) (.v 3) (.e (mD (.str (lit "abcdefghijklmnopqrstuvwxyz0123456789")))))) (mSet 2 (m2 gAdd (.v 2) (.v 3)))
    mPass)
    (mIfS (mAnd (mTb (m2 (gEq true) (.v 2) (.e (mD (.str (lit "")))))) (mOr (mTb (m2 (gIn true) (.v 3) (.e (mD (.str (lit "abcdefghijklmnopqrstuvwxyz0123456789")))))) (mTb (m2 (gEq false) (.e (mC gLen [(.v 2)])) (.e (mD (.int 20))))))) (mSeq (mEx (mMut "list" gAppend (.v 1) [(mV 2)]))
    (mSet 2 (mD (.str (lit "")))))
    mPass)) δ μ
noncomputable def b_split_words (δ : FL.Loc) (μ : Mem) : OutS := (mSeq (mPar 1 2 (mLst []) (mD (.str (lit ""))))
    (mSeq (mFor (mIt (mM "str" gLower (.v 0) [])) (tgV 3) f1_split_words)
    (mRet (mIf (mTb (m2 (gEq true) (.v 2) (.e (mD (.str (lit "")))))) (m2 gAdd (.v 1) (.e (mLst [(mV 2)]))) (mMv 1))))) δ μ
noncomputable def m_split_words : MF := mFn 4 (b_split_words)
theorem g_split_words {tb : Nat → Addr} {P : Program} {w : World} {K : PySem.W.Frag} {mg : Str → Option Value} {base : Heap} {f : Addr} {fd : FuncData} (F : Fd K "split_words" "split_words" (tp 24) f fd .none) (T : Txt tb P w K mg base) : FnG P w K mg base (L2.CX P w) (0 + 1) f fd ["text"] (spM K mg (mFn 4 (b_split_words)) 1) := by
  refine fnG_s (N := ["text", "found", "run", "sign"]) (sc := sc_split_words) F scf_split_words (by kernel_rfl) rfl ?_
  intro X W hP hw hK hM hB C
  subst hP hw hK hM hB
  exact (jss_cons (C.par (by decide +kernel) (by decide +kernel) (by decide) (je_lst ja_nil) je_str (by intro env he; simp only [swappedStores, Env.blockKind, Env.kindOf, he]; rfl))
    (jss_cons (js_for C.hp C.calm (ji_any (lower_ (C.ov (by decide +kernel)))) (C.tg (by decide +kernel)) (jss_cons (js_if (inT (C.ov (by decide +kernel)) (jo_e (C.gStr (by decide +kernel) T.c_WORD_SIGNS))) (jss_one (C.set (by decide +kernel) (add_ (C.ov (by decide +kernel)) (C.ov (by decide +kernel)))))
    jss_nil)
    (jss_one (js_if (jt_w (jw_and (C.neT (C.ov (by decide +kernel)) (jo_e je_str)) (jw_and1 (jt_w (jw_or (ninT (C.ov (by decide +kernel)) (jo_e (C.gStr (by decide +kernel) T.c_WORD_SIGNS))) (jw_or1 (C.eqT (jo_e (C.bi (by decide +kernel) T.n_len PySem.boot_len o_len j_len (jos_cons (C.ov (by decide +kernel)) jos_nil))) (jo_e (C.gInt (by decide +kernel) T.c_MAX_WORD))))))))) (jss_cons (js_expr (append_ (C.ov (by decide +kernel)) (ja_cons (C.v (by decide +kernel)) ja_nil)))
    (jss_one (C.set (by decide +kernel) je_str)))
    jss_nil))))
    (jss_one (js_ret (je_if (C.neT (C.ov (by decide +kernel)) (jo_e je_str)) (add_ (C.ov (by decide +kernel)) (jo_e (je_lst (ja_cons (C.v (by decide +kernel)) ja_nil)))) (je_mv (C.toCs.var (by decide +kernel))))))))
theorem bd_split_words {K : PySem.W.Frag} {f : Addr} {fd : FuncData} (F : Fd K "split_words" "split_words" (tp 24) f fd .none) : Binds K fd ["text"] [] :=
  F.binds fun _ _ _ _ _ _ us hl => match us, hl with | [_], _ => by kernel_rfl
theorem ok_split_words {tb : Nat → Addr} {P : Program} {w : World} {K : PySem.W.Frag} {mg : Str → Option Value} {base : Heap} (T : Txt tb P w K mg base) : Fu P w K mg base 1 "split_words" m_split_words 1 [] := by
  obtain ⟨f, fd, F, hm, hk⟩ := T.d_split_words
  exact Fu.mk0 (g_split_words F T) hm hk (bd_split_words F)
def sc_iEntry : Scope := { kind := .function, names := [("self", .local), ("key", .local), ("document", .local), ("name", .local), ("value", .local), ("isinstance", .globalImplicit), ("str", .globalImplicit), ("tuple", .globalImplicit), ("split_words", .globalImplicit)], isGenerator := false, isCoroutine := false, more := [] }
theorem scf_iEntry : FnScope ["self", "key", "document", "name", "value"] ["self", "key", "document"] sc_iEntry := ⟨rfl, rfl, rfl, by decide +kernel, rfl, by decide +kernel, by decide +kernel⟩
noncomputable def f1_iEntry (δ : FL.Loc) (μ : Mem) : OutS := (mIfS (mTb (mC gIsi [(.v 4), (.e (mD (.ty "str")))])) (mSetI gSetD (.e (mAt at_ "field_words" (.v 0))) (.v 3) (mC gTuple [(.e (mCall m_split_words [(mV 4)] []))]))
    mPass) δ μ
noncomputable def b_iEntry (δ : FL.Loc) (μ : Mem) : OutS := (mSeq (mStF at_ "label" (.v 0) (mV 1))
    (mSeq (mStF at_ "kept_document" (.v 0) (mV 2))
    (mSeq (mStF at_ "field_words" (.v 0) (mShare mDct0))
    (mFor (mItemsF (mV 2)) (tgT 2 (tgC (tgV 3) (tgC (tgV 4) tgN))) f1_iEntry)))) δ μ
noncomputable def m_iEntry : MF := mFn 5 b_iEntry
theorem g_iEntry {tb : Nat → Addr} {P : Program} {w : World} {K : PySem.W.Frag} {mg : Str → Option Value} {base : Heap} {fd : FuncData} (F : Fd K "__init__" "Entry.__init__" (clsDef 0 (tp 26)) (fAdF K (pM "Entry" "__init__")) fd .none) (T : Txt tb P w K mg base) : FnG P w K mg base (L2.CX P w) (1 + 1) (fAdF K (pM "Entry" "__init__")) fd ["self", "key", "document"] (spM K mg (mFn 5 b_iEntry) 3) := by
  refine fnG_s (N := ["self", "key", "document", "name", "value"]) (sc := sc_iEntry) F scf_iEntry (by kernel_rfl) rfl ?_
  intro X W hP hw hK hM hB C
  subst hP hw hK hM hB
  exact (jss_cons (js_stF T.atts (C.ov (by decide +kernel)) (C.v (by decide +kernel)))
    (jss_cons (js_stF T.atts (C.ov (by decide +kernel)) (C.v (by decide +kernel)))
    (jss_cons (js_stF T.atts (C.ov (by decide +kernel)) (je_share je_dict0))
    (jss_one (js_for C.hp C.calm (ji_itemsF (C.v (by decide +kernel))) (jg_t C.calm (jgs_cons (C.tg (by decide +kernel)) (jgs_cons (C.tg (by decide +kernel)) jgs_nil))) (jss_one (js_if (jt_e (C.bi (by decide +kernel) T.n_isinstance (by decide +kernel) call_isi j_isi (jos_cons (C.ov (by decide +kernel)) (jos_cons (jo_e (C.ty (by decide +kernel) T.n_str (by decide +kernel))) jos_nil)))) (jss_one (C.setD (C.bt (by decide +kernel) T.n_tuple (by decide +kernel) o_tuple j_tuple (jos_cons (jo_e (je_call C.toCs (ok_split_words T) (by decide +kernel) (by decide +kernel) (ja_cons (C.v (by decide +kernel)) ja_nil) rfl)) jos_nil)) (jo_e (je_at T.atts (C.ov (by decide +kernel)))) (C.ov (by decide +kernel))))
    jss_nil)))))))
theorem cl_Entry_2 {tb : Nat → Addr} {P : Program} {w : World} {K : PySem.W.Frag} {mg : Str → Option Value} {base : Heap} (T : Txt tb P w K mg base) : ClW P w K mg base 2 "Entry" 2 [] [.pos 0, .pos 1] m_iEntry 2 [] := by
  obtain ⟨fd, F⟩ := T.f_iEntry
  exact clW_of T.c_Entry T.mk_Entry (g_iEntry F T) (F.bind1 fun _ _ _ _ _ _ s x us ws _ h1 h2 => match us, ws, h1, h2 with | [_, _], [], _, _ => .of_eq (by kernel_rfl)) .nil (fun _ _ => .nil) rfl rfl
def sc_sr_put : Scope := { kind := .function, names := [("self", .local), ("key", .local), ("document", .local), ("is_old", .local), ("entry", .local), ("closed", .local), ("entries", .local), ("need_key", .globalImplicit), ("need_document", .globalImplicit), ("len", .globalImplicit), ("MAX_DOCUMENTS", .globalImplicit), ("TooMany", .globalImplicit), ("Entry", .globalImplicit), ("dict", .globalImplicit), ("Segment", .globalImplicit)], isGenerator := false, isCoroutine := false, more := [] }
theorem scf_sr_put : FnScope ["self", "key", "document", "is_old", "entry", "closed", "entries"] ["self", "key", "document"] sc_sr_put := ⟨rfl, rfl, rfl, by decide +kernel, rfl, by decide +kernel, by decide +kernel⟩
noncomputable def b_sr_put (δ : FL.Loc) (μ : Mem) : OutS := (mSeq (mEx (mCall m_need_key [(mV 1)] []))
    (mSeq (mEx (mCall m_need_document [(mAt at_ "schema" (.v 0)), (mV 2)] []))
    (mSeq (mSet 3 (m2 (gInD false) (.v 1) (.e (mAt at_ "kept" (.v 0)))))
    (mSeq (mIfS (mAnd (mNot (mTb (mV 3))) (mTb (m2 (gEq false) (.e (mC gLenD [(.e (mAt at_ "kept" (.v 0)))])) (.e (mD (.int 500)))))) mBad
    mPass)
    (mSeq (mSet 4 (mCallK (mkS "Entry" m_iEntry) [.pos 0, .pos 1] [(mV 1), (mFrz (mC gDict [(.v 2)]))] [] []))
    (mSeq (mPar 5 6 (mAt at_ "pieces" (.v 0)) (mLst []))
    (mSeq (mIfS (mAnd (mTb (m2 (gEqN true) (.e (mAt at_ "pieces" (.v 0))) (.e (mLst [])))) (mTb (mAt at_ "is_open" (.e (m2 gIxL (.e (mAt at_ "pieces" (.v 0))) (.e (mNeg (mD (.int 1))))))))) (mPar 5 6 (mSl gSl (.e (mAt at_ "pieces" (.v 0))) mNoP (mP (mNeg (mD (.int 1))))) (mAt at_ "added" (.e (m2 gIxL (.e (mAt at_ "pieces" (.v 0))) (.e (mNeg (mD (.int 1))))))))
    mPass)
    (mSeq (mStF at_ "pieces" (.v 0) (mLstL (mStarL (mV 5) (evA [(mCallK (mkF "Segment" m_iSegment) [.pos 0, .pos 1] [(mLstL (mStarL (mV 6) (evA [(mV 4)]))), (mD (.bl true))] [] [])]))))
    (mSeq (mStF at_ "kept" (.v 0) (mFrz (mDStar (mAt at_ "kept" (.v 0)) (mV 1) (mV 4))))
    (mRet (mV 3))))))))))) δ μ
noncomputable def m_sr_put : MF := mFn 7 b_sr_put
theorem g_sr_put {tb : Nat → Addr} {P : Program} {w : World} {K : PySem.W.Frag} {mg : Str → Option Value} {base : Heap} {fd : FuncData} (F : Fd K "put" "Index.put" (clsDef 2 (tp 43)) (fAdF K (pM "Index" "put")) fd .none) (T : Txt tb P w K mg base) : FnG P w K mg base (L2.CX P w) (4 + 1) (fAdF K (pM "Index" "put")) fd ["self", "key", "document"] (spM K mg (mFn 7 b_sr_put) 3) := by
  refine fnG_s (N := ["self", "key", "document", "is_old", "entry", "closed", "entries"]) (sc := sc_sr_put) F scf_sr_put (by kernel_rfl) rfl ?_
  intro X W hP hw hK hM hB C
  subst hP hw hK hM hB
  exact (jss_cons (js_expr (je_call C.toCs (ok_need_key T) (by decide +kernel) (by decide +kernel) (ja_cons (C.v (by decide +kernel)) ja_nil) rfl))
    (jss_cons (js_expr (je_call C.toCs (ok_need_document T) (by decide +kernel) (by decide +kernel) (ja_cons (je_at T.atts (C.ov (by decide +kernel))) (ja_cons (C.v (by decide +kernel)) ja_nil)) rfl))
    (jss_cons (C.set (by decide +kernel) (C.toCs.inD (C.ov (by decide +kernel)) (jo_e (je_at T.atts (C.ov (by decide +kernel))))))
    (jss_cons (js_if (jt_w (jw_and (jt_not (jt_e (C.v (by decide +kernel)))) (jw_and1 (C.eqT (jo_e (C.bi (by decide +kernel) T.n_len PySem.boot_len cr_lenD j_lenD (jos_cons (jo_e (je_at T.atts (C.ov (by decide +kernel)))) jos_nil))) (jo_e (C.gInt (by decide +kernel) T.c_MAX_DOCUMENTS)))))) (jss_one js_never)
    jss_nil)
    (jss_cons (C.set (by decide +kernel) (clS C.toCs (cl_Entry_2 T) (by decide) (by decide +kernel) (ja_cons (C.v (by decide +kernel)) (ja_cons (je_frz (C.bt (by decide +kernel) T.n_dict rfl (cr_dict C.calm) j_dict (jos_cons (C.ov (by decide +kernel)) jos_nil))) ja_nil)) jk_nil rfl rfl))
    (jss_cons (C.par (by decide +kernel) (by decide +kernel) (by decide) (je_at T.atts (C.ov (by decide +kernel))) (je_lst ja_nil) (by intro env he; simp only [swappedStores, Env.blockKind, Env.kindOf, he]; rfl))
    (jss_cons (js_if (jt_w (jw_and (C.neNT (jo_e (je_at T.atts (C.ov (by decide +kernel)))) (jo_e (je_lst ja_nil))) (jw_and1 (jt_e (je_at T.atts (jo_e (ix_ (jo_e (je_at T.atts (C.ov (by decide +kernel)))) (jo_e (neg_ je_int)) (by intro _ _; rfl)))))))) (jss_one (C.par (by decide +kernel) (by decide +kernel) (by decide) (slice_ (jo_e (je_at T.atts (C.ov (by decide +kernel)))) jp_none (jp_some (neg_ je_int))) (je_at T.atts (jo_e (ix_ (jo_e (je_at T.atts (C.ov (by decide +kernel)))) (jo_e (neg_ je_int)) (by intro _ _; rfl)))) (by intro env he; simp only [swappedStores, Env.blockKind, Env.kindOf, he]; rfl)))
    jss_nil)
    (jss_cons (js_stF T.atts (C.ov (by decide +kernel)) (je_lstL (jl_star (C.v (by decide +kernel)) (jl_of (ja_cons (clF C.toCs (cl_Segment_2 T) (by decide) (by decide +kernel) (ja_cons (je_lstL (jl_star (C.v (by decide +kernel)) (jl_of (ja_cons (C.v (by decide +kernel)) ja_nil)))) (ja_cons je_bl ja_nil)) jk_nil rfl rfl) ja_nil)))))
    (jss_cons (js_stF T.atts (C.ov (by decide +kernel)) (je_frz (je_ds (je_at T.atts (C.ov (by decide +kernel))) (C.v (by decide +kernel)) (C.v (by decide +kernel)))))
    (jss_one (js_ret (C.v (by decide +kernel)))))))))))))
theorem bd_sr_put {K : PySem.W.Frag} {fd : FuncData} (F : Fd K "put" "Index.put" (clsDef 2 (tp 43)) (fAdF K (pM "Index" "put")) fd .none) : Binds K fd ["self", "key", "document"] [] :=
  F.binds fun _ _ _ _ _ _ us hl => match us, hl with | [_, _, _], _ => by kernel_rfl
noncomputable def mt_put : String → String → Nat → Option MF := methT1 "Index" "put" 2 m_sr_put
theorem mr_put {tb : Nat → Addr} {P : Program} {w : World} {K : PySem.W.Frag} {mg : Str → Option Value} {base : Heap} (T : Txt tb P w K mg base) : MethR P w K mg base 5 mt_put := by
  obtain ⟨fd, F⟩ := T.f_sr_put
  exact methR_of T.mth_put (g_sr_put F T) (bd_sr_put F)
def sc__law_segment_put : Scope := { kind := .function, names := [("_law_box", .local), ("_law_key", .local)], isGenerator := false, isCoroutine := false, more := [] }
theorem scf__law_segment_put : FnScope ["_law_box", "_law_key"] ["_law_box", "_law_key"] sc__law_segment_put := ⟨rfl, rfl, rfl, by decide +kernel, rfl, by decide +kernel, by decide +kernel⟩
noncomputable def b__law_segment_put (δ : FL.Loc) (μ : Mem) : OutS := (mSeq (mIfS (mOr (mTb (m2 (gEqN false) (.e (m2 gGetD (.v 0) (.e (mD (.str (lit "pieces")))))) (.e (mLst [])))) (mNot (mTb (m2 gIxL (.e (m2 gIxL (.e (m2 gGetD (.v 0) (.e (mD (.str (lit "pieces")))))) (.e (mNeg (mD (.int 1)))))) (.e (mD (.int 1))))))) (mEx (mMut "list" gAppend (.e (m2 gGetD (.v 0) (.e (mD (.str (lit "pieces")))))) [(mTup [(mShare (mLst [])), (mD (.bl true))])]))
    mPass)
    (mSeq (mSetI gSetD (.v 0) (.e (mD (.str (lit "many")))) (m2 gAdd (.e (m2 gGetD (.v 0) (.e (mD (.str (lit "many")))))) (.e (mD (.int 1)))))
    (mSeq (mEx (mMut "list" gAppend (.e (m2 gIxL (.e (m2 gIxL (.e (m2 gGetD (.v 0) (.e (mD (.str (lit "pieces")))))) (.e (mNeg (mD (.int 1)))))) (.e (mD (.int 0))))) [(mTup [(mV 1), (m2 gGetD (.v 0) (.e (mD (.str (lit "many")))))])]))
    (mSetI gSetD (.e (m2 gGetD (.v 0) (.e (mD (.str (lit "live")))))) (.v 1) (m2 gGetD (.v 0) (.e (mD (.str (lit "many"))))))))) δ μ
noncomputable def m__law_segment_put : MF := mFn 2 (b__law_segment_put)
theorem g__law_segment_put {tb : Nat → Addr} {P : Program} {w : World} {K : PySem.W.Frag} {mg : Str → Option Value} {base : Heap} {f : Addr} {fd : FuncData} (F : Fd K "_law_segment_put" "_law_segment_put" (tp 49) f fd .none) (T : Txt tb P w K mg base) : FnG P w K mg base (L2.CX P w) (0 + 1) f fd ["_law_box", "_law_key"] (spM K mg (mFn 2 (b__law_segment_put)) 2) := by
  refine fnG_s (N := ["_law_box", "_law_key"]) (sc := sc__law_segment_put) F scf__law_segment_put (by kernel_rfl) rfl ?_
  intro X W hP hw hK hM hB C
  subst hP hw hK hM hB
  exact (jss_cons (js_if (jt_w (jw_or (C.eqNT (jo_e (C.toCs.getD (C.ov (by decide +kernel)) (jo_e je_str) (by intro _ _; rfl))) (jo_e (je_lst ja_nil))) (jw_or1 (jt_not (jt_e (ix_ (jo_e (ix_ (jo_e (C.toCs.getD (C.ov (by decide +kernel)) (jo_e je_str) (by intro _ _; rfl))) (jo_e (neg_ je_int)) (by intro _ _; rfl))) (jo_e je_int) (by intro _ _; rfl))))))) (jss_one (js_expr (append_ (jo_e (C.toCs.getD (C.ov (by decide +kernel)) (jo_e je_str) (by intro _ _; rfl))) (ja_cons (je_tup (ja_cons (je_share (je_lst ja_nil)) (ja_cons je_bl ja_nil))) ja_nil))))
    jss_nil)
    (jss_cons (C.setD (add_ (jo_e (C.toCs.getD (C.ov (by decide +kernel)) (jo_e je_str) (by intro _ _; rfl))) (jo_e je_int)) (C.ov (by decide +kernel)) (jo_e je_str))
    (jss_cons (js_expr (append_ (jo_e (ix_ (jo_e (ix_ (jo_e (C.toCs.getD (C.ov (by decide +kernel)) (jo_e je_str) (by intro _ _; rfl))) (jo_e (neg_ je_int)) (by intro _ _; rfl))) (jo_e je_int) (by intro _ _; rfl))) (ja_cons (je_tup (ja_cons (C.v (by decide +kernel)) (ja_cons (C.toCs.getD (C.ov (by decide +kernel)) (jo_e je_str) (by intro _ _; rfl)) ja_nil))) ja_nil)))
    (jss_one (C.setD (C.toCs.getD (C.ov (by decide +kernel)) (jo_e je_str) (by intro _ _; rfl)) (jo_e (C.toCs.getD (C.ov (by decide +kernel)) (jo_e je_str) (by intro _ _; rfl))) (C.ov (by decide +kernel)))))))
theorem bd__law_segment_put {K : PySem.W.Frag} {f : Addr} {fd : FuncData} (F : Fd K "_law_segment_put" "_law_segment_put" (tp 49) f fd .none) : Binds K fd ["_law_box", "_law_key"] [] :=
  F.binds fun _ _ _ _ _ _ us hl => match us, hl with | [_, _], _ => by kernel_rfl
theorem ok__law_segment_put {tb : Nat → Addr} {P : Program} {w : World} {K : PySem.W.Frag} {mg : Str → Option Value} {base : Heap} (T : Txt tb P w K mg base) : Fu P w K mg base 1 "_law_segment_put" m__law_segment_put 2 [] := by
  obtain ⟨f, fd, F, hm, hk⟩ := T.d__law_segment_put
  exact Fu.mk0 (g__law_segment_put F T) hm hk (bd__law_segment_put F)
def sc_View_size : Scope := { kind := .function, names := [("self", .local), ("len", .globalImplicit)], isGenerator := false, isCoroutine := false, more := [] }
theorem scf_View_size : FnScope ["self"] ["self"] sc_View_size := ⟨rfl, rfl, rfl, by decide +kernel, rfl, by decide +kernel, by decide +kernel⟩
noncomputable def b_View_size (δ : FL.Loc) (μ : Mem) : OutS := (mRet (mC gLenD [(.e (mAt at_ "kept" (.v 0)))])) δ μ
noncomputable def m_View_size : MF := mFn 1 b_View_size
theorem g_View_size {tb : Nat → Addr} {P : Program} {w : World} {K : PySem.W.Frag} {mg : Str → Option Value} {base : Heap} {fd : FuncData} (F : Fd K "size" "View.size" (clsDef 1 (tp 39)) (fAdF K (pM "View" "size")) fd .none) (T : Txt tb P w K mg base) : FnG P w K mg base (L2.CX P w) (0 + 1) (fAdF K (pM "View" "size")) fd ["self"] (spM K mg (mFn 1 b_View_size) 1) := by
  refine fnG_s (N := ["self"]) (sc := sc_View_size) F scf_View_size (by kernel_rfl) rfl ?_
  intro X W hP hw hK hM hB C
  subst hP hw hK hM hB
  exact (jss_one (js_ret (C.bi (by decide +kernel) T.n_len PySem.boot_len cr_lenD j_lenD (jos_cons (jo_e (je_at T.atts (C.ov (by decide +kernel)))) jos_nil))))
theorem bd_View_size {K : PySem.W.Frag} {fd : FuncData} (F : Fd K "size" "View.size" (clsDef 1 (tp 39)) (fAdF K (pM "View" "size")) fd .none) : Binds K fd ["self"] [] :=
  F.binds fun _ _ _ _ _ _ us hl => match us, hl with | [_], _ => by kernel_rfl
noncomputable def gm_size : String → String → Option MF := fun b f => if b = "View" ∧ f = "size" then some m_View_size else none
noncomputable def pt_size : String → String → Option MF := prpM prps gm_size
theorem pr_size {tb : Nat → Addr} {P : Program} {w : World} {K : PySem.W.Frag} {mg : Str → Option Value} {base : Heap} (T : Txt tb P w K mg base) : PropR P w K mg base 1 pt_size := propR_of T.prp fun b f m h => by
  unfold gm_size at h
  by_cases hc : b = "View" ∧ f = "size"
  · obtain ⟨rfl, rfl⟩ := hc
    rw [if_pos ⟨rfl, rfl⟩] at h
    cases h
    obtain ⟨fd, F⟩ := T.f_View_size
    exact ⟨fd, _, g_View_size F T, bd_View_size F⟩
  · rw [if_neg hc] at h
    cases h
def sc_live_entries : Scope := { kind := .function, names := [("segment", .local), ("kept", .cell)], isGenerator := false, isCoroutine := false, more := [("fast", .str "segment"), ("fast", .str "kept"), ("fast", .str "entry")] }
theorem scf_live_entries : FnScope ["segment", "kept", "entry"] ["segment", "kept"] sc_live_entries := ⟨rfl, rfl, rfl, by decide +kernel, rfl, by decide +kernel, by decide +kernel⟩
noncomputable def t1_live_entries (δ : FL.Loc) (μ : Mem) : Out Bool := (mTb (mEqI ["Entry"] (mGet1 (.v 1) (.e (mAt at_ "label" (.v 2)))) (mV 2))) δ μ
noncomputable def e2_live_entries (δ : FL.Loc) (μ : Mem) : Out FL.Slot := (mV 2) δ μ
noncomputable def b_live_entries (δ : FL.Loc) (μ : Mem) : OutS := (mRet (mLc (mIt (mAt at_ "added" (.v 0))) (tgV 2) t1_live_entries e2_live_entries [2])) δ μ
noncomputable def m_live_entries : MF := mFn 3 (b_live_entries)
theorem g_live_entries {tb : Nat → Addr} {P : Program} {w : World} {K : PySem.W.Frag} {mg : Str → Option Value} {base : Heap} {f : Addr} {fd : FuncData} (F : Fd K "live_entries" "live_entries" (tp 28) f fd .none) (T : Txt tb P w K mg base) : FnG P w K mg base (L2.CX P w) (0 + 1) f fd ["segment", "kept"] (spM K mg (mFn 3 (b_live_entries)) 2) := by
  refine fnG_s (N := ["segment", "kept", "entry"]) (sc := sc_live_entries) F scf_live_entries (by kernel_rfl) rfl ?_
  intro X W hP hw hK hM hB C
  subst hP hw hK hM hB
  exact (jss_one (js_ret (Cs.lc (Tx := Txt tb) C.toCs T [("entry", 2)] (ji_any (je_at T.atts (C.ov (by decide +kernel)))) (by decide +kernel) (fun Y T1 C1 => ⟨(C1.tg (by decide +kernel)), (jts_one (Cs.eqIT C1 T1.idc (C1.get1 (C1.ov (by decide +kernel)) (jo_e (je_at T1.atts (C1.ov (by decide +kernel))))) (C1.v (by decide +kernel)))), (C1.v (by decide +kernel))⟩) (by rfl))))
theorem bd_live_entries {K : PySem.W.Frag} {f : Addr} {fd : FuncData} (F : Fd K "live_entries" "live_entries" (tp 28) f fd .none) : Binds K fd ["segment", "kept"] [] :=
  F.binds fun _ _ _ _ _ _ us hl => match us, hl with | [_, _], _ => by kernel_rfl
theorem ok_live_entries {tb : Nat → Addr} {P : Program} {w : World} {K : PySem.W.Frag} {mg : Str → Option Value} {base : Heap} (T : Txt tb P w K mg base) : Fu P w K mg base 1 "live_entries" m_live_entries 2 [] := by
  obtain ⟨f, fd, F, hm, hk⟩ := T.d_live_entries
  exact Fu.mk0 (g_live_entries F T) hm hk (bd_live_entries F)
def sc_segment_row : Scope := { kind := .function, names := [("segment", .local), ("kept", .local), ("live", .local), ("len", .globalImplicit), ("live_entries", .globalImplicit)], isGenerator := false, isCoroutine := false, more := [] }
theorem scf_segment_row : FnScope ["segment", "kept", "live"] ["segment", "kept"] sc_segment_row := ⟨rfl, rfl, rfl, by decide +kernel, rfl, by decide +kernel, by decide +kernel⟩
noncomputable def b_segment_row (δ : FL.Loc) (μ : Mem) : OutS := (mSeq (mSet 2 (mC gLen [(.e (mCall m_live_entries [(mV 0), (mV 1)] []))]))
    (mRet (mTup [(mV 2), (m2 gSub (.e (mC gLen [(.e (mAt at_ "added" (.v 0)))])) (.v 2)), (mAt at_ "is_open" (.v 0))]))) δ μ
noncomputable def m_segment_row : MF := mFn 3 (b_segment_row)
theorem g_segment_row {tb : Nat → Addr} {P : Program} {w : World} {K : PySem.W.Frag} {mg : Str → Option Value} {base : Heap} {f : Addr} {fd : FuncData} (F : Fd K "segment_row" "segment_row" (tp 29) f fd .none) (T : Txt tb P w K mg base) : FnG P w K mg base (L2.CX P w) (1 + 1) f fd ["segment", "kept"] (spM K mg (mFn 3 (b_segment_row)) 2) := by
  refine fnG_s (N := ["segment", "kept", "live"]) (sc := sc_segment_row) F scf_segment_row (by kernel_rfl) rfl ?_
  intro X W hP hw hK hM hB C
  subst hP hw hK hM hB
  exact (jss_cons (C.set (by decide +kernel) (C.bi (by decide +kernel) T.n_len PySem.boot_len o_len j_len (jos_cons (jo_e (je_call C.toCs (ok_live_entries T) (by decide +kernel) (by decide +kernel) (ja_cons (C.v (by decide +kernel)) (ja_cons (C.v (by decide +kernel)) ja_nil)) rfl)) jos_nil)))
    (jss_one (js_ret (je_tup (ja_cons (C.v (by decide +kernel)) (ja_cons (sub_ (jo_e (C.bi (by decide +kernel) T.n_len PySem.boot_len o_len j_len (jos_cons (jo_e (je_at T.atts (C.ov (by decide +kernel)))) jos_nil))) (C.ov (by decide +kernel))) (ja_cons (je_at T.atts (C.ov (by decide +kernel))) ja_nil)))))))
theorem bd_segment_row {K : PySem.W.Frag} {f : Addr} {fd : FuncData} (F : Fd K "segment_row" "segment_row" (tp 29) f fd .none) : Binds K fd ["segment", "kept"] [] :=
  F.binds fun _ _ _ _ _ _ us hl => match us, hl with | [_, _], _ => by kernel_rfl
theorem ok_segment_row {tb : Nat → Addr} {P : Program} {w : World} {K : PySem.W.Frag} {mg : Str → Option Value} {base : Heap} (T : Txt tb P w K mg base) : Fu P w K mg base 2 "segment_row" m_segment_row 2 [] := by
  obtain ⟨f, fd, F, hm, hk⟩ := T.d_segment_row
  exact Fu.mk0 (g_segment_row F T) hm hk (bd_segment_row F)
def sc_Index_segments : Scope := { kind := .function, names := [("self", .cell), ("tuple", .globalImplicit)], isGenerator := false, isCoroutine := false, more := [("fast", .str "self"), ("fast", .str "piece")] }
theorem scf_Index_segments : FnScope ["self", "piece"] ["self"] sc_Index_segments := ⟨rfl, rfl, rfl, by decide +kernel, rfl, by decide +kernel, by decide +kernel⟩
noncomputable def e1_Index_segments (δ : FL.Loc) (μ : Mem) : Out FL.Slot := (mCall m_segment_row [(mV 1), (mAt at_ "kept" (.v 0))] []) δ μ
noncomputable def b_Index_segments (δ : FL.Loc) (μ : Mem) : OutS := (mRet (mC gTuple [(.e (mLc (mIt (mAt at_ "pieces" (.v 0))) (tgV 1) mYes e1_Index_segments [1]))])) δ μ
noncomputable def m_Index_segments : MF := mFn 2 b_Index_segments
theorem g_Index_segments {tb : Nat → Addr} {P : Program} {w : World} {K : PySem.W.Frag} {mg : Str → Option Value} {base : Heap} {fd : FuncData} (F : Fd K "segments" "Index.segments" (clsDef 1 (tp 43)) (fAdF K (pM "Index" "segments")) fd .none) (T : Txt tb P w K mg base) : FnG P w K mg base (L2.CX P w) (2 + 1) (fAdF K (pM "Index" "segments")) fd ["self"] (spM K mg (mFn 2 b_Index_segments) 1) := by
  refine fnG_s (N := ["self", "piece"]) (sc := sc_Index_segments) F scf_Index_segments (by kernel_rfl) rfl ?_
  intro X W hP hw hK hM hB C
  subst hP hw hK hM hB
  exact (jss_one (js_ret (C.bt (by decide +kernel) T.n_tuple (by decide +kernel) o_tuple j_tuple (jos_cons (jo_e (Cs.lc (Tx := Txt tb) C.toCs T [("piece", 1)] (ji_any (je_at T.atts (C.ov (by decide +kernel)))) (by decide +kernel) (fun Y T1 C1 => ⟨(C1.tg (by decide +kernel)), jts_nil, (je_call C1 (ok_segment_row T1) (by decide +kernel) (by decide +kernel) (ja_cons (C1.v (by decide +kernel)) (ja_cons (je_at T1.atts (C1.ov (by decide +kernel))) ja_nil)) rfl)⟩) (by rfl))) jos_nil))))
theorem bd_Index_segments {K : PySem.W.Frag} {fd : FuncData} (F : Fd K "segments" "Index.segments" (clsDef 1 (tp 43)) (fAdF K (pM "Index" "segments")) fd .none) : Binds K fd ["self"] [] :=
  F.binds fun _ _ _ _ _ _ us hl => match us, hl with | [_], _ => by kernel_rfl
noncomputable def gm_segments : String → String → Option MF := fun b f => if b = "Index" ∧ f = "segments" then some m_Index_segments else none
noncomputable def pt_segments : String → String → Option MF := prpM prps gm_segments
theorem pr_segments {tb : Nat → Addr} {P : Program} {w : World} {K : PySem.W.Frag} {mg : Str → Option Value} {base : Heap} (T : Txt tb P w K mg base) : PropR P w K mg base 3 pt_segments := propR_of T.prp fun b f m h => by
  unfold gm_segments at h
  by_cases hc : b = "Index" ∧ f = "segments"
  · obtain ⟨rfl, rfl⟩ := hc
    rw [if_pos ⟨rfl, rfl⟩] at h
    cases h
    obtain ⟨fd, F⟩ := T.f_Index_segments
    exact ⟨fd, _, g_Index_segments F T, bd_Index_segments F⟩
  · rw [if_neg hc] at h
    cases h
def sc__law_segmented : Scope := { kind := .function, names := [("_law_pieces", .local), ("_law_live", .cell), ("_law_found", .local), ("_law_rows", .local), ("_law_is_open", .local), ("_law_many", .local), ("len", .globalImplicit), ("tuple", .globalImplicit)], isGenerator := false, isCoroutine := false, more := [("fast", .str "_law_pieces"), ("fast", .str "_law_live"), ("fast", .str "_law_found"), ("fast", .str "_law_rows"), ("fast", .str "_law_is_open"), ("fast", .str "_law_key"), ("fast", .str "_law_number"), ("fast", .str "_law_many")] }
theorem scf__law_segmented : FnScope ["_law_pieces", "_law_live", "_law_found", "_law_rows", "_law_is_open", "_law_many", "_law_key", "_law_number"] ["_law_pieces", "_law_live"] sc__law_segmented := ⟨rfl, rfl, rfl, by decide +kernel, rfl, by decide +kernel, by decide +kernel⟩
noncomputable def t1__law_segmented (δ : FL.Loc) (μ : Mem) : Out Bool := (mTb (m2 (gEq false) (.e (mGet2 (.v 1) (.v 6) (.e (mNeg (mD (.int 1)))))) (.v 7))) δ μ
noncomputable def e2__law_segmented (δ : FL.Loc) (μ : Mem) : Out FL.Slot := (mD (.int 1)) δ μ
noncomputable def f3__law_segmented (δ : FL.Loc) (μ : Mem) : OutS := (mSeq (mSet 5 (mC gLen [(.e (mLcM (mItM (mV 3)) (tgT 2 (tgC (tgV 6) (tgC (tgV 7) tgN))) t1__law_segmented e2__law_segmented [6, 7]))]))
    (mEx (mMut "list" gAppend (.v 2) [(mTup [(mV 5), (m2 gSub (.e (mC gLen [(.v 3)])) (.v 5)), (mV 4)])]))) δ μ
noncomputable def b__law_segmented (δ : FL.Loc) (μ : Mem) : OutS := (mSeq (mSet 2 (mLst []))
    (mSeq (mForM (mItM (mV 0)) (tgT 2 (tgC (tgV 3) (tgC (tgV 4) tgN))) f3__law_segmented)
    (mRet (mC gTuple [(.v 2)])))) δ μ
noncomputable def m__law_segmented : MF := mFn 8 (b__law_segmented)
theorem g__law_segmented {tb : Nat → Addr} {P : Program} {w : World} {K : PySem.W.Frag} {mg : Str → Option Value} {base : Heap} {f : Addr} {fd : FuncData} (F : Fd K "_law_segmented" "_law_segmented" (tp 48) f fd .none) (T : Txt tb P w K mg base) : FnG P w K mg base (L2.CX P w) (0 + 1) f fd ["_law_pieces", "_law_live"] (spM K mg (mFn 8 (b__law_segmented)) 2) := by
  refine fnG_s (N := ["_law_pieces", "_law_live", "_law_found", "_law_rows", "_law_is_open", "_law_many", "_law_key", "_law_number"]) (sc := sc__law_segmented) F scf__law_segmented (by kernel_rfl) rfl ?_
  intro X W hP hw hK hM hB C
  subst hP hw hK hM hB
  exact (jss_cons (C.set (by decide +kernel) (je_lst ja_nil))
    (jss_cons (js_forM C.hp C.calm (ji_m (C.v (by decide +kernel))) (jg_t C.calm (jgs_cons (C.tg (by decide +kernel)) (jgs_cons (C.tg (by decide +kernel)) jgs_nil))) (jss_cons (C.set (by decide +kernel) (C.bi (by decide +kernel) T.n_len PySem.boot_len o_len j_len (jos_cons (jo_e (Cs.lcM (Tx := Txt tb) C.toCs T [("_law_key", 6), ("_law_number", 7)] (ji_m (C.v (by decide +kernel))) (by decide +kernel) (fun Y T1 C1 => ⟨(jg_t C1.calm (jgs_cons (C1.tg (by decide +kernel)) (jgs_cons (C1.tg (by decide +kernel)) jgs_nil))), (jts_one (C1.eqT (jo_e (C1.get2 (C1.ov (by decide +kernel)) (C1.ov (by decide +kernel)) (jo_e (neg_ je_int)))) (C1.ov (by decide +kernel)))), je_int⟩) (by rfl))) jos_nil)))
    (jss_one (js_expr (append_ (C.ov (by decide +kernel)) (ja_cons (je_tup (ja_cons (C.v (by decide +kernel)) (ja_cons (sub_ (jo_e (C.bi (by decide +kernel) T.n_len PySem.boot_len o_len j_len (jos_cons (C.ov (by decide +kernel)) jos_nil))) (C.ov (by decide +kernel))) (ja_cons (C.v (by decide +kernel)) ja_nil)))) ja_nil))))) (by intro _; rfl) itM_len)
    (jss_one (js_ret (C.bt (by decide +kernel) T.n_tuple (by decide +kernel) o_tuple j_tuple (jos_cons (C.ov (by decide +kernel)) jos_nil))))))
theorem bd__law_segmented {K : PySem.W.Frag} {f : Addr} {fd : FuncData} (F : Fd K "_law_segmented" "_law_segmented" (tp 48) f fd .none) : Binds K fd ["_law_pieces", "_law_live"] [] :=
  F.binds fun _ _ _ _ _ _ us hl => match us, hl with | [_, _], _ => by kernel_rfl
theorem ok__law_segmented {tb : Nat → Addr} {P : Program} {w : World} {K : PySem.W.Frag} {mg : Str → Option Value} {base : Heap} (T : Txt tb P w K mg base) : Fu P w K mg base 1 "_law_segmented" m__law_segmented 2 [] := by
  obtain ⟨f, fd, F, hm, hk⟩ := T.d__law_segmented
  exact Fu.mk0 (g__law_segmented F T) hm hk (bd__law_segmented F)
def sc_law : Scope := { kind := .function, names := [("_law_script", .local), ("_law_k", .local), ("_law_drawer_here", .local), ("_law_index", .local), ("_law_box", .local), ("_law_turn", .local), ("_law_key", .local), ("_law_way", .local), ("_law_told", .local), ("range", .globalImplicit), ("max", .globalImplicit), ("min", .globalImplicit), ("len", .globalImplicit), ("_law_drawer", .globalImplicit), ("Index", .globalImplicit), ("_law_drawn_of", .globalImplicit), ("_law_drawn", .globalImplicit), ("_law_segment_flush", .globalImplicit), ("_law_segment_put", .globalImplicit), ("_law_segmented", .globalImplicit)], isGenerator := false, isCoroutine := false, more := [] }
theorem scf_law : FnScope ["_law_script", "_law_k", "_law_drawer_here", "_law_index", "_law_box", "_law_turn", "_law_key", "_law_way", "_law_told"] ["_law_script"] sc_law := ⟨rfl, rfl, rfl, by decide +kernel, rfl, by decide +kernel, by decide +kernel⟩
noncomputable def f1_law (δ : FL.Loc) (μ : Mem) : OutS := (mSeq (mPar 6 7 (mCall m__law_drawn_of [(mV 2), (mD (.str (lit "klmo")))] []) (mCall m__law_drawn [(mV 2), (mD (.int 6))] []))
    (mSeq (mIfS (mTb (m2 (gEq false) (.v 7) (.e (mD (.int 0))))) (mSeq (mIfS (mTb (m2 (gIsN true) (.e (mMeth mt_flush "flush" (.v 3) [])) (.e (mD .non)))) (mRet (mD (.bl false)))
    mPass)
    (mEx (mCall m__law_segment_flush [(mV 4)] [])))
    (mIfS (mAnd (mTb (m2 (gEq false) (.v 7) (.e (mD (.int 1))))) (mTb (m2 (gInD false) (.v 6) (.e (m2 gGetD (.v 4) (.e (mD (.str (lit "live"))))))))) (mSeq (mEx (mMeth mt_delete "delete" (.v 3) [(mV 6)]))
    (mEx (mPopD (.e (m2 gGetD (.v 4) (.e (mD (.str (lit "live")))))) (mV 6))))
    (mSeq (mEx (mMeth mt_put "put" (.v 3) [(mV 6), (m2 gIxL (.e (mLst [(mFrz mDct0), (mFrz (mDisp [(.s (lit "t"), (mD (.str (lit "a"))))])), (mFrz (mDisp [(.s (lit "n"), (mD (.int 1)))]))])) (.e (mCall m__law_drawn [(mV 2), (mD (.int 3))] [])))]))
    (mEx (mCall m__law_segment_put [(mV 4), (mV 6)] [])))))
    (mIfS (mOr (mTb (m2 (gEq true) (.e (mProp pt_segments "segments" (.v 3))) (.e (mCall m__law_segmented [(m2 gGetD (.v 4) (.e (mD (.str (lit "pieces"))))), (m2 gGetD (.v 4) (.e (mD (.str (lit "live")))))] [])))) (mTb (m2 (gEq true) (.e (mProp pt_size "size" (.v 3))) (.e (mC gLenD [(.e (m2 gGetD (.v 4) (.e (mD (.str (lit "live"))))))]))))) (mRet (mD (.bl false)))
    mPass))) δ μ
noncomputable def f2_law (δ : FL.Loc) (μ : Mem) : OutS := (mSeq (mPar 2 3 (mCall m__law_drawer [(mV 0), (mV 1)] []) (mCallK (mkS "Index" m_iIndex) [.pos 0] [(mRcT [(mTup [(mD (.str (lit "t"))), (mD (.str (lit "text")))]), (mTup [(mD (.str (lit "n"))), (mD (.str (lit "number")))])])] [] []))
    (mSeq (mSet 4 (mShare (mDisp [(.s (lit "pieces"), (mShare (mLst []))), (.s (lit "live"), (mShare mDct0)), (.s (lit "many"), (mD (.int 0)))])))
    (mFor (mRange1 (.e (mD (.int 14)))) (tgV 5) f1_law))) δ μ
noncomputable def b_law (δ : FL.Loc) (μ : Mem) : OutS := (mSeq (mFor (mRange1 (.e (mC gMax2 [(.e (mD (.int 1))), (.e (mC gMin2 [(.e (mD (.int 3))), (.e (mC gLen [(.v 0)]))]))]))) (tgV 1) f2_law)
    (mSeq (mSet 3 (mCallK (mkS "Index" m_iIndex) [.pos 0] [(mRcT [(mTup [(mD (.str (lit "t"))), (mD (.str (lit "text")))])])] [] []))
    (mSeq (mEx (mMeth mt_flush "flush" (.v 3) []))
    (mSeq (mIfS (mTb (m2 (gEq true) (.e (mProp pt_segments "segments" (.v 3))) (.e (mTup [])))) (mRet (mD (.bl false)))
    mPass)
    (mSeq (mSet 8 (mLst [(mMeth mt_put "put" (.v 3) [(mD (.str (lit "k"))), (mFrz mDct0)]), (mMeth mt_put "put" (.v 3) [(mD (.str (lit "k"))), (mFrz mDct0)]), (mMeth mt_flush "flush" (.v 3) []), (mMeth mt_delete "delete" (.v 3) [(mD (.str (lit "k")))]), (mMeth mt_flush "flush" (.v 3) []), (mProp pt_segments "segments" (.v 3))]))
    (mRet (mAndV (m2 (gEq false) (.v 8) (.e (mLst [(mD (.bl false)), (mD (.bl true)), (mD .non), (mD .non), (mD .non), (mTup [(mTup [(mD (.int 0)), (mD (.int 2)), (mD (.bl false))])])]))) (m2 (gEq false) (.e (mProp pt_size "size" (.v 3))) (.e (mD (.int 0))))))))))) δ μ
noncomputable def m_law : MF := mFn 9 (b_law)
theorem g_law {tb : Nat → Addr} {P : Program} {w : World} {K : PySem.W.Frag} {mg : Str → Option Value} {base : Heap} {f : Addr} {fd : FuncData} (F : Fd K "law" "law" (tp 51) f fd .none) (T : Txt tb P w K mg base) : FnG P w K mg base (L2.CX P w) (6 + 1) f fd ["_law_script"] (spM K mg (mFn 9 (b_law)) 1) := by
  refine fnG_s (N := ["_law_script", "_law_k", "_law_drawer_here", "_law_index", "_law_box", "_law_turn", "_law_key", "_law_way", "_law_told"]) (sc := sc_law) F scf_law (by kernel_rfl) rfl ?_
  intro X W hP hw hK hM hB C
  subst hP hw hK hM hB
  exact (jss_cons (js_for C.hp C.calm (range1_ C.toCs (by decide +kernel) T.n_range (jos_cons (jo_e (C.bi (by decide +kernel) T.n_max (by decide +kernel) (call_max2 C.calm) j_max2 (jos_cons (jo_e je_int) (jos_cons (jo_e (C.bi (by decide +kernel) T.n_min (by decide +kernel) (call_min2 C.calm) j_min2 (jos_cons (jo_e je_int) (jos_cons (jo_e (C.bi (by decide +kernel) T.n_len PySem.boot_len o_len j_len (jos_cons (C.ov (by decide +kernel)) jos_nil))) jos_nil)))) jos_nil)))) jos_nil)) (C.tg (by decide +kernel)) (jss_cons (C.par (by decide +kernel) (by decide +kernel) (by decide) (je_call C.toCs (ok__law_drawer T) (by decide +kernel) (by decide +kernel) (ja_cons (C.v (by decide +kernel)) (ja_cons (C.v (by decide +kernel)) ja_nil)) rfl) (clS C.toCs (cl_Index_1 T) (by decide) (by decide +kernel) (ja_cons (je_rcT (ja_cons (je_tup (ja_cons je_str (ja_cons je_str ja_nil))) (ja_cons (je_tup (ja_cons je_str (ja_cons je_str ja_nil))) ja_nil))) ja_nil) jk_nil rfl rfl) (by intro env he; simp only [swappedStores, Env.blockKind, Env.kindOf, he]; rfl))
    (jss_cons (C.set (by decide +kernel) (je_share (je_disp (jps_s (je_share (je_lst ja_nil)) (jps_s (je_share je_dict0) (jps_s je_int JPs.nil))) (by simp) (by decide))))
    (jss_one (js_for C.hp C.calm (range1_ C.toCs (by decide +kernel) T.n_range (jos_cons (jo_e je_int) jos_nil)) (C.tg (by decide +kernel)) (jss_cons (C.par (by decide +kernel) (by decide +kernel) (by decide) (je_call C.toCs (ok__law_drawn_of T) (by decide +kernel) (by decide +kernel) (ja_cons (C.v (by decide +kernel)) (ja_cons je_str ja_nil)) rfl) (je_call C.toCs (ok__law_drawn T) (by decide +kernel) (by decide +kernel) (ja_cons (C.v (by decide +kernel)) (ja_cons je_int ja_nil)) rfl) (by intro env he; simp only [swappedStores, Env.blockKind, Env.kindOf, he]; rfl))
    (jss_cons (js_if (C.eqT (C.ov (by decide +kernel)) (jo_e je_int)) (jss_cons (js_if (notNT (jo_e (Cs.meth0 C.toCs (MethR.ok (mr_flush T)) (by decide) (C.ov (by decide +kernel)))) (jo_e je_non)) (jss_one (js_ret je_bl))
    jss_nil)
    (jss_one (js_expr (je_call C.toCs (ok__law_segment_flush T) (by decide +kernel) (by decide +kernel) (ja_cons (C.v (by decide +kernel)) ja_nil) rfl))))
    (jss_one (js_if (jt_w (jw_and (C.eqT (C.ov (by decide +kernel)) (jo_e je_int)) (jw_and1 (C.toCs.inDT (C.ov (by decide +kernel)) (jo_e (C.toCs.getD (C.ov (by decide +kernel)) (jo_e je_str) (by intro _ _; rfl))))))) (jss_cons (js_expr (Cs.meth C.toCs (MethR.ok (mr_delete T)) (by decide) (C.ov (by decide +kernel)) (ja_cons (C.v (by decide +kernel)) ja_nil)))
    (jss_one (js_expr (popD_ (jo_e (C.toCs.getD (C.ov (by decide +kernel)) (jo_e je_str) (by intro _ _; rfl))) (C.v (by decide +kernel))))))
    (jss_cons (js_expr (Cs.meth C.toCs (MethR.ok (mr_put T)) (by decide) (C.ov (by decide +kernel)) (ja_cons (C.v (by decide +kernel)) (ja_cons (ix_ (jo_e (je_lst (ja_cons (je_frz je_dict0) (ja_cons (je_frz (je_disp (jps_s je_str JPs.nil) (by simp) (by decide))) (ja_cons (je_frz (je_disp (jps_s je_int JPs.nil) (by simp) (by decide))) ja_nil))))) (jo_e (je_call C.toCs (ok__law_drawn T) (by decide +kernel) (by decide +kernel) (ja_cons (C.v (by decide +kernel)) (ja_cons je_int ja_nil)) rfl)) (by intro _ _; rfl)) ja_nil))))
    (jss_one (js_expr (je_call C.toCs (ok__law_segment_put T) (by decide +kernel) (by decide +kernel) (ja_cons (C.v (by decide +kernel)) (ja_cons (C.v (by decide +kernel)) ja_nil)) rfl)))))))
    (jss_one (js_if (jt_w (jw_or (C.neT (jo_e (C.toCs.prop (PropR.ok (pr_segments T)) (by decide) (C.ov (by decide +kernel)))) (jo_e (je_call C.toCs (ok__law_segmented T) (by decide +kernel) (by decide +kernel) (ja_cons (C.toCs.getD (C.ov (by decide +kernel)) (jo_e je_str) (by intro _ _; rfl)) (ja_cons (C.toCs.getD (C.ov (by decide +kernel)) (jo_e je_str) (by intro _ _; rfl)) ja_nil)) rfl))) (jw_or1 (C.neT (jo_e (C.toCs.prop (PropR.ok (pr_size T)) (by decide) (C.ov (by decide +kernel)))) (jo_e (C.bi (by decide +kernel) T.n_len PySem.boot_len cr_lenD j_lenD (jos_cons (jo_e (C.toCs.getD (C.ov (by decide +kernel)) (jo_e je_str) (by intro _ _; rfl))) jos_nil))))))) (jss_one (js_ret je_bl))
    jss_nil)))))))))
    (jss_cons (C.set (by decide +kernel) (clS C.toCs (cl_Index_1 T) (by decide) (by decide +kernel) (ja_cons (je_rcT (ja_cons (je_tup (ja_cons je_str (ja_cons je_str ja_nil))) ja_nil)) ja_nil) jk_nil rfl rfl))
    (jss_cons (js_expr (Cs.meth0 C.toCs (MethR.ok (mr_flush T)) (by decide) (C.ov (by decide +kernel))))
    (jss_cons (js_if (C.neT (jo_e (C.toCs.prop (PropR.ok (pr_segments T)) (by decide) (C.ov (by decide +kernel)))) (jo_e (je_tup ja_nil))) (jss_one (js_ret je_bl))
    jss_nil)
    (jss_cons (C.set (by decide +kernel) (je_lst (ja_cons (Cs.meth C.toCs (MethR.ok (mr_put T)) (by decide) (C.ov (by decide +kernel)) (ja_cons je_str (ja_cons (je_frz je_dict0) ja_nil))) (ja_cons (Cs.meth C.toCs (MethR.ok (mr_put T)) (by decide) (C.ov (by decide +kernel)) (ja_cons je_str (ja_cons (je_frz je_dict0) ja_nil))) (ja_cons (Cs.meth0 C.toCs (MethR.ok (mr_flush T)) (by decide) (C.ov (by decide +kernel))) (ja_cons (Cs.meth C.toCs (MethR.ok (mr_delete T)) (by decide) (C.ov (by decide +kernel)) (ja_cons je_str ja_nil)) (ja_cons (Cs.meth0 C.toCs (MethR.ok (mr_flush T)) (by decide) (C.ov (by decide +kernel))) (ja_cons (C.toCs.prop (PropR.ok (pr_segments T)) (by decide) (C.ov (by decide +kernel))) ja_nil))))))))
    (jss_one (js_ret (je_and (C.eq (C.ov (by decide +kernel)) (jo_e (je_lst (ja_cons je_bl (ja_cons je_bl (ja_cons je_non (ja_cons je_non (ja_cons je_non (ja_cons (je_tup (ja_cons (je_tup (ja_cons je_int (ja_cons je_int (ja_cons je_bl ja_nil)))) ja_nil)) ja_nil))))))))) (je_one (C.eq (jo_e (C.toCs.prop (PropR.ok (pr_size T)) (by decide) (C.ov (by decide +kernel)))) (jo_e je_int)))))))))))
def qs_BadDocument : Nat → Pos := fun i => match i with
  | 0 => ⟨20, 8, 20, 13⟩
  | 1 => ⟨20, 8, 20, 15⟩
  | 2 => ⟨20, 8, 20, 24⟩
  | 3 => ⟨20, 25, 20, 31⟩
  | 4 => ⟨20, 8, 20, 32⟩
  | 5 => ⟨20, 8, 20, 32⟩
  | 6 => ⟨21, 8, 21, 12⟩
  | 7 => ⟨21, 8, 21, 19⟩
  | 8 => ⟨21, 22, 21, 28⟩
  | 9 => ⟨21, 8, 21, 28⟩
  | _ => ⟨0, 0, 0, 0⟩
def ss_BadDocument : Scope := { kind := .function, names := [("self", .local), ("reason", .local), ("__class__", .free), ("super", .globalImplicit)], isGenerator := false, isCoroutine := false, more := [] }
theorem sup_BadDocument : SupS PySem.Challenge.pw_findlang_k35_segments (clsDef 0 (tp 5)) "self" "reason" "reason" qs_BadDocument ss_BadDocument := ⟨by kernel_rfl, by kernel_rfl, ⟨_, rfl, rfl⟩, by kernel_rfl, fun _ _ _ _ => ⟨_, fun _ => rfl⟩, fun _ _ _ _ _ => rfl, fun _ _ _ _ _ => rfl, rfl, rfl, rfl, by decide +kernel, by decide +kernel, by decide +kernel, by decide +kernel, by decide +kernel, by decide +kernel, ⟨by decide +kernel, by decide +kernel⟩, ⟨by decide +kernel, by decide +kernel⟩⟩
def qs_BadKey : Nat → Pos := fun i => match i with
  | 0 => ⟨10, 8, 10, 13⟩
  | 1 => ⟨10, 8, 10, 15⟩
  | 2 => ⟨10, 8, 10, 24⟩
  | 3 => ⟨10, 25, 10, 31⟩
  | 4 => ⟨10, 8, 10, 32⟩
  | 5 => ⟨10, 8, 10, 32⟩
  | 6 => ⟨11, 8, 11, 12⟩
  | 7 => ⟨11, 8, 11, 19⟩
  | 8 => ⟨11, 22, 11, 28⟩
  | 9 => ⟨11, 8, 11, 28⟩
  | _ => ⟨0, 0, 0, 0⟩
def ss_BadKey : Scope := { kind := .function, names := [("self", .local), ("reason", .local), ("__class__", .free), ("super", .globalImplicit)], isGenerator := false, isCoroutine := false, more := [] }
theorem sup_BadKey : SupS PySem.Challenge.pw_findlang_k35_segments (clsDef 0 (tp 3)) "self" "reason" "reason" qs_BadKey ss_BadKey := ⟨by kernel_rfl, by kernel_rfl, ⟨_, rfl, rfl⟩, by kernel_rfl, fun _ _ _ _ => ⟨_, fun _ => rfl⟩, fun _ _ _ _ _ => rfl, fun _ _ _ _ _ => rfl, rfl, rfl, rfl, by decide +kernel, by decide +kernel, by decide +kernel, by decide +kernel, by decide +kernel, by decide +kernel, ⟨by decide +kernel, by decide +kernel⟩, ⟨by decide +kernel, by decide +kernel⟩⟩
def qs_BadSchema : Nat → Pos := fun i => match i with
  | 0 => ⟨15, 8, 15, 13⟩
  | 1 => ⟨15, 8, 15, 15⟩
  | 2 => ⟨15, 8, 15, 24⟩
  | 3 => ⟨15, 25, 15, 31⟩
  | 4 => ⟨15, 8, 15, 32⟩
  | 5 => ⟨15, 8, 15, 32⟩
  | 6 => ⟨16, 8, 16, 12⟩
  | 7 => ⟨16, 8, 16, 19⟩
  | 8 => ⟨16, 22, 16, 28⟩
  | 9 => ⟨16, 8, 16, 28⟩
  | _ => ⟨0, 0, 0, 0⟩
def ss_BadSchema : Scope := { kind := .function, names := [("self", .local), ("reason", .local), ("__class__", .free), ("super", .globalImplicit)], isGenerator := false, isCoroutine := false, more := [] }
theorem sup_BadSchema : SupS PySem.Challenge.pw_findlang_k35_segments (clsDef 0 (tp 4)) "self" "reason" "reason" qs_BadSchema ss_BadSchema := ⟨by kernel_rfl, by kernel_rfl, ⟨_, rfl, rfl⟩, by kernel_rfl, fun _ _ _ _ => ⟨_, fun _ => rfl⟩, fun _ _ _ _ _ => rfl, fun _ _ _ _ _ => rfl, rfl, rfl, rfl, by decide +kernel, by decide +kernel, by decide +kernel, by decide +kernel, by decide +kernel, by decide +kernel, ⟨by decide +kernel, by decide +kernel⟩, ⟨by decide +kernel, by decide +kernel⟩⟩
end L35
namespace FL
open PySem L2
section
variable {α β : Type} {δ : FL.Loc} {μ : Mem} {o : Opn} {os : List Opn} {m : ME} {ms mks : List ME} {f c : String} {at_ : String → String → Att} {d : D} {ds vs dds : List D} {k : Nat} {ks : List String}
@[simp] theorem ec_sf1 : (OR.d d).self δ = some d := rfl
@[simp] theorem ec_sf2 {j : Nat} : (OR.i j).self δ = (match δ[j]? with | some (some (.fr x)) => some x | _ => none) := rfl
@[simp] theorem ec_in1 : insOf μ (.ins c ks vs) = some (c, ks, vs) := rfl
@[simp] theorem ec_in2 : insOf μ (.obj k) = (match μ[k]? with | some (.ins c _ ks vs) => some (c, ks, vs) | _ => none) := rfl
@[simp] theorem ec_in3 {i : Int} : insOf μ (.int i) = none := rfl
@[simp] theorem ec_in4 {x : Tx} : insOf μ (.str x) = none := rfl
@[simp] theorem ec_in5 {b : Bool} : insOf μ (.bl b) = none := rfl
@[simp] theorem ec_in6 : insOf μ .non = none := rfl
@[simp] theorem ec_in7 {xs : List D} : insOf μ (.lst xs) = none := rfl
@[simp] theorem ec_in8 {xs : List D} : insOf μ (.tup xs) = none := rfl
@[simp] theorem ec_infx {b : FxM} {ks : List DK} {xs : List D} : insOf μ (.fx b ks xs) = none := rfl
@[simp] theorem ec_in9 {xs : List DK} : insOf μ (.dct xs ds) = none := rfl
@[simp] theorem ec_g0 : getF [] ds f = none := by cases ds <;> rfl
@[simp] theorem ec_g1 {q : String} : getF (q :: ks) (d :: ds) f = if q = f then some d else getF ks ds f := rfl
@[simp] theorem ec_pk0 : putNm [] f = [f] := rfl
@[simp] theorem ec_pk1 {q : String} : putNm (q :: ks) f = if q = f then q :: ks else q :: putNm ks f := rfl
@[simp] theorem ec_pv0 : putVs [] ds f d = [d] := by cases ds <;> rfl
@[simp] theorem ec_pv1 {q : String} {e : D} : putVs (q :: ks) (d :: ds) f e = if q = f then e :: ds else d :: putVs ks ds f e := rfl
@[simp] theorem ec_if1 : Att.fld.isF = true := rfl
@[simp] theorem ec_if2 : (Att.con d).isF = false := rfl
@[simp] theorem ec_At : mAt at_ f o δ μ = (o.ev δ μ).bind fun r δ1 μ1 => match (r.self δ1).bind (insOf μ1) with
  | some (c, ks, ds) => (match at_ c f with
    | .fld => lift ((getF ks ds f).map .fr) δ1 μ1
    | .con d => if getF ks ds f = none then .ok (.fr d) δ1 μ1 else .bad
    | .no => .bad)
  | none => .bad := rfl
@[simp] theorem ec_StF : mStF at_ f o m δ μ = (m δ μ).thn fun s δ1 μ1 => (o.ev δ1 μ1).thn fun r δ2 μ2 => match r.self δ2 with
  | some (.obj k) => (match μ2[k]? with
    | some (.ins c kd ks vs) => if (at_ c f).isF = true ∧ ks.length < 1000 then .nx δ2 (μ2.set k (.ins c kd (putNm ks f) (putVs ks vs f s.d))) else .bad
    | _ => .bad)
  | _ => .bad := rfl
@[simp] theorem ec_Super {mi : MF} : mSuper c mi ms δ μ = (match δ[0]? with
  | some (some (FL.Slot.fr d)) => (match insOf μ d with
    | some (c', _, _) => if c' = c then (evA ms δ μ).thn fun ds δ1 μ1 => (match mi (d :: ds) μ1 with
      | .ok _ μ2 => .nx δ1 μ2
      | .exc x μ2 => .exc x δ1 μ2
      | .bad => .bad) else .bad
    | none => .bad)
  | _ => .bad) := rfl
@[simp] theorem ec_CallK {mf : MF} {sel : List Sel} : mCallK mf sel ms mks dds δ μ = (evA ms δ μ).bind fun ds δ1 μ1 => (evA mks δ1 μ1).bind fun zs δ2 μ2 => match mf (pickS sel ds dds zs) μ2 with
  | .ok s μ3 => .ok s δ2 μ3
  | .exc x μ3 => .exc x δ2 μ3
  | .bad => .bad := rfl
@[simp] theorem ec_Prop {pt : String → String → Option MF} : mProp pt f o δ μ = (o.ev δ μ).bind fun r δ1 μ1 => match r.self δ1 with
  | some d => (match insOf μ1 d with
    | some (c, _, _) => (match pt c f with
      | some m => (match m [d] μ1 with
        | .ok s μ2 => .ok s δ1 μ2
        | _ => .bad)
      | none => .bad)
    | none => .bad)
  | none => .bad := rfl
theorem keeps_app {xs : List Own} : Keeps μ (μ ++ xs) := fun j u e => by
  rw [List.getElem?_append_left (List.getElem?_eq_some_iff.mp e).1]
  exact e
abbrev newM (μ : Mem) (c : String) (ks : List String) (vs : List D) : Mem := μ ++ [.ins c (μ.length + 1) ks vs, .idc μ.length]
theorem mkF_ok {mi : MF} {ks : List String} {vs : List D} (h : mi (.obj μ.length :: ds) (newM μ c [] []) = .ok (.fr .non) (newM μ c ks vs)) (hb : D.lowbs μ.length vs = true) : mkF c mi ds μ = .ok (.fr (.ins c ks vs)) μ := by
  rw [mkF_eq]
  unfold mkF0
  rw [h]
  unfold lockI
  simp only [ec_end0, ec_end1]
  rw [if_pos ⟨⟨rfl, rfl, rfl⟩, keeps_app, hb⟩]
end
section
variable {k : Nat}
@[simp] theorem lb_non : D.lowb k .non = true := by simp [D.lowb]
@[simp] theorem lb_bl {b : Bool} : D.lowb k (.bl b) = true := by simp [D.lowb]
@[simp] theorem lb_int {i : Int} : D.lowb k (.int i) = true := by simp [D.lowb]
@[simp] theorem lb_str {x : Tx} : D.lowb k (.str x) = true := by simp [D.lowb]
@[simp] theorem lb_tup {xs : List D} : D.lowb k (.tup xs) = D.lowbs k xs := by simp [D.lowb]
@[simp] theorem lb_lst {xs : List D} : D.lowb k (.lst xs) = D.lowbs k xs := by simp [D.lowb]
@[simp] theorem lb_fx {b : FxM} {q : List DK} {xs : List D} : D.lowb k (.fx b q xs) = D.lowbs k xs := by simp [D.lowb]
@[simp] theorem lb_dct {q : List DK} {xs : List D} : D.lowb k (.dct q xs) = D.lowbs k xs := by simp [D.lowb]
@[simp] theorem lb_ins {c : String} {q : List String} {xs : List D} : D.lowb k (.ins c q xs) = D.lowbs k xs := by simp [D.lowb]
@[simp] theorem lb_nil : D.lowbs k [] = true := by simp [D.lowbs]
@[simp] theorem lb_cons {d : D} {ds : List D} : D.lowbs k (d :: ds) = (D.lowb k d && D.lowbs k ds) := by simp [D.lowbs]
end
end FL
namespace FL.S
noncomputable def b_is_integer (δ : FL.Loc) (μ : Mem) : OutS := (mSeq (mIfS (mOr (mNot (mTb (mC gIsi [(.v 0), (.e (mD (.ty "int")))]))) (mTb (mC gIsi [(.v 0), (.e (mD (.ty "bool")))]))) (mRet (mD (.bl false)))
    mPass)
    (mRet (mAndV (mOrV (m2 (gIsN false) (.v 1) (.e (mD .non))) (m2 gLe (.v 1) (.v 0))) (mOrV (m2 (gIsN false) (.v 2) (.e (mD .non))) (m2 gLe (.v 0) (.v 2)))))) δ μ
noncomputable def m_is_integer : MF := mFn 3 (b_is_integer)
noncomputable def b_is_field_name (δ : FL.Loc) (μ : Mem) : OutS := (mRet (mCall m_is_made_of [(mV 0), (mD (.str (lit "abcdefghijklmnopqrstuvwxyz"))), (mD (.int 12))] [])) δ μ
noncomputable def m_is_field_name : MF := mFn 1 (b_is_field_name)
end FL.S
namespace FL
open PySem L2
section
variable {μ : Mem}
structure QAt (at_ : String → String → Att) (c kind : String) : Prop where
  p : at_ c "own_parts" = .fld
  s : at_ c "own_size" = .fld
  l : at_ c "own_levels" = .fld
  k : at_ c "own_key" = .fld
  f : at_ c "own_fields" = .fld
  t : at_ c "own_text" = .fld
  kd : at_ c "KIND" = .con (.str (lit kind))
def dF (at_ : String → String → Att) (f : String) : D → Option D
  | .ins c ks vs => (match at_ c f with
    | .fld => getF ks vs f
    | _ => none)
  | _ => none
end
end FL
namespace FL
open PySem L2
section
variable {d n : Nat}
theorem Sh.shaped {x : D} (h : Sh d n x) (hd : d ≤ 64) : ∃ q, D.py x = some q ∧ SeqAt.shaped q = true := by
  obtain ⟨q, a, b, c, l, g, k⟩ := h
  refine ⟨q, a, ?_⟩
  unfold SeqAt.shaped
  rw [l, decide_eq_true (show q.depth ≤ 64 by omega)]
  rfl
end
end FL
namespace FL
open PySem L2
def Fw (j : Nat) (μ μ' : Mem) : Prop := μ.length ≤ μ'.length ∧ ∀ k : Nat, k < μ.length → k ≠ j → μ'[k]? = μ[k]?
theorem Fr.w {j : Nat} {μ μ' : Mem} (h : Fr j μ μ') : Fw j μ μ' := ⟨Nat.le_of_eq h.1.symm, fun k _ hk => h.2 k hk⟩
theorem Fw.trans {j : Nat} {μ μ1 μ2 : Mem} (a : Fw j μ μ1) (b : Fw j μ1 μ2) : Fw j μ μ2 := ⟨Nat.le_trans a.1 b.1, fun k hk hj => (b.2 k (by have := a.1; omega) hj).trans (a.2 k hk hj)⟩
end FL
namespace FL
open PySem L2
abbrev kinds9 : List String := ["term", "phrase", "prefix", "range", "everything", "all", "some", "without", "weighted"]
def QV (at_ : String → String → Att) (isa : String → String → Option Bool) (d : D) : Prop :=
  ∃ (c kd : String) (ks : List String) (vs ps : List D) (s l : Int) (key : List D) (fs : List Tx) (t : Tx) (i : Int), d = .ins c ks vs ∧ isa c "Query" = some true ∧ QAt at_ c kd ∧ kd ∈ kinds9 ∧ getF ks vs "KIND" = none ∧ getF ks vs "own_parts" = some (.tup ps) ∧ getF ks vs "own_size" = some (.int s) ∧
    getF ks vs "own_levels" = some (.int l) ∧ getF ks vs "own_key" = some (.tup key) ∧ getF ks vs "own_fields" = some (.tup (fs.map .str)) ∧ getF ks vs "own_text" = some (.str t) ∧ (kd = "some" → at_ c "least" = .fld ∧ getF ks vs "least" = some (.int i)) ∧ ∀ k, D.lowb k d = true
def szD (at_ : String → String → Att) (d : D) : Int := match dF at_ "own_size" d with
  | some (.int s) => s
  | _ => 0
def lvD (at_ : String → String → Att) (d : D) : Int := match dF at_ "own_levels" d with
  | some (.int s) => s
  | _ => 0
def fsD (at_ : String → String → Att) (d : D) : List Tx := match dF at_ "own_fields" d with
  | some (.tup xs) => xs.map txOf
  | _ => []
def tD (at_ : String → String → Att) (d : D) : Tx := match dF at_ "own_text" d with
  | some (.str s) => s
  | _ => []
def psD (at_ : String → String → Att) (d : D) : List D := match dF at_ "own_parts" d with
  | some (.tup s) => s
  | _ => []
def kdD (at_ : String → String → Att) : D → Tx
  | .ins c _ _ => (match at_ c "KIND" with
    | .con (.str k) => k
    | _ => [])
  | _ => []
def isQ : D → Bool
  | .ins _ _ _ => true
  | _ => false
section
variable {at_ : String → String → Att} {isa isb : String → String → Option Bool} {d : D} {μ : Mem}
theorem QV.q (h : QV at_ isa d) : isQ d = true := by
  obtain ⟨c, kd, ks, vs, ps, s, l, key, fs, t, i, rfl, _⟩ := h
  rfl
theorem txOf_map (fs : List Tx) : (fs.map D.str).map txOf = fs := by
  rw [List.map_map]
  exact List.map_id'' (fun _ => rfl) _
theorem QV.lv (h : QV at_ isa d) : dF at_ "own_levels" d = some (.int (lvD at_ d)) := by
  obtain ⟨c, kd, ks, vs, ps, s, l, key, fs, t, i, rfl, _, A, _, _, g1, g2, g3, g4, g5, g6, _⟩ := h
  simp [lvD, dF, A.l, g3]
theorem QV.fs (h : QV at_ isa d) : dF at_ "own_fields" d = some (.tup ((fsD at_ d).map .str)) := by
  obtain ⟨c, kd, ks, vs, ps, s, l, key, fs, t, i, rfl, _, A, _, _, g1, g2, g3, g4, g5, g6, _⟩ := h
  simp only [fsD, dF, A.f, g5, txOf_map]
theorem QV.ps (h : QV at_ isa d) : dF at_ "own_parts" d = some (.tup (psD at_ d)) := by
  obtain ⟨c, kd, ks, vs, ps, s, l, key, fs, t, i, rfl, _, A, _, _, g1, g2, g3, g4, g5, g6, _⟩ := h
  simp [psD, dF, A.p, g1]
end
end FL
namespace FL
open PySem L2
section
variable {at_ : String → String → Att} {isa isb : String → String → Option Bool} {d : D} {μ : Mem} {k kd : Nat}
structure Fit (at_ : String → String → Att) (isa : String → String → Option Bool) (ps : List D) : Prop where
  n : 1 ≤ ps.length
  n8 : ps.length ≤ 8
  q : ∀ p ∈ ps, QV at_ isa p
  t : ∀ p ∈ ps, (tD at_ p).length ≤ 1000000
  s : 1 + (ps.map (szD at_)).sum ≤ 60
  l : 1 + maxI (ps.map (lvD at_)) ≤ 8
  f : ((ps.map (fsD at_)).flatten).length < 4000
theorem Fit.ne {ps : List D} (F : Fit at_ isa ps) : ps ≠ [] := fun e => by have := F.n; rw [e] at this; simp at this
end
end FL
namespace L35
open PySem L2 FL
theorem es : m__law_drawer = mSource := rfl
theorem en : m__law_drawn = mNext := rfl
theorem ep : m__law_drawn_of = mPick := rfl
theorem aIs : at_ "Index" "schema" = .fld := by kernel_rfl
theorem aIk : at_ "Index" "kept" = .fld := by kernel_rfl
theorem aIp : at_ "Index" "pieces" = .fld := by kernel_rfl
theorem aSa : at_ "Segment" "added" = .fld := by kernel_rfl
theorem aSo : at_ "Segment" "is_open" = .fld := by kernel_rfl
theorem aEl : at_ "Entry" "label" = .fld := by kernel_rfl
theorem aEd : at_ "Entry" "kept_document" = .fld := by kernel_rfl
theorem aEw : at_ "Entry" "field_words" = .fld := by kernel_rfl
theorem pSz : pt_size "Index" "size" = some m_View_size := by kernel_rfl
theorem pSg : pt_segments "Index" "segments" = some m_Index_segments := by kernel_rfl
end L35
namespace FL
section
variable {δ : FL.Loc} {μ : Mem} {m md mk mv ma mb : ME} {oo ob oc : Opn} {ms : List ME} {ml : MM (List D)} {cs : List String}
@[simp] theorem ev_Frz : mFrz m δ μ = (m δ μ).bind fun s δ1 μ1 => match s with | .own (.dct ks ds) => if ks.length = ds.length then .ok (.fr (.dcf ks ds)) δ1 μ1 else .bad | _ => .bad := rfl
@[simp] theorem ev_ItF : mItemsF m δ μ = (m δ μ).bind fun s δ1 μ1 => match s.d with | .fx .df ks ds => .ok (itemsD (ks.zip ds)) δ1 μ1 | _ => .bad := rfl
@[simp] theorem ev_RcT : mRcT ms δ μ = (evA ms δ μ).bind fun ds δ1 μ1 => if ds.length ≤ 16777216 then .ok (.fr (.rc ds)) δ1 μ1 else .bad := rfl
@[simp] theorem ev_LstL : mLstL ml δ μ = (ml δ μ).bind fun ds δ1 μ1 => if ds.length ≤ 16777216 then .ok (.own (.lst ds)) δ1 μ1 else .bad := rfl
@[simp] theorem ev_StarL : mStarL m ml δ μ = (m δ μ).bind fun s δ1 μ1 => match itemsS s.d with | some xs => (ml δ1 μ1).bind fun ds δ2 μ2 => .ok (xs ++ ds) δ2 μ2 | none => .bad := rfl
@[simp] theorem ev_Get1 : mGet1 oo ob δ μ = (oo.ev δ μ).bind fun ra δ1 μ1 => match ra.at δ1 μ1 with
  | some d0 => if isDct d0 = true then (ob.ev δ1 μ1).bind fun rb δ2 μ2 => match ra.at δ2 μ2, rb.at δ2 μ2 with
    | some da, some db => lift (gGet1 da db) δ2 μ2
    | _, _ => .bad
    else .bad
  | none => .bad := rfl
@[simp] theorem ev_EqI : mEqI cs ma mb δ μ = (ma δ μ).bind fun sa δ1 μ1 => (mb δ1 μ1).bind fun sb δ2 μ2 => match idD cs μ2 sa.d sb.d with
  | some r => .ok (.fr (.bl r)) δ2 μ2
  | none => .bad := rfl
end
end FL
namespace L35
open PySem L2 FL
theorem em : m_is_made_of = S.m_is_made_of := rfl
theorem ew : m_split_words = S.m_split_words := rfl
theorem made_k {c : Nat} (h : c ∈ lit "klmo") : Made [c] (lit "abcdefghijklmnopqrstuvwxyz") 12 := by
  have e : c = 107 ∨ c = 108 ∨ c = 109 ∨ c = 111 := by simpa [show lit "klmo" = [107, 108, 109, 111] from by decide] using h
  rcases e with rfl | rfl | rfl | rfl <;> decide
theorem needKey {c : Nat} {μ : Mem} (h : c ∈ lit "klmo") : m_need_key [.str [c]] μ = .ok (.fr .non) μ := by
  have e := made_str (x := [c]) (s := lit "abcdefghijklmnopqrstuvwxyz") (n := 12) (μ := μ) (by simp)
  rw [decide_eq_true (made_k h)] at e
  simp [m_need_key, b_need_key, m_is_key, b_is_key, em, startD, e]
abbrev S1 : D := .rc [.tup [.str (lit "t"), .str (lit "text")], .tup [.str (lit "n"), .str (lit "number")]]
abbrev S0 : D := .rc [.tup [.str (lit "t"), .str (lit "text")]]
abbrev D0 : D := .dcf [] []
abbrev D1 : D := .dcf [.s (lit "t")] [.str (lit "a")]
abbrev D2 : D := .dcf [.s (lit "n")] [.int 1]
theorem kind1t {μ : Mem} : m_kind_of_field [S1, .str (lit "t")] μ = .ok (.fr (.str (lit "text"))) μ := by
  have e : gDict [S1] = some (.own (.dct [.s (lit "t"), .s (lit "n")] [.str (lit "text"), .str (lit "number")])) := by rfl
  have e2 : gGet1 (.dcf [.s (lit "t"), .s (lit "n")] [.str (lit "text"), .str (lit "number")]) (.str (lit "t")) = some (.fr (.str (lit "text"))) := by rfl
  simp [m_kind_of_field, b_kind_of_field, startD, e, e2, isDct, dctOf]
theorem kind1n {μ : Mem} : m_kind_of_field [S1, .str (lit "n")] μ = .ok (.fr (.str (lit "number"))) μ := by
  have e : gDict [S1] = some (.own (.dct [.s (lit "t"), .s (lit "n")] [.str (lit "text"), .str (lit "number")])) := by rfl
  have e2 : gGet1 (.dcf [.s (lit "t"), .s (lit "n")] [.str (lit "text"), .str (lit "number")]) (.str (lit "n")) = some (.fr (.str (lit "number"))) := by rfl
  simp [m_kind_of_field, b_kind_of_field, startD, e, e2, isDct, dctOf]
theorem needDoc0 {μ : Mem} {s : D} : m_need_document [s, D0] μ = .ok (.fr .non) μ := by
  have e : gIsi [D0, .ty "dict"] = some (.fr (.bl true)) := by rfl
  have e2 : gAll [.lst []] = some (.fr (.bl true)) := by rfl
  simp [m_need_document, b_need_document, startD, e, e2, lcD, itemsD]
theorem isText {μ : Mem} : m_is_text [.str (lit "a")] μ = .ok (.fr (.bl true)) μ := by
  have e1 : gIsi [.str (lit "a"), .ty "str"] = some (.fr (.bl true)) := by rfl
  have e2 : gLen [.str (lit "a")] = some (.fr (.int 1)) := by rfl
  have e3 : gLe (.int 1) (.int 400) = some (.fr (.bl true)) := by rfl
  simp [m_is_text, b_is_text, startD, e1, e2, e3]
theorem needDoc1 {μ : Mem} : m_need_document [S1, D1] μ = .ok (.fr .non) μ := by
  have e : gIsi [D1, .ty "dict"] = some (.fr (.bl true)) := by rfl
  have e2 : gAll [.lst [.bl true]] = some (.fr (.bl true)) := by rfl
  have e3 : gEq false (.str (lit "text")) (.str (lit "text")) = some (.fr (.bl true)) := by rfl
  have e4 : m_is_value_for [.str (lit "text"), .str (lit "a")] μ = .ok (.fr (.bl true)) μ := by
    simp [m_is_value_for, b_is_value_for, startD, e3, isText]
  simp [m_need_document, b_need_document, startD, e, e2, e4, lcD, itemsD, DK.d, e1_need_document, kind1t]
theorem needDoc2 {μ : Mem} : m_need_document [S1, D2] μ = .ok (.fr .non) μ := by
  have e : gIsi [D2, .ty "dict"] = some (.fr (.bl true)) := by rfl
  have e2 : gAll [.lst [.bl true]] = some (.fr (.bl true)) := by rfl
  have e3 : gEq false (.str (lit "number")) (.str (lit "text")) = some (.fr (.bl false)) := by rfl
  have e3' : gEq false (.str (lit "number")) (.str (lit "number")) = some (.fr (.bl true)) := by rfl
  have e5 : m_is_integer [.int 1, .int (-1000000000), .int 1000000000] μ = .ok (.fr (.bl true)) μ := by
    have a1 : gIsi [.int 1, .ty "int"] = some (.fr (.bl true)) := by rfl
    have a2 : gIsi [.int 1, .ty "bool"] = some (.fr (.bl false)) := by rfl
    have a3 : ∀ i : Int, gIsN false (.int i) .non = some (.fr (.bl false)) := fun _ => by rfl
    have a4 : gLe (.int (-1000000000)) (.int 1) = some (.fr (.bl true)) := by rfl
    have a5 : gLe (.int 1) (.int 1000000000) = some (.fr (.bl true)) := by rfl
    simp [m_is_integer, b_is_integer, startD, a1, a2, a3, a4, a5]
  have e6 : gSub (.int 0) (.int 1000000000) = some (.fr (.int (-1000000000))) := by rfl
  have e4 : m_is_value_for [.str (lit "number"), .int 1] μ = .ok (.fr (.bl true)) μ := by
    simp [m_is_value_for, b_is_value_for, startD, e3, e3', e5, e6]
  simp [m_need_document, b_need_document, startD, e, e2, e4, lcD, itemsD, DK.d, e1_need_document, kind1n]
theorem fieldName {c : Nat} {μ : Mem} (h : c ∈ lit "tn") : m_is_field_name [.str [c]] μ = .ok (.fr (.bl true)) μ := by
  have e := made_str (x := [c]) (s := lit "abcdefghijklmnopqrstuvwxyz") (n := 12) (μ := μ) (by simp)
  have h' : c = 116 ∨ c = 110 := by simpa [show lit "tn" = [116, 110] from by decide] using h
  have e0 : Made [c] (lit "abcdefghijklmnopqrstuvwxyz") 12 := by rcases h' with rfl | rfl <;> decide
  rw [decide_eq_true e0] at e
  simp [m_is_field_name, b_is_field_name, em, startD, e]
theorem fieldRow {a b : Tx} {μ : Mem} (h1 : m_is_field_name [.str a] μ = .ok (.fr (.bl true)) μ) (h2 : gIn false (.str b) (.tup ([lit "text", lit "number"].map .str)) = some (.fr (.bl true))) : m_is_field_row [.tup [.str a, .str b]] μ = .ok (.fr (.bl true)) μ := by
  have a1 : gIsi [.tup [.str a, .str b], .ty "tuple"] = some (.fr (.bl true)) := by rfl
  have a2 : gLen [.tup [.str a, .str b]] = some (.fr (.int 2)) := by rfl
  have a3 : gEq true (.int 2) (.int 2) = some (.fr (.bl false)) := by rfl
  have a4 : gIxL (.tup [.str a, .str b]) (.int 0) = some (.fr (.str a)) := by rfl
  have a5 : gIxL (.tup [.str a, .str b]) (.int 1) = some (.fr (.str b)) := by rfl
  have a6 : gIsi [.str b, .ty "str"] = some (.fr (.bl true)) := by rfl
  simp only [List.map_cons, List.map_nil] at h2
  simp [m_is_field_row, b_is_field_row, startD, a1, a2, a3, a4, a5, a6, h1, h2]
theorem needSch1 {μ : Mem} : m_need_schema [S1] μ = .ok (.fr .non) μ := by
  have a1 : gIsi [S1, .ty "tuple"] = some (.fr (.bl true)) := by rfl
  have a2 : gLen [S1] = some (.fr (.int 2)) := by rfl
  have a3 : gLe (.int 1) (.int 2) = some (.fr (.bl true)) := by rfl
  have a4 : gLe (.int 2) (.int 6) = some (.fr (.bl true)) := by rfl
  have a5 : gAll [.lst [.bl true, .bl true]] = some (.fr (.bl true)) := by rfl
  have a6 : gLenS [.lst [.str (lit "t"), .str (lit "n")]] = some (.fr (.int 2)) := by rfl
  have a7 : gLt (.int 2) (.int 2) = some (.fr (.bl false)) := by rfl
  have r1 : m_is_field_row [.tup [.str (lit "t"), .str (lit "text")]] μ = .ok (.fr (.bl true)) μ := fieldRow (fieldName (c := 116) (by decide)) (by rfl)
  have r2 : m_is_field_row [.tup [.str (lit "n"), .str (lit "number")]] μ = .ok (.fr (.bl true)) μ := fieldRow (fieldName (c := 110) (by decide)) (by rfl)
  have t1 : itA S1 = some [.tup [.str (lit "t"), .str (lit "text")], .tup [.str (lit "n"), .str (lit "number")]] := by rfl
  simp [m_need_schema, b_need_schema, startD, a1, a2, a3, a4, a5, a6, a7, r1, r2, t1, lcD, e1_need_schema, e2_need_schema]
theorem needSch0 {μ : Mem} : m_need_schema [S0] μ = .ok (.fr .non) μ := by
  have a1 : gIsi [S0, .ty "tuple"] = some (.fr (.bl true)) := by rfl
  have a2 : gLen [S0] = some (.fr (.int 1)) := by rfl
  have a3 : gLe (.int 1) (.int 1) = some (.fr (.bl true)) := by rfl
  have a4 : gLe (.int 1) (.int 6) = some (.fr (.bl true)) := by rfl
  have a5 : gAll [.lst [.bl true]] = some (.fr (.bl true)) := by rfl
  have a6 : gLenS [.lst [.str (lit "t")]] = some (.fr (.int 1)) := by rfl
  have a7 : gLt (.int 1) (.int 1) = some (.fr (.bl false)) := by rfl
  have r1 : m_is_field_row [.tup [.str (lit "t"), .str (lit "text")]] μ = .ok (.fr (.bl true)) μ := fieldRow (fieldName (c := 116) (by decide)) (by rfl)
  have t1 : itA S0 = some [.tup [.str (lit "t"), .str (lit "text")]] := by rfl
  simp [m_need_schema, b_need_schema, startD, a1, a2, a3, a4, a5, a6, a7, r1, t1, lcD, e1_need_schema, e2_need_schema]
abbrev ksI : List String := ["schema", "kept", "pieces"]
theorem newIdx {s : D} {μ : Mem} (hs : ∀ μ, m_need_schema [s] μ = .ok (.fr .non) μ) (hn : ∀ μ : Mem, True) :
    mkS "Index" m_iIndex [s] μ = .ok (.fr (.obj μ.length)) (μ ++ [.ins "Index" (μ.length + 1) ksI [s, .dcf [] [], .lst []], .idc μ.length]) := by
  have hg : ∀ (o : Own), (μ ++ [o, .idc μ.length])[μ.length]? = some o := fun o => by simp
  have hset : ∀ (o o' : Own), (μ ++ [o, .idc μ.length]).set μ.length o' = μ ++ [o', .idc μ.length] := fun o o' => by simp
  have v0 : ∀ o : Own, m_iView [.obj μ.length, s] (μ ++ [.ins "Index" (μ.length + 1) [] [], .idc μ.length]) = .ok (.fr .non) (μ ++ [.ins "Index" (μ.length + 1) ["schema", "kept"] [s, .dcf [] []], .idc μ.length]) := fun _ => by
    rw [show m_iView = mFn 2 b_iView from rfl, ev_Fn]
    unfold b_iView
    simp [startD, mStF, OR.self, aIs, aIk, putNm, putVs]
  rw [mkS_eq]
  unfold mkS0
  rw [show m_iIndex = mFn 2 b_iIndex from rfl, ev_Fn]
  unfold b_iIndex
  simp [startD, mStF, mSuper, insOf, OR.self, aIp, putNm, putVs, hs, v0 (.idc 0)]
end L35
namespace L35
open PySem L2 FL
abbrev ksS : List String := ["added", "is_open"]
abbrev sgD (es : List D) (o : Bool) : D := .ins "Segment" ksS [.lst es, .bl o]
theorem newSeg {es : List D} {o : Bool} {μ : Mem} (hb : D.lowbs μ.length [.lst es, .bl o] = true) : mkF "Segment" m_iSegment [.lst es, .bl o] μ = .ok (.fr (sgD es o)) μ := by
  refine mkF_ok (ks := ksS) ?_ hb
  have hg : ∀ (o : Own), (newM μ "Segment" [] [])[μ.length]? = some (.ins "Segment" (μ.length + 1) [] []) := fun o => by simp [newM]
  rw [show m_iSegment = mFn 3 b_iSegment from rfl, ev_Fn]
  unfold b_iSegment
  simp [newM, startD, mStF, insOf, OR.self, aSa, aSo, putNm, putVs]
abbrev ksE : List String := ["label", "kept_document", "field_words"]
abbrev entM (μ : Mem) (c : Nat) (d : D) (ws : Own) : Mem := μ ++ [.ins "Entry" (μ.length + 1) ksE [.str [c], d, .obj (μ.length + 2)], .idc μ.length, ws]
theorem ent0 {c : Nat} {d : D} {μ : Mem} (hd : d = D0 ∨ d = D2) : mkS "Entry" m_iEntry [.str [c], d] μ = .ok (.fr (.obj μ.length)) (entM μ c d (.dct [] [])) := by
  rw [mkS_eq]
  unfold mkS0
  rw [show m_iEntry = mFn 5 b_iEntry from rfl, ev_Fn]
  unfold b_iEntry
  have a1 : gIsi [.int 1, .ty "str"] = some (.fr (.bl false)) := by rfl
  rcases hd with rfl | rfl <;> simp [startD, mStF, insOf, OR.self, aEl, aEd, aEw, putNm, putVs, itemsD, forD, f1_iEntry, a1, tgT, tgC, tgN, DK.d]
theorem ent1 {c : Nat} {μ : Mem} : mkS "Entry" m_iEntry [.str [c], D1] μ = .ok (.fr (.obj μ.length)) (entM μ c D1 (.dct [.s (lit "t")] [.tup [.str (lit "a")]])) := by
  rw [mkS_eq]
  unfold mkS0
  rw [show m_iEntry = mFn 5 b_iEntry from rfl, ev_Fn]
  unfold b_iEntry
  have a1 : gIsi [.str (lit "a"), .ty "str"] = some (.fr (.bl true)) := by rfl
  have a2 : ∀ μ : Mem, S.m_split_words [.str (lit "a")] μ = .ok (.own (.lst [.str (lit "a")])) μ := fun μ => by
    rw [split_sp (by decide) (by decide)]
    rfl
  have a3 : gTuple [.lst [.str (lit "a")]] = some (.fr (.tup [.str (lit "a")])) := by rfl
  have a4 : gSetD (.dct [] []) (.str (lit "t")) (.tup [.str (lit "a")]) = some (.dct [.s (lit "t")] [.tup [.str (lit "a")]]) := by rfl
  simp [startD, mStF, mAt, insOf, OR.self, aEl, aEd, aEw, putNm, putVs, itemsD, forD, f1_iEntry, a1, a3, ew, a2, tgT, tgC, tgN, DK.d, getF, recv, a4]
theorem eqN_nl (neg : Bool) (xs : List D) : gEqN neg (.lst xs) (.lst []) = some (FL.tb (decide (xs = []) != neg)) := by
  have hg : gLenEq neg (.lst xs) (.lst []) = some (FL.tb (decide (xs = []) != neg)) := by
    cases xs <;> cases neg <;> simp [gLenEq]
  unfold gEqN
  cases h : gEq neg (.lst xs) (.lst []) with
  | none => exact hg
  | some s =>
    show some s = _
    rw [← h]
    cases hp : D.pys xs with
    | none => simp [gEq, eqS, eqP, D.py, hp] at h
    | some qs =>
      have e2 : PyData.eqvAll qs [] = decide (xs = []) := by
        cases xs with
        | nil => cases hp; rfl
        | cons x xs =>
          cases qs with
          | nil =>
            simp only [D.pys] at hp
            split at hp <;> cases hp
          | cons y ys => simp [PyData.eqvAll]
      by_cases hs : (SeqAt.shaped (.list qs) && SeqAt.shaped (.list [])) = true
      · rw [Bool.and_eq_true] at hs
        simp [gEq, eqS, eqP, D.py, D.pys, hp, hs.1, hs.2, PyData.eqv, e2]
      · have hs : (SeqAt.shaped (.list qs) && SeqAt.shaped (.list [])) = false := by simpa using hs
        simp [gEq, eqS, eqP, D.py, D.pys, hp, hs] at h
abbrev idx (s kp : D) (kd : Nat) (ps : List D) : Own := .ins "Index" kd ksI [s, kp, .lst ps]
theorem flush0 {ix kd : Nat} {s kp : D} {μ : Mem} (h : μ[ix]? = some (idx s kp kd [])) : m_sr_flush [.obj ix] μ = .ok (.fr .non) μ := by
  rw [show m_sr_flush = mFn 1 b_sr_flush from rfl, ev_Fn]
  unfold b_sr_flush
  simp [startD, mAt, insOf, OR.self, aIp, getF, h, eqN_nl]
theorem flush1 {ix kd : Nat} {s kp : D} {ps es : List D} {μ : Mem} (h : μ[ix]? = some (idx s kp kd (ps ++ [sgD es false]))) : m_sr_flush [.obj ix] μ = .ok (.fr .non) μ := by
  rw [show m_sr_flush = mFn 1 b_sr_flush from rfl, ev_Fn]
  unfold b_sr_flush
  simp [startD, mAt, insOf, OR.self, aIp, aSo, getF, h, eqN_nl, FL.atI_last]
theorem flush2 {ix kd : Nat} {s kp : D} {ps es : List D} {μ : Mem} (h : μ[ix]? = some (idx s kp kd (ps ++ [sgD es true]))) (hb : D.lowbs μ.length [.lst es, .bl false] = true) (hl : ps.length < 1000) :
    m_sr_flush [.obj ix] μ = .ok (.fr .non) (μ.set ix (idx s kp kd (ps ++ [sgD es false]))) := by
  have e1 := newSeg hb
  have hl' : ps.length + 1 ≤ 16777216 := by omega
  rw [show m_sr_flush = mFn 1 b_sr_flush from rfl, ev_Fn]
  unfold b_sr_flush
  simp [startD, mAt, mStF, mCallK, pickS, insOf, OR.self, aIp, aSo, aSa, getF, h, eqN_nl, FL.atI_last, FL.cut_last, itemsS, e1, hl', putNm, putVs]
end L35
namespace L35
open PySem L2 FL
abbrev kpD (kds : List (DK × D)) : D := .dcf (kds.map (·.1)) (kds.map (·.2))
theorem zipK : ∀ kds : List (DK × D), (kds.map (·.1)).zip (kds.map (·.2)) = kds
  | [] => rfl
  | p :: r => by
    simp only [List.map_cons, List.zip_cons_cons]
    rw [zipK r]
theorem inK {c : Nat} {kds : List (DK × D)} {neg : Bool} : gInD neg (.str [c]) (kpD kds) = some (.fr (.bl ((getA kds (.s [c])).isSome != neg))) := by
  simp [gInD, dctOf, dkey, zipK]
theorem lenK {kds : List (DK × D)} : gLenD [kpD kds] = some (.fr (.int kds.length)) := by
  simp [gLenD, gLenD1, dctOf]
theorem mergeA_acc : ∀ (kds acc : List (DK × D)), ((acc ++ kds).map (·.1)).Nodup → FL.mergeA acc kds = acc ++ kds
  | [], acc, _ => by simp [FL.mergeA]
  | p :: r, acc, h => by
    have hn : (acc.any fun q => decide (q.1 = p.1)) = false := by
      rw [List.any_eq_false]
      intro q hq
      simp only [decide_eq_true_eq]
      intro e
      simp only [List.map_append, List.map_cons, List.nodup_append] at h
      exact h.2.2 q.1 (List.mem_map_of_mem hq) p.1 (List.mem_cons_self) e
    have e : FL.mergeA acc (p :: r) = FL.mergeA (acc ++ [p]) r := by
      simp [FL.mergeA, putA, hn]
    rw [e, mergeA_acc r (acc ++ [p]) (by simpa using h)]
    simp
theorem mergeA_nil {kds : List (DK × D)} (h : (kds.map (·.1)).Nodup) : FL.mergeA [] kds = kds := by
  simpa using mergeA_acc kds [] (by simpa using h)
theorem eq500 {n : Nat} (h : n < 500) : gEq false (.int (n : Int)) (.int 500) = some (.fr (.bl false)) := by
  have : ¬ ((n : Int) = 500) := by omega
  simp [gEq, eqS, eqP, this]
section
variable {c ix kd : Nat} {s : D} {kds : List (DK × D)} {ps es : List D} {μ : Mem} {dk : List DK} {dv : List D} {ws : Own}
abbrev putI (s : D) (kds : List (DK × D)) (c n kd : Nat) (ps : List D) : Own := idx s (kpD (putA kds (.s [c]) (.obj n))) kd ps
theorem put0 (hc : c ∈ lit "klmo") (hd : ∀ μ, m_need_document [s, .dcf dk dv] μ = .ok (.fr .non) μ) (hg : gDict [.dcf dk dv] = some (.own (.dct dk dv))) (hl : dk.length = dv.length)
    (he : ∀ μ, mkS "Entry" m_iEntry [.str [c], .dcf dk dv] μ = .ok (.fr (.obj μ.length)) (entM μ c (.dcf dk dv) ws))
    (hx : μ[ix]? = some (idx s (kpD kds) kd ps)) (hp : ps = [] ∨ ∃ qs es, ps = qs ++ [sgD es false]) (hn : (kds.map (·.1)).Nodup) (h4 : kds.length < 500) (h5 : ps.length < 1000) :
    m_sr_put [.obj ix, .str [c], .dcf dk dv] μ = .ok (.fr (.bl (getA kds (.s [c])).isSome)) ((entM μ c (.dcf dk dv) ws).set ix (putI s kds c μ.length kd (ps ++ [sgD [.obj μ.length] true]))) := by
  have hlt : ix < μ.length := (List.getElem?_eq_some_iff.mp hx).1
  have hx2 : (entM μ c (.dcf dk dv) ws)[ix]? = some (idx s (kpD kds) kd ps) := by
    rw [List.getElem?_append_left hlt]; exact hx
  have e1 := newSeg (es := [.obj μ.length]) (o := true) (μ := entM μ c (.dcf dk dv) ws) (by simp [D.lowb])
  have hl' : ps.length + 1 ≤ 16777216 := by omega
  have hlt2 : ix < (entM μ c (.dcf dk dv) ws).length := by simp; omega
  have hs : ∀ o, ((entM μ c (.dcf dk dv) ws).set ix o)[ix]? = some o := fun o => List.getElem?_set_self hlt2
  clear hlt2
  rw [show m_sr_put = mFn 7 b_sr_put from rfl, ev_Fn]
  unfold b_sr_put
  generalize hM : entM μ c (.dcf dk dv) ws = M at *
  have h500 : kds.length < 16777216 := by omega
  rcases hp with rfl | ⟨qs, es, rfl⟩
  · simp [startD, mAt, mStF, mCallK, pickS, insOf, OR.self, aIs, aIk, aIp, aSo, aSa, getF, hx, hx2, hs, needKey hc, hd, inK, lenK, eq500 h4, hg, hl, he, hM, eqN_nl, itemsS, e1, putNm, putVs, mDStar, dctOf, zipK, h500, dkey, mergeA_nil hn]
  · have h6 : qs.length ≤ 16777214 := by simp at h5; omega
    simp [h6, startD, mAt, mStF, mCallK, pickS, insOf, OR.self, aIs, aIk, aIp, aSo, aSa, getF, hx, hx2, hs, needKey hc, hd, inK, lenK, eq500 h4, hg, hl, he, hM, eqN_nl, FL.atI_last, FL.cut_last, itemsS, e1, putNm, putVs, mDStar, dctOf, zipK, h500, dkey, mergeA_nil hn]
theorem put1 (hc : c ∈ lit "klmo") (hd : ∀ μ, m_need_document [s, .dcf dk dv] μ = .ok (.fr .non) μ) (hg : gDict [.dcf dk dv] = some (.own (.dct dk dv))) (hl : dk.length = dv.length)
    (he : ∀ μ, mkS "Entry" m_iEntry [.str [c], .dcf dk dv] μ = .ok (.fr (.obj μ.length)) (entM μ c (.dcf dk dv) ws))
    (hx : μ[ix]? = some (idx s (kpD kds) kd (ps ++ [sgD es true]))) (hb : D.lowbs (μ.length + 3) [.lst (es ++ [.obj μ.length]), .bl true] = true) (hn : (kds.map (·.1)).Nodup) (h4 : kds.length < 500) (h5 : ps.length < 1000) (h6 : es.length < 1000) :
    m_sr_put [.obj ix, .str [c], .dcf dk dv] μ = .ok (.fr (.bl (getA kds (.s [c])).isSome)) ((entM μ c (.dcf dk dv) ws).set ix (putI s kds c μ.length kd (ps ++ [sgD (es ++ [.obj μ.length]) true]))) := by
  have hlt : ix < μ.length := (List.getElem?_eq_some_iff.mp hx).1
  have hx2 : (entM μ c (.dcf dk dv) ws)[ix]? = some (idx s (kpD kds) kd (ps ++ [sgD es true])) := by
    rw [List.getElem?_append_left hlt]; exact hx
  have e1 := newSeg (es := es ++ [.obj μ.length]) (o := true) (μ := entM μ c (.dcf dk dv) ws) (by simpa using hb)
  have hl' : ps.length + 1 ≤ 16777216 := by omega
  have hl6 : es.length + 1 ≤ 16777216 := by omega
  have hl7 : ps.length ≤ 16777215 := by omega
  have hl8 : es.length ≤ 16777215 := by omega
  have hlt2 : ix < (entM μ c (.dcf dk dv) ws).length := by simp; omega
  have hs : ∀ o, ((entM μ c (.dcf dk dv) ws).set ix o)[ix]? = some o := fun o => List.getElem?_set_self hlt2
  clear hlt2
  rw [show m_sr_put = mFn 7 b_sr_put from rfl, ev_Fn]
  unfold b_sr_put
  generalize hM : entM μ c (.dcf dk dv) ws = M at *
  have h500 : kds.length < 16777216 := by omega
  simp [startD, mAt, mStF, mCallK, pickS, insOf, OR.self, aIs, aIk, aIp, aSo, aSa, getF, hx, hx2, hs, needKey hc, hd, inK, lenK, eq500 h4, hg, hl, he, hM, eqN_nl, FL.atI_last, FL.cut_last, itemsS, e1, putNm, putVs, mDStar, dctOf, zipK, h500, dkey, mergeA_nil hn, hl', hl6, hl7, hl8]
theorem neStr {x y : Tx} : gEq true (.str x) (.str y) = some (.fr (.bl (!decide (x = y)))) := by
  have h : D.py (.str x) = some (.str (toS x)) := by rfl
  by_cases e : x = y
  · subst e
    simp [gEq, eqS, eqP]
  · have : ¬ toS x = toS y := fun z => e (toS_inj z)
    simp [gEq, eqS, eqP, e]
theorem putA_new {acc : List (DK × D)} {k : DK} {d : D} (h : k ∉ acc.map (·.1)) : putA acc k d = acc ++ [(k, d)] := by
  have hn : (acc.any fun q => decide (q.1 = k)) = false := by
    rw [List.any_eq_false]
    intro q hq
    simp only [decide_eq_true_eq]
    intro e
    exact h (List.mem_map.mpr ⟨q, hq, e⟩)
  simp [putA, hn]
theorem dks {x : Tx} : (DK.s x).d = .str x := rfl
theorem del_items {a : FL.Slot} : ∀ (l acc : List (DK × D)), (∀ p ∈ l, ∃ x, p.1 = .s x) → ((acc ++ l).map (·.1)).Nodup → acc.length + l.length < 16777216 →
    dcD (tgT 2 (tgC (tgV 2) (tgC (tgV 3) tgN))) (mTb (m2 (gEq true) (.v 2) (.v 1))) (mV 2) (mV 3) [2, 3] (itemsD l) acc [some a, some (.fr (.str [c])), none, none] μ
      = .ok (.own (dctO (acc ++ l.filter fun p => decide (p.1 ≠ .s [c])))) [some a, some (.fr (.str [c])), none, none] μ
  | [], acc, _, _, _ => by simp [itemsD, dcD]
  | (k, d) :: r, acc, hk, hn, hl => by
    obtain ⟨x, rfl⟩ : ∃ x, k = .s x := hk _ List.mem_cons_self
    have hk' : ∀ p ∈ r, ∃ x, p.1 = .s x := fun p hp => hk p (List.mem_cons_of_mem _ hp)
    simp only [List.length_cons] at hl
    have hla : acc.length < 16777216 := by omega
    have hna : (DK.s x) ∉ acc.map (·.1) := by
      intro hm
      simp only [List.map_append, List.map_cons, List.nodup_append] at hn
      exact hn.2.2 _ hm _ List.mem_cons_self rfl
    by_cases e : x = [c]
    · subst e
      have ih := del_items (a := a) r acc hk' (by
        simp only [List.map_append, List.map_cons, List.nodup_append] at hn ⊢
        exact ⟨hn.1, (List.nodup_cons.mp hn.2.1).2, fun u hu v hv => hn.2.2 u hu v (List.mem_cons_of_mem _ hv)⟩) (by omega)
      simp only [itemsD] at ih
      simp [itemsD, dcD, tgT, tgC, tgN, dks, neStr, ih]
    · have ih := del_items (a := a) r (acc ++ [(.s x, d)]) hk' (by simpa using hn) (by simp; omega)
      simp only [itemsD] at ih
      simp [itemsD, dcD, tgT, tgC, tgN, dks, neStr, e, dkey, hla, putA_new hna, ih]
theorem del_ok (hc : c ∈ lit "klmo") (hx : μ[ix]? = some (idx s (kpD kds) kd ps)) (hk : ∀ p ∈ kds, ∃ x, p.1 = .s x) (hn : (kds.map (·.1)).Nodup) (hl : kds.length < 500) (hi : (getA kds (.s [c])).isSome = true) :
    m_sr_delete [.obj ix, .str [c]] μ = .ok (.fr .non) (μ.set ix (idx s (kpD (kds.filter fun p => decide (p.1 ≠ .s [c]))) kd ps)) := by
  have e := del_items (c := c) (μ := μ) (a := .fr (.obj ix)) kds [] hk (by simpa using hn) (by simp; omega)
  rw [show m_sr_delete = mFn 4 b_sr_delete from rfl, ev_Fn]
  unfold b_sr_delete
  simp only [List.nil_append] at e
  simp [startD, mAt, mStF, mDc, insOf, OR.self, aIk, getF, hx, needKey hc, inK, hi, zipK, e, putNm, putVs]
end
end L35
namespace L35
open PySem L2 FL
def isLive (kds : List (DK × D)) (c i : Nat) : Bool := match getA kds (.s [c]) with
  | some (.obj j) => decide (j = i)
  | _ => false
theorem live_t {a : FL.Slot} {i kdE c : Nat} {d w : D} {kds : List (DK × D)} {μ : Mem} (hi : μ[i]? = some (.ins "Entry" kdE ksE [.str [c], d, w]))
    (hg : getA kds (.s [c]) = none ∨ ∃ j kd' ks' vs', getA kds (.s [c]) = some (.obj j) ∧ μ[j]? = some (.ins "Entry" kd' ks' vs')) :
    t1_live_entries [some a, some (.fr (kpD kds)), some (.fr (.obj i))] μ = .ok (isLive kds c i) [some a, some (.fr (kpD kds)), some (.fr (.obj i))] μ := by
  unfold t1_live_entries isLive
  rcases hg with h | ⟨j, kd', ks', vs', h, hj⟩
  · simp [mAt, insOf, OR.self, aEl, getF, hi, gGet1, isDct, dctOf, dkey, zipK, h, idD, clsM]
  · simp [mAt, insOf, OR.self, aEl, getF, hi, hj, gGet1, isDct, dctOf, dkey, zipK, h, idD, clsM]
end L35
namespace L35
open PySem L2 FL
def EntAt (μ : Mem) (kds : List (DK × D)) (p : Nat × Nat) : Prop := (∃ kdE d w, μ[p.2]? = some (.ins "Entry" kdE ksE [.str [p.1], d, w])) ∧ (getA kds (.s [p.1]) = none ∨ ∃ j kd' ks' vs', getA kds (.s [p.1]) = some (.obj j) ∧ μ[j]? = some (.ins "Entry" kd' ks' vs'))
theorem live_lc {a : FL.Slot} {kds : List (DK × D)} {μ : Mem} : ∀ (l : List (Nat × Nat)) (acc : List D), (∀ p ∈ l, EntAt μ kds p) → acc.length + l.length < 16777216 →
    lcD (tgV 2) t1_live_entries e2_live_entries [2] (l.map fun p => .obj p.2) acc [some a, some (.fr (kpD kds)), none] μ
      = .ok (.own (.lst (acc ++ (l.filter fun p => isLive kds p.1 p.2).map fun p => .obj p.2))) [some a, some (.fr (kpD kds)), none] μ
  | [], acc, _, _ => by simp [lcD]
  | p :: r, acc, h, hl => by
    obtain ⟨⟨kdE, d, w, hi⟩, hg⟩ := h p List.mem_cons_self
    have hr : ∀ q ∈ r, EntAt μ kds q := fun q hq => h q (List.mem_cons_of_mem _ hq)
    simp only [List.length_cons] at hl
    have hla : acc.length < 16777216 := by omega
    have t := live_t (a := a) hi hg
    cases e : isLive kds p.1 p.2 with
    | false =>
      rw [e] at t
      have ih := live_lc (a := a) r acc hr (by omega)
      simp [lcD, t, ih, e]
    | true =>
      rw [e] at t
      have ih := live_lc (a := a) r (acc ++ [.obj p.2]) hr (by simp; omega)
      simp [lcD, t, e2_live_entries, hla, ih, e]
end L35
namespace L35
open PySem L2 FL
abbrev obs (l : List (Nat × Nat)) : List D := l.map fun p => .obj p.2
def rowD (kds : List (DK × D)) (l : List (Nat × Nat)) (o : Bool) : D := .tup [.int (l.filter fun p => isLive kds p.1 p.2).length, .int ((l.length : Int) - (l.filter fun p => isLive kds p.1 p.2).length), .bl o]
theorem live_ok {kds : List (DK × D)} {μ : Mem} {l : List (Nat × Nat)} {o : Bool} (h : ∀ p ∈ l, EntAt μ kds p) (hl : l.length < 1000) :
    m_live_entries [sgD (obs l) o, kpD kds] μ = .ok (.own (.lst (obs (l.filter fun p => isLive kds p.1 p.2)))) μ := by
  have e := live_lc (a := .fr (sgD (obs l) o)) l [] h (by simp; omega)
  rw [List.nil_append] at e
  rw [show m_live_entries = mFn 3 b_live_entries from rfl, ev_Fn]
  unfold b_live_entries
  simp [startD, mAt, insOf, OR.self, aSa, getF, e]
theorem row_ok {kds : List (DK × D)} {μ : Mem} {l : List (Nat × Nat)} {o : Bool} (h : ∀ p ∈ l, EntAt μ kds p) (hl : l.length < 1000) :
    m_segment_row [sgD (obs l) o, kpD kds] μ = .ok (.fr (rowD kds l o)) μ := by
  have e := live_ok (o := o) h hl
  have e2 : ∀ ys : List D, gLen [.lst ys] = some (.fr (.int ys.length)) := fun ys => by simp [gLen, gLen1]
  have e3 : ∀ i j : Int, FL.gSub (.int i) (.int j) = some (.fr (.int (i - j))) := fun i j => by simp [FL.gSub]
  rw [show m_segment_row = mFn 3 b_segment_row from rfl, ev_Fn]
  unfold b_segment_row
  simp [startD, mAt, insOf, OR.self, aSa, aSo, getF, e, e2, e3, rowD]
end L35
namespace L35
open PySem L2 FL
abbrev Pc := List (Nat × Nat) × Bool
abbrev pcD (q : Pc) : D := sgD (obs q.1) q.2
theorem seg_lc {ix kd : Nat} {s : D} {ps : List D} {kds : List (DK × D)} {μ : Mem} (hx : μ[ix]? = some (idx s (kpD kds) kd ps)) : ∀ (l : List Pc) (acc : List D), (∀ q ∈ l, q.1.length < 1000 ∧ ∀ p ∈ q.1, EntAt μ kds p) → acc.length + l.length < 16777216 →
    lcD (tgV 1) mYes e1_Index_segments [1] (l.map pcD) acc [some (.fr (.obj ix)), none] μ = .ok (.own (.lst (acc ++ l.map fun q => rowD kds q.1 q.2))) [some (.fr (.obj ix)), none] μ
  | [], acc, _, _ => by simp [lcD]
  | q :: r, acc, h, hl => by
    obtain ⟨h1, h2⟩ := h q List.mem_cons_self
    simp only [List.length_cons] at hl
    have hla : acc.length < 16777216 := by omega
    have e := row_ok (o := q.2) h2 h1
    have ih := seg_lc hx r (acc ++ [rowD kds q.1 q.2]) (fun p hp => h p (List.mem_cons_of_mem _ hp)) (by simp; omega)
    simp [lcD, e1_Index_segments, mAt, insOf, OR.self, aIk, getF, hx, e, hla, ih]
theorem segs_ok {ix kd : Nat} {s : D} {kds : List (DK × D)} {l : List Pc} {μ : Mem} (hx : μ[ix]? = some (idx s (kpD kds) kd (l.map pcD))) (h : ∀ q ∈ l, q.1.length < 1000 ∧ ∀ p ∈ q.1, EntAt μ kds p) (hl : l.length < 1000) :
    m_Index_segments [.obj ix] μ = .ok (.fr (.tup (l.map fun q => rowD kds q.1 q.2))) μ := by
  have e := seg_lc hx l [] h (by simp; omega)
  rw [List.nil_append] at e
  have hl2 : l.length ≤ 16777216 := by omega
  rw [show m_Index_segments = mFn 2 b_Index_segments from rfl, ev_Fn]
  unfold b_Index_segments
  simp [startD, mAt, insOf, OR.self, aIp, getF, hx, e, gTuple]
theorem size_ok {ix kd : Nat} {s : D} {kds : List (DK × D)} {ps : List D} {μ : Mem} (hx : μ[ix]? = some (idx s (kpD kds) kd ps)) : m_View_size [.obj ix] μ = .ok (.fr (.int kds.length)) μ := by
  rw [show m_View_size = mFn 1 b_View_size from rfl, ev_Fn]
  unfold b_View_size
  simp [startD, mAt, insOf, OR.self, aIk, getF, hx, lenK]
end L35
namespace L35
open PySem L2 FL
def isNum (lv : List (DK × D)) (c : Nat) (n : Int) : Bool := match getA lv (.s [c]) with
  | some (.int m) => decide (m = n)
  | _ => decide (-1 = n)
theorem eqInt {a b : Int} : gEq false (.int a) (.int b) = some (.fr (.bl (decide (a = b)))) := by
  by_cases e : a = b <;> simp [gEq, eqS, eqP, e]
theorem num_t {l c : Nat} {n : Int} {lv : List (DK × D)} {μ : Mem} {x0 x2 x3 x4 x5 : Option FL.Slot} (hl : μ[l]? = some (.dct (lv.map (·.1)) (lv.map (·.2)))) (hg : getA lv (.s [c]) = none ∨ ∃ m, getA lv (.s [c]) = some (.int m)) :
    t1__law_segmented [x0, some (.fr (.obj l)), x2, x3, x4, x5, some (.fr (.str [c])), some (.fr (.int n))] μ = .ok (isNum lv c n) [x0, some (.fr (.obj l)), x2, x3, x4, x5, some (.fr (.str [c])), some (.fr (.int n))] μ := by
  unfold t1__law_segmented isNum
  rcases hg with h | ⟨m, h⟩
  · simp [mGet2, hl, isDct, dctOf, dkey, zipK, h, eqInt]
  · simp [mGet2, hl, isDct, dctOf, dkey, zipK, h, eqInt]
end L35
namespace FL
open PySem L2
section
variable {δ : FL.Loc} {μ : Mem} {m t' : ME} {t : MT} {f : TgF} {p : MS} {mi : MM (Nat × Nat)} {vs : List Nat} {k n : Nat} {acc : List D}
@[simp] theorem ev_ItM : mItM m δ μ = (m δ μ).bind fun s δ1 μ1 => match s with
  | .fr (.obj k) => (match lstAt μ1 k with
    | some xs => .ok (k, xs.length) δ1 μ1
    | none => .bad)
  | _ => .bad := rfl
@[simp] theorem ev_LcM : mLcM mi f t m vs δ μ = (mi δ μ).bind fun p δ1 μ1 => lcM f t m vs p.1 p.2 (List.range p.2) [] (wipeD δ1 vs) μ1 := rfl
@[simp] theorem ev_ForM : mForM mi f p δ μ = (mi δ μ).thn fun q δ1 μ1 => forM (turnD f p) q.1 q.2 (List.range q.2) δ1 μ1 := rfl
@[simp] theorem ec_Meth {mt : String → String → Nat → Option MF} {f : String} {o : Opn} {ms : List ME} : mMeth mt f o ms δ μ = (o.ev δ μ).bind fun r δ1 μ1 => match r.self δ1 with
  | some d => (match insOf μ1 d with
    | some (c, ks, vs) => if getF ks vs f = none then (match mt c f ms.length with
      | some m => (evA ms δ1 μ1).bind fun ds δ2 μ2 => (match m (d :: ds) μ2 with
        | .ok s μ3 => .ok s δ2 μ3
        | .exc x μ3 => .exc x δ2 μ3
        | .bad => .bad)
      | none => .bad) else .bad
    | none => .bad)
  | none => .bad := rfl
theorem lcM_one {xs : List D} {d : D} {i : Nat} {is : List Nat} (hk : lstAt μ k = some xs) (hd : xs[i]? = some d) : lcM f t m vs k n (i :: is) acc δ μ = (lc1 f t m vs d δ μ).bind fun o δ1 μ1 => match o with
    | some e => if acc.length < 16777216 then lcM f t m vs k n is (acc ++ [e]) δ1 μ1 else .bad
    | none => lcM f t m vs k n is acc δ1 μ1 := by
  have e0 : itmAt μ k i = some d := by unfold itmAt; rw [hk]; exact hd
  unfold lc1
  conv => lhs; unfold lcM
  simp only [e0]
  cases f d δ with
  | none => rfl
  | some δ' =>
    cases h : (t δ' μ).cut with
    | bad => simp only [h]; rfl
    | exc x δ2 μ2 => simp only [h]; rfl
    | ok b δ2 μ2 =>
      simp only [h, ev_b1]
      cases b with
      | false => rfl
      | true =>
        simp only [if_true]
        cases h2 : (m δ2 μ2).cut with
        | bad => rfl
        | exc x δ3 μ3 => rfl
        | ok s δ3 μ3 => rfl
theorem lcM_at {xs : List D} (F : D → Option D) (hk : lstAt μ k = some xs) (h : ∀ d ∈ xs, lc1 f t m vs d δ μ = .ok (F d) δ μ) : ∀ (j i : Nat) (acc : List D), i + j = xs.length → acc.length + j < 16777216 →
    lcM f t m vs k xs.length ((List.range xs.length).drop i) acc δ μ = .ok (.own (.lst (acc ++ (xs.drop i).filterMap F))) δ μ
  | 0, i, acc, e, hl => by
    rw [List.drop_eq_nil_of_le (by simp; omega), List.drop_eq_nil_of_le (by omega)]
    simp [lcM, endAt, hk]
  | j + 1, i, acc, e, hl => by
    have hlt : i < xs.length := by omega
    rw [range_from hlt, lcM_one hk (List.getElem?_eq_getElem hlt), h _ (List.getElem_mem hlt), ev_b1, List.drop_eq_getElem_cons hlt]
    cases eF : F xs[i] with
    | none =>
      simp only []
      rw [lcM_at F hk h j (i + 1) acc (by omega) (by omega), List.filterMap_cons, eF]
    | some x =>
      simp only [show acc.length < 16777216 by omega, if_true]
      rw [lcM_at F hk h j (i + 1) (acc ++ [x]) (by omega) (by rw [List.length_append, List.length_singleton]; omega), List.filterMap_cons, eF]
      simp only [List.append_assoc, List.singleton_append]
theorem lcM_pure {xs : List D} (F : D → Option D) (hk : lstAt μ k = some xs) (h : ∀ d ∈ xs, lc1 f t m vs d δ μ = .ok (F d) δ μ) (hl : xs.length < 16777216) :
    lcM f t m vs k xs.length (List.range xs.length) [] δ μ = .ok (.own (.lst (xs.filterMap F))) δ μ := by
  have := lcM_at F hk h xs.length 0 [] (by omega) (by simpa using hl)
  simpa using this
end
end FL
namespace FL
open PySem L2
def Lay (d : Nat) (x : D) : Prop := ∃ q, D.py x = some q ∧ PyData.canLay0 q = true ∧ q.depth ≤ d
theorem Lay.mono {d e : Nat} {x : D} (h : Lay d x) (h1 : d ≤ e) : Lay e x := let ⟨q, a, b, c⟩ := h; ⟨q, a, b, Nat.le_trans c h1⟩
theorem Lay.int {i : Int} : Lay 0 (.int i) := ⟨.int i, rfl, by simp [PyData.canLay0], by simp [PyData.depth]⟩
theorem Lay.bl {b : Bool} : Lay 0 (.bl b) := ⟨.bool b, rfl, by simp [PyData.canLay0], by simp [PyData.depth]⟩
theorem Lay.non : Lay 0 .non := ⟨.none, rfl, by simp [PyData.canLay0], by simp [PyData.depth]⟩
theorem Lay.str {x : Tx} (h : ∀ c ∈ x, c < 128) : Lay 0 (.str x) := ⟨.str (toS x), rfl, by simp only [PyData.canLay0]; exact strOk_ascii h, by simp [PyData.depth]⟩
theorem Lay.all {d : Nat} : ∀ {xs : List D}, (∀ x ∈ xs, Lay d x) → ∃ qs, D.pys xs = some qs ∧ PyData.canLayAll0 qs = true ∧ PyData.depthAll qs ≤ d
  | [], _ => ⟨[], by simp [D.pys, PyData.canLayAll0, PyData.depthAll]⟩
  | x :: xs, h => by
    obtain ⟨q, a1, l1, g1⟩ := h x (List.mem_cons_self ..)
    obtain ⟨qs, a2, l2, g2⟩ := Lay.all (xs := xs) fun y hy => h y (List.mem_cons_of_mem _ hy)
    exact ⟨q :: qs, by simp [D.pys, a1, a2], by simp [PyData.canLayAll0, l1, l2], by simp only [PyData.depthAll]; omega⟩
theorem Lay.tup {d : Nat} {xs : List D} (h : ∀ x ∈ xs, Lay d x) : Lay (d + 1) (.tup xs) := by
  obtain ⟨qs, a, l, g⟩ := Lay.all h
  exact ⟨.tuple qs, by simp [D.py, a], by simpa [PyData.canLay0] using l, by simp only [PyData.depth]; omega⟩
theorem Lay.lst {d : Nat} {xs : List D} (h : ∀ x ∈ xs, Lay d x) : Lay (d + 1) (.lst xs) := by
  obtain ⟨qs, a, l, g⟩ := Lay.all h
  exact ⟨.list qs, by simp [D.py, a], by simpa [PyData.canLay0] using l, by simp only [PyData.depth]; omega⟩
theorem Lay.same {d : Nat} {x : D} (neg : Bool) (h : Lay d x) (h1 : d ≤ 64) (h2 : eqS x x = none) : gEq neg x x = some (tb (true != neg)) := by
  obtain ⟨q, a, l, g⟩ := h
  have s : SeqAt.shaped q = true := by
    unfold SeqAt.shaped
    rw [l, decide_eq_true (show q.depth ≤ 64 by omega)]
    rfl
  simp [gEq, h2, eqP, a, s, SeqAt.eqv_refl q l]
theorem ne_of {μ : Mem} {i j : Nat} {a b : Own} (h1 : μ[i]? = some a) (h2 : μ[j]? = some b) (h : a ≠ b) : i ≠ j := fun e => by
  subst e
  rw [h1] at h2
  cases h2
  exact h rfl
structure Agr (A : List Nat) (μ μ' : Mem) : Prop where
  len : μ.length ≤ μ'.length
  at_ : ∀ i o, μ[i]? = some o → i ∉ A → μ'[i]? = some o
theorem Agr.trans {A B : List Nat} {μ μ1 μ2 : Mem} (a : Agr A μ μ1) (b : Agr B μ1 μ2) : Agr (A ++ B) μ μ2 :=
  ⟨Nat.le_trans a.len b.len, fun i o h n => b.at_ i o (a.at_ i o h fun z => n (List.mem_append_left _ z)) fun z => n (List.mem_append_right _ z)⟩
theorem Agr.set {μ : Mem} {i : Nat} {o : Own} : Agr [i] μ (μ.set i o) := ⟨by simp, fun j u h n => by
  rw [List.getElem?_set_ne (fun z => n (by simp [z]))]; exact h⟩
theorem Agr.fr {μ μ' : Mem} {j : Nat} (h : Fr j μ μ') : Agr [j] μ μ' := ⟨Nat.le_of_eq h.1.symm, fun i o e n => by
  rw [h.2 i (fun z => n (by simp [z]))]; exact e⟩
theorem Src.cell {μ : Mem} {j : Nat} {B : Int} (h : Src μ j B) : ∃ xs, μ[j]? = some (.lst xs) := let ⟨_, _, _, h1, _⟩ := h; ⟨_, h1⟩
theorem set_at {μ : Mem} {i : Nat} {o u : Own} (h : μ[i]? = some u) : (μ.set i o)[i]? = some o := List.getElem?_set_self (List.getElem?_eq_some_iff.mp h).1
theorem gset_self {M : Mem} {i : Nat} {o : Own} (h : (M[i]?).isSome = true) : (M.set i o)[i]? = some o := by
  obtain ⟨u, e⟩ := Option.isSome_iff_exists.mp h
  exact set_at e
theorem gset_ne {M : Mem} {i j : Nat} {o : Own} (h : i ≠ j) : (M.set i o)[j]? = M[j]? := List.getElem?_set_ne h
theorem gapp {M N : Mem} {i : Nat} (h : (M[i]?).isSome = true) : (M ++ N)[i]? = M[i]? := by
  obtain ⟨u, e⟩ := Option.isSome_iff_exists.mp h
  exact List.getElem?_append_left (List.getElem?_eq_some_iff.mp e).1
theorem glen {M : Mem} {i : Nat} {o : Own} : (M.set i o).length = M.length := List.length_set
theorem setL_last {xs : List D} {a d : D} : gSetL (.lst (xs ++ [a])) (.int (-1)) d = some (.lst (xs ++ [d])) := by
  have e : L2.ixN (xs ++ [a]).length (-1) = some xs.length := by
    unfold L2.ixN
    have h2 : -(((xs ++ [a]).length : Nat) : Int) ≤ -1 := by simp; omega
    rw [if_neg (by decide), if_pos h2]
    have : (-1 + (((xs ++ [a]).length : Nat) : Int)).toNat = xs.length := by simp; omega
    rw [this]
  simp only [gSetL, e]
  rw [List.set_append_right _ _ (Nat.le_refl _)]
  simp
theorem cells_rangeN {ns : List Int} {δ : FL.Loc} {μ : Mem} {f : TgF} {m : MS} {P : FL.Loc → Mem → Prop} {N : Int} (hN : 1 ≤ N) (hN2 : N ≤ 1000) (h0 : δ[0]? = some (some (.fr (.ro (ns.map .int)))))
    (h : ∀ K : Int, 1 ≤ K → K ≤ N → Nx (forD (turnD f m) (rangeD 0 K.toNat) δ μ) P) : Nx (mFor (mRange1 (.e (mC gMax2 [(.e (mD (.int 1))), (.e (mC gMin2 [(.e (mD (.int N))), (.e (mC gLen [(.v 0)]))]))]))) f m δ μ) P := by
  have hb : 1 ≤ (if 1 < (if (ns.length : Int) < N then (ns.length : Int) else N) then (if (ns.length : Int) < N then (ns.length : Int) else N) else 1) ∧ (if 1 < (if (ns.length : Int) < N then (ns.length : Int) else N) then (if (ns.length : Int) < N then (ns.length : Int) else N) else 1) ≤ N := by
    by_cases h4 : (ns.length : Int) < N
    · rw [if_pos h4]; split <;> omega
    · rw [if_neg h4]; split <;> omega
  have e : ∀ n : Int, mC gMin2 [(.e (mD (.int N))), (.e (mC gLen [(.v 0)]))] δ μ = .ok (.fr (.int (if (ns.length : Int) < N then (ns.length : Int) else N))) δ μ := fun n => by
    simp only [ev_C, ev_evs1, ev_evs0, ev_e, ev_D, ev_b1, ev_v, h0, ev_ats1, ev_ats0, ev_at2, ev_at1, ev_dfr, ev_lk8, ev_lk2, ev_lenR, List.length_map, ev_lift1, ev_min2]
  have e := e 0
  generalize (if (ns.length : Int) < N then (ns.length : Int) else N) = L at e hb
  have e2 : mC gMax2 [(.e (mD (.int 1))), (.e (mC gMin2 [(.e (mD (.int N))), (.e (mC gLen [(.v 0)]))]))] δ μ = .ok (.fr (.int (if 1 < L then L else 1))) δ μ := by
    rw [ev_C, ev_evs1, ev_e, ev_D, ev_b1, ev_b1, ev_evs1, ev_e, e]
    rfl
  generalize (if 1 < L then L else 1) = K at e2 hb
  have := h K hb.1 hb.2
  have e3 : mRange1 (.e (mC gMax2 [(.e (mD (.int 1))), (.e (mC gMin2 [(.e (mD (.int N))), (.e (mC gLen [(.v 0)]))]))])) δ μ = .ok (rangeD 0 K.toNat) δ μ := by
    rw [ev_R1, ev_evs1, ev_e, e2]
    exact r1K_ok (by omega) (by omega)
  rw [ev_For, e3, ev_t1]
  exact this
end FL
namespace L35
open PySem L2 FL
structure Sg where
  r : Nat
  rows : List (Nat × Nat)
  o : Bool
abbrev rw0 (p : Nat × Nat) : D := .tup [.str [p.1], .int p.2]
abbrev plD (q : Sg) : D := .tup [.obj q.r, .bl q.o]
abbrev numd (lv : List (DK × D)) (q : Sg) : Nat := (q.rows.filter fun p => isNum lv p.1 p.2).length
def rowN (lv : List (DK × D)) (q : Sg) : D := .tup [.int (numd lv q), .int ((q.rows.length : Int) - numd lv q), .bl q.o]
theorem fm_filter {α β : Type} (p : α → Bool) (g : α → β) : ∀ l : List α, l.filterMap (fun a => if p a = true then some (g a) else none) = (l.filter p).map g
  | [] => rfl
  | a :: l => by cases h : p a <;> simp [h, fm_filter p g l]
theorem seg_turn {l : Nat} {lv : List (DK × D)} {μ : Mem} {x0 x3 x4 x5 : Option FL.Slot} {acc : List D} {q : Sg} (hl : μ[l]? = some (.dct (lv.map (·.1)) (lv.map (·.2)))) (hq : μ[q.r]? = some (.lst (q.rows.map rw0))) (hn : q.rows.length < 1000) (ha : acc.length < 1000)
    (h : ∀ p ∈ q.rows, getA lv (.s [p.1]) = none ∨ ∃ m, getA lv (.s [p.1]) = some (.int m)) :
    ∃ y3 y4 y5, (turnD (tgT 2 (tgC (tgV 3) (tgC (tgV 4) tgN))) f3__law_segmented) (plD q) [x0, some (.fr (.obj l)), some (.own (.lst acc)), x3, x4, x5, none, none] μ
      = .nx [x0, some (.fr (.obj l)), some (.own (.lst (acc ++ [rowN lv q]))), y3, y4, y5, none, none] μ := by
  let δ0 : FL.Loc := [x0, some (.fr (.obj l)), some (.own (.lst acc)), some (.fr (.obj q.r)), some (.fr (.bl q.o)), x5, none, none]
  let g : D → Option D := fun d => match d with
    | .tup [.str [c], .int n] => if isNum lv c n = true then some (.int 1) else none
    | _ => none
  have e := lcM_pure (f := tgT 2 (tgC (tgV 6) (tgC (tgV 7) tgN))) (t := t1__law_segmented) (m := e2__law_segmented) (vs := [6, 7]) (δ := δ0) g (mem_lstAt hq) (fun d hd => by
    obtain ⟨p, hp, rfl⟩ := List.mem_map.mp hd
    have t := num_t (x0 := x0) (x2 := some (.own (.lst acc))) (x3 := some (.fr (.obj q.r))) (x4 := some (.fr (.bl q.o))) (x5 := x5) (n := p.2) hl (h p hp)
    cases e1 : isNum lv p.1 p.2 with
    | false => rw [e1] at t; simp [lc1, δ0, t, g, e1]
    | true => rw [e1] at t; simp [lc1, δ0, t, g, e1, e2__law_segmented]) (by simp; omega)
  have e1 : (q.rows.map rw0).filterMap g = (q.rows.filter fun p => isNum lv p.1 p.2).map fun _ => .int 1 := by
    rw [List.filterMap_map, ← fm_filter]
    rfl
  rw [e1] at e
  have e2 : ∀ ys : List D, gLen [.lst ys] = some (.fr (.int ys.length)) := fun ys => by simp [gLen, gLen1]
  have e3 : ∀ i j : Int, FL.gSub (.int i) (.int j) = some (.fr (.int (i - j))) := fun i j => by simp [FL.gSub]
  have ha' : acc.length < 16777216 := by omega
  have hq' := mem_lstAt hq
  refine ⟨some (.fr (.obj q.r)), some (.fr (.bl q.o)), some (.fr (.int (numd lv q))), ?_⟩
  unfold f3__law_segmented
  simp only [List.length_map] at e
  simp [turnD, tgT, tgC, tgN, hq, hq', e, e2, e3, rowN, numd, gAppend, recv, ownTy, ha', δ0]
theorem segmented_ok {p l : Nat} {lv : List (DK × D)} {μ : Mem} {segs : List Sg} (hl : μ[l]? = some (.dct (lv.map (·.1)) (lv.map (·.2)))) (hp : μ[p]? = some (.lst (segs.map plD))) (hq : ∀ q ∈ segs, μ[q.r]? = some (.lst (q.rows.map rw0)))
    (hn : ∀ q ∈ segs, q.rows.length < 1000) (hs : segs.length < 1000) (h : ∀ q ∈ segs, ∀ p ∈ q.rows, getA lv (.s [p.1]) = none ∨ ∃ m, getA lv (.s [p.1]) = some (.int m)) :
    m__law_segmented [.obj p, .obj l] μ = .ok (.fr (.tup (segs.map (rowN lv)))) μ := by
  have hk := mem_lstAt hp
  obtain ⟨δ', μ', e, ⟨x3, x4, x5, rfl⟩, rfl⟩ := forM_inv (g := turnD (tgT 2 (tgC (tgV 3) (tgC (tgV 4) tgN))) f3__law_segmented) (k := p) (xs := segs.map plD)
    (J := fun i δ μ' => (∃ x3 x4 x5, δ = [some (.fr (.obj p)), some (.fr (.obj l)), some (.own (.lst ((segs.take i).map (rowN lv)))), x3, x4, x5, none, none]) ∧ μ' = μ) (fun i δ μ' h => by rw [h.2]; exact hk)
    (fun i d δ μ' hd ⟨⟨x3, x4, x5, e1⟩, e2⟩ => by
      subst e1 e2
      rw [List.getElem?_map] at hd
      cases hq' : segs[i]? with
      | none => rw [hq'] at hd; cases hd
      | some q =>
        rw [hq'] at hd
        cases hd
        have hm : q ∈ segs := List.mem_of_getElem? hq'
        obtain ⟨y3, y4, y5, e⟩ := seg_turn (x0 := some (.fr (.obj p))) (x3 := x3) (x4 := x4) (x5 := x5) (acc := (segs.take i).map (rowN lv)) hl (hq q hm) (hn q hm) (by simp; omega) (h q hm)
        refine ⟨_, _, e, ⟨y3, y4, y5, ?_⟩, rfl⟩
        rw [List.take_succ, hq']
        simp) segs.length 0 [some (.fr (.obj p)), some (.fr (.obj l)), some (.own (.lst [])), none, none, none, none, none] μ (by simp) ⟨⟨none, none, none, by simp⟩, rfl⟩
  rw [show m__law_segmented = mFn 8 b__law_segmented from rfl, ev_Fn]
  unfold b__law_segmented
  simp only [List.length_map, List.drop_zero, List.take_length] at e
  simp [startD, hk, e, List.replicate]
end L35
namespace L35
open PySem L2 FL
abbrev lvD (live : List (Nat × Nat)) : List (DK × D) := live.map fun q => (.s [q.1], .int (q.2 : Nat))
abbrev kdD (e : Nat → Nat) (live : List (Nat × Nat)) : List (DK × D) := live.map fun q => (.s [q.1], .obj (e q.2))
abbrev pcs (e : Nat → Nat) (segs : List Sg) : List Pc := segs.map fun s => (s.rows.map fun q => (q.1, e q.2), s.o)
abbrev boxK : List DK := [.s (lit "pieces"), .s (lit "live"), .s (lit "many")]
abbrev IsEnt (μ : Mem) (i c : Nat) : Prop := ∃ kdE d w, μ[i]? = some (.ins "Entry" kdE ksE [.str [c], d, w])
def putL (live : List (Nat × Nat)) (c n : Nat) : List (Nat × Nat) := if (live.any fun q => decide (q.1 = c)) = true then live.map (fun q => if q.1 = c then (c, n) else q) else live ++ [(c, n)]
def dropL (live : List (Nat × Nat)) (c : Nat) : List (Nat × Nat) := live.filter fun q => decide (q.1 ≠ c)
section
variable {live : List (Nat × Nat)} {c n : Nat} {f : Nat × Nat → D}
theorem keyEq {a b : Nat} : (decide ((DK.s [a]) = DK.s [b])) = decide (a = b) := by
  by_cases h : a = b
  · subst h; simp
  · have : ¬ (DK.s [a]) = DK.s [b] := fun z => h (by cases z; rfl)
    simp [h]
theorem getA_mk : getA (live.map fun q => ((.s [q.1] : DK), f q)) (.s [c]) = (live.find? fun q => decide (q.1 = c)).map f := by
  unfold getA
  rw [List.find?_map]
  have : ((fun p : DK × D => decide (p.1 = .s [c])) ∘ fun q : Nat × Nat => ((.s [q.1] : DK), f q)) = fun q => decide (q.1 = c) := by
    funext q
    exact keyEq
  rw [this, Option.map_map]
  rfl
theorem dropA_mk : dropA (live.map fun q => ((.s [q.1] : DK), f q)) (.s [c]) = (dropL live c).map fun q => ((.s [q.1] : DK), f q) := by
  unfold dropA dropL
  rw [List.filter_map]
  congr 1
  apply List.filter_congr
  intro q _
  show decide ((DK.s [q.1]) ≠ .s [c]) = decide (q.1 ≠ c)
  have := keyEq (a := q.1) (b := c)
  by_cases h : q.1 = c
  · simp [h]
  · simp [h]
theorem putA_mk {d : D} (hd : f (c, n) = d) : putA (live.map fun q => ((.s [q.1] : DK), f q)) (.s [c]) d = (putL live c n).map fun q => ((.s [q.1] : DK), f q) := by
  unfold putA putL
  have e1 : ((live.map fun q => ((.s [q.1] : DK), f q)).any fun p => decide (p.1 = .s [c])) = live.any fun q => decide (q.1 = c) := by
    rw [List.any_map]
    congr 1
    funext q
    exact keyEq
  rw [e1]
  by_cases h : (live.any fun q => decide (q.1 = c)) = true
  · rw [if_pos h, if_pos h, List.map_map, List.map_map]
    apply List.map_congr_left
    intro q _
    by_cases hq : q.1 = c
    · simp [hq, hd]
    · have : ¬ (DK.s [q.1]) = DK.s [c] := fun z => hq (by cases z; rfl)
      simp [hq, this]
  · rw [if_neg h, if_neg h, List.map_append]
    simp [hd]
theorem mem_putL {q : Nat × Nat} (h : q ∈ putL live c n) : q = (c, n) ∨ q ∈ live := by
  unfold putL at h
  split at h
  · obtain ⟨p, hp, e⟩ := List.mem_map.mp h
    by_cases hc : p.1 = c
    · rw [if_pos hc] at e; exact .inl e.symm
    · rw [if_neg hc] at e; subst e; exact .inr hp
  · rcases List.mem_append.mp h with h | h
    · exact .inr h
    · exact .inl (by simpa using h)
theorem putL_keys (h : (live.any fun q => decide (q.1 = c)) = true) : (putL live c n).map (·.1) = live.map (·.1) := by
  unfold putL
  rw [if_pos h, List.map_map]
  apply List.map_congr_left
  intro q _
  by_cases hc : q.1 = c <;> simp [hc]
theorem putL_nod (h : (live.map (·.1)).Nodup) : ((putL live c n).map (·.1)).Nodup := by
  by_cases ha : (live.any fun q => decide (q.1 = c)) = true
  · rw [putL_keys ha]; exact h
  · unfold putL
    rw [if_neg ha, List.map_append, List.nodup_append]
    refine ⟨h, by simp, fun a h1 b h2 e => ?_⟩
    have : b = c := by simpa using h2
    subst this
    subst e
    obtain ⟨q, hq, rfl⟩ := List.mem_map.mp h1
    exact ha (List.any_eq_true.mpr ⟨q, hq, by simp⟩)
theorem putL_len : (putL live c n).length ≤ live.length + 1 := by
  unfold putL
  split <;> simp
theorem dropL_nod (h : (live.map (·.1)).Nodup) : ((dropL live c).map (·.1)).Nodup := h.sublist (List.Sublist.map _ List.filter_sublist)
end
theorem i20 {x y : D} : L2.atI [x, y] 0 = some x := rfl
theorem i1l {x : D} : L2.atI [x] (-1) = some x := rfl
theorem i21 {x y : D} : L2.atI [x, y] 1 = some y := rfl
section
variable {b p l r m : Nat} {segs ps : List Sg} {xs rows : List D} {lv : List (DK × D)} {μ : Mem} {c : Nat}
abbrev box (p l : Nat) (m : Nat) : Own := .dct boxK [.obj p, .obj l, .int m]
theorem getP {x : D} : gGetD (.dct boxK [.obj p, .obj l, x]) (.str (lit "pieces")) = some (.fr (.obj p)) := by rfl
theorem getL {x : D} : gGetD (.dct boxK [.obj p, .obj l, x]) (.str (lit "live")) = some (.fr (.obj l)) := by rfl
theorem getMn {x : D} : gGetD (.dct boxK [.obj p, .obj l, x]) (.str (lit "many")) = some (.fr x) := by rfl
theorem setMn {x : D} : gSetD (.dct boxK [.obj p, .obj l, .int m]) (.str (lit "many")) x = some (.dct boxK [.obj p, .obj l, x]) := by rfl
theorem setLv {x : D} (h : lv.length < 16777216) : gSetD (.dct (lv.map (·.1)) (lv.map (·.2))) (.str [c]) x = some (dctO (putA lv (.s [c]) x)) := by
  simp [gSetD, dkey, zipK, h]
theorem lflush0 (hb : μ[b]? = some (box p l m)) (hp : μ[p]? = some (.lst [])) : m__law_segment_flush [.obj b] μ = .ok (.fr .non) μ := by
  rw [show m__law_segment_flush = mFn 1 b__law_segment_flush from rfl, ev_Fn]
  unfold b__law_segment_flush
  simp [startD, hb, hp, getP, eqN_nl]
theorem lflush1 (hb : μ[b]? = some (box p l m)) (hp : μ[p]? = some (.lst (xs ++ [.tup [.obj r, .bl false]]))) : m__law_segment_flush [.obj b] μ = .ok (.fr .non) μ := by
  rw [show m__law_segment_flush = mFn 1 b__law_segment_flush from rfl, ev_Fn]
  unfold b__law_segment_flush
  simp [startD, hb, hp, getP, eqN_nl, FL.atI_last, box, i1l, i20, i21, Int.natCast_add]
theorem lflush2 (hb : μ[b]? = some (box p l m)) (hp : μ[p]? = some (.lst (xs ++ [.tup [.obj r, .bl true]]))) (hl : xs.length < 1000) : m__law_segment_flush [.obj b] μ = .ok (.fr .non) (μ.set p (.lst (xs ++ [.tup [.obj r, .bl false]]))) := by
  have e := setL_last (xs := xs) (a := .tup [.obj r, .bl true]) (d := .tup [.obj r, .bl false])
  rw [show m__law_segment_flush = mFn 1 b__law_segment_flush from rfl, ev_Fn]
  unfold b__law_segment_flush
  simp [startD, hb, hp, getP, eqN_nl, FL.atI_last, box, i1l, i20, i21, Int.natCast_add, e]
theorem lput1 (hb : μ[b]? = some (box p l m)) (hp : μ[p]? = some (.lst (xs ++ [.tup [.obj r, .bl true]]))) (hr : μ[r]? = some (.lst rows)) (hl : μ[l]? = some (.dct (lv.map (·.1)) (lv.map (·.2)))) (hn : rows.length < 1000) (hv : lv.length < 1000)
    (e1 : b ≠ p) (e2 : b ≠ r) (e3 : b ≠ l) (e4 : r ≠ p) (e5 : r ≠ l) (e6 : p ≠ l) :
    m__law_segment_put [.obj b, .str [c]] μ = .ok (.fr .non) (((μ.set b (box p l (m + 1))).set r (.lst (rows ++ [.tup [.str [c], .int (m + 1 : Nat)]]))).set l (dctO (putA lv (.s [c]) (.int (m + 1 : Nat))))) := by
  have h1 : rows.length < 16777216 := by omega
  have h2 : lv.length < 16777216 := by omega
  rw [show m__law_segment_put = mFn 2 b__law_segment_put from rfl, ev_Fn]
  unfold b__law_segment_put
  simp [startD, hb, hp, hr, hl, getP, getL, getMn, setMn, eqN_nl, FL.atI_last, box, i1l, i20, i21, Int.natCast_add, gset_self, gset_ne, e1, e2, e3, e4, e5, e6, Ne.symm e1, Ne.symm e2, Ne.symm e3, Ne.symm e4, Ne.symm e5, Ne.symm e6, gAppend, h1, h2, setLv h2]
theorem lput0 (hb : μ[b]? = some (box p l m)) (hp : μ[p]? = some (.lst xs)) (hx : xs = [] ∨ ∃ ys r, xs = ys ++ [.tup [.obj r, .bl false]]) (hl : μ[l]? = some (.dct (lv.map (·.1)) (lv.map (·.2)))) (hn : xs.length < 1000) (hv : lv.length < 1000)
    (e1 : b ≠ p) (e3 : b ≠ l) (e6 : p ≠ l) :
    m__law_segment_put [.obj b, .str [c]] μ = .ok (.fr .non) (((((μ ++ [Own.lst []]).set p (Own.lst (xs ++ [D.tup [.obj μ.length, .bl true]]))).set b (box p l (m + 1))).set μ.length (.lst [.tup [.str [c], .int (m + 1 : Nat)]])).set l (dctO (putA lv (.s [c]) (.int (m + 1 : Nat))))) := by
  have h1 : xs.length < 16777216 := by omega
  have h2 : lv.length < 16777216 := by omega
  have l1 : ∀ {i : Nat} {o : Own}, μ[i]? = some o → i ≠ μ.length := fun h => Nat.ne_of_lt (List.getElem?_eq_some_iff.mp h).1
  have n1 := l1 hb
  have n2 := l1 hp
  have n3 := l1 hl
  have n4 : (μ ++ [Own.lst []])[μ.length]? = some (.lst []) := by simp
  rw [show m__law_segment_put = mFn 2 b__law_segment_put from rfl, ev_Fn]
  unfold b__law_segment_put
  generalize hM : μ ++ [Own.lst []] = M at *
  have hb' : M[b]? = some (box p l m) := by rw [← hM, gapp (by simp [hb])]; exact hb
  have hp' : M[p]? = some (.lst xs) := by rw [← hM, gapp (by simp [hp])]; exact hp
  have hl' : M[l]? = some (.dct (lv.map (·.1)) (lv.map (·.2))) := by rw [← hM, gapp (by simp [hl])]; exact hl
  rcases hx with rfl | ⟨ys, r, rfl⟩
  · simp [startD, hb, hp, hl, hb', hp', hl', hM, n4, getP, getL, getMn, setMn, eqN_nl, FL.atI_last, box, i1l, i20, i21, Int.natCast_add, gset_self, gset_ne, e1, e3, e6, n1, n2, n3, Ne.symm n1, Ne.symm n2, Ne.symm n3, Ne.symm e1, Ne.symm e3, Ne.symm e6, gAppend, h1, h2, setLv h2]
  · have h3 : ys.length + 1 < 16777216 := by simpa using h1
    have h4 : ys.length ≤ 16777214 := by omega
    have h5 := FL.atI_last (ys ++ [D.tup [.obj r, .bl false]]) (D.tup [.obj μ.length, .bl true])
    have h5' : L2.atI (ys ++ [D.tup [.obj r, .bl false], .tup [.obj μ.length, .bl true]]) (-1) = some (.tup [.obj μ.length, .bl true]) := by simpa using h5
    simp [startD, hb, hp, hl, hb', hp', hl', hM, n4, getP, getL, getMn, setMn, eqN_nl, FL.atI_last, box, i1l, i20, i21, Int.natCast_add, gset_self, gset_ne, e1, e3, e6, n1, n2, n3, Ne.symm n1, Ne.symm n2, Ne.symm n3, Ne.symm e1, Ne.symm e3, Ne.symm e6, gAppend, h1, h2, h3, h4, h5', setLv h2]
end
end L35
namespace L35
open PySem L2 FL
structure Sx where
  dr : Nat
  ix : Nat
  kd : Nat
  b : Nat
  p : Nat
  l : Nat
  segs : List Sg
  live : List (Nat × Nat)
  many : Nat
  e : Nat → Nat
structure Sm (S S' : Sx) : Prop where
  dr : S'.dr = S.dr
  ix : S'.ix = S.ix
  b : S'.b = S.b
structure OK (S : Sx) (t : Nat) (μ : Mem) : Prop where
  hx : μ[S.ix]? = some (idx S1 (kpD (kdD S.e S.live)) S.kd ((pcs S.e S.segs).map pcD))
  hb : μ[S.b]? = some (box S.p S.l S.many)
  hp : μ[S.p]? = some (.lst (S.segs.map plD))
  hl : μ[S.l]? = some (.dct ((lvD S.live).map (·.1)) ((lvD S.live).map (·.2)))
  hd : ∃ xs, μ[S.dr]? = some (.lst xs)
  hr : ∀ s ∈ S.segs, μ[s.r]? = some (.lst (s.rows.map rw0))
  ent : ∀ s ∈ S.segs, ∀ q ∈ s.rows, 1 ≤ q.2 ∧ q.2 ≤ S.many ∧ IsEnt μ (S.e q.2) q.1
  lv : ∀ q ∈ S.live, 1 ≤ q.2 ∧ q.2 ≤ S.many ∧ IsEnt μ (S.e q.2) q.1
  inj : ∀ i j, 1 ≤ i → i ≤ S.many → 1 ≤ j → j ≤ S.many → S.e i = S.e j → i = j
  elt : ∀ i, 1 ≤ i → i ≤ S.many → S.e i < μ.length
  nod : (S.live.map (·.1)).Nodup
  nr : (S.p :: S.dr :: S.segs.map (·.r)).Nodup
  cl : ∀ s ∈ S.segs.dropLast, s.o = false
  n1 : S.segs.length ≤ t
  n2 : ∀ s ∈ S.segs, s.rows.length ≤ t
  n3 : S.live.length ≤ t
  n4 : S.many ≤ t
section
variable {S S' : Sx} {t : Nat} {μ μ' : Mem} {A : List Nat}
theorem OK.r_ne (h : OK S t μ) {s : Sg} (hs : s ∈ S.segs) : s.r ≠ S.p ∧ s.r ≠ S.dr := by
  have := h.nr
  simp only [List.nodup_cons, List.mem_cons, List.mem_map] at this
  exact ⟨fun e => this.1 (.inr ⟨s, hs, e⟩), fun e => this.2.1 ⟨s, hs, e⟩⟩
theorem OK.p_dr (h : OK S t μ) : S.p ≠ S.dr := by
  have := h.nr
  simp only [List.nodup_cons, List.mem_cons] at this
  exact fun e => this.1 (.inl e)
theorem OK.mono (h : OK S t μ) {u : Nat} (hu : t ≤ u) : OK S u μ :=
  { h with n1 := Nat.le_trans h.n1 hu, n2 := fun s hs => Nat.le_trans (h.n2 s hs) hu, n3 := Nat.le_trans h.n3 hu, n4 := Nat.le_trans h.n4 hu }
theorem ent_agr {i c : Nat} (h : IsEnt μ i c) (a : Agr A μ μ') (n : i ∉ A) : IsEnt μ' i c := let ⟨k, d, w, e⟩ := h; ⟨k, d, w, a.at_ _ _ e n⟩
theorem ent_ne {i j c : Nat} {o : Own} (h : IsEnt μ i c) (e : μ[j]? = some o) (no : ∀ kd ks vs, o ≠ .ins "Entry" kd ks vs) : i ≠ j := by
  obtain ⟨k, d, w, e1⟩ := h
  exact ne_of e1 e (fun z => no _ _ _ z.symm)
theorem OK.fr (h : OK S t μ) (f : Fr S.dr μ μ') (hs : ∃ xs, μ'[S.dr]? = some (.lst xs)) : OK S t μ' := by
  obtain ⟨xs, hxs⟩ := h.hd
  have a := Agr.fr f
  have hne : ∀ {i c : Nat}, IsEnt μ i c → IsEnt μ' i c := fun z => ent_agr z a (by simpa using ent_ne z hxs (fun _ _ _ => by simp))
  exact { h with
    hx := a.at_ _ _ h.hx (by simpa using ne_of h.hx hxs (by simp))
    hb := a.at_ _ _ h.hb (by simpa using ne_of h.hb hxs (by simp))
    hp := a.at_ _ _ h.hp (by simpa using h.p_dr)
    hl := a.at_ _ _ h.hl (by simpa using ne_of h.hl hxs (by simp))
    hd := hs
    hr := fun s z => a.at_ _ _ (h.hr s z) (by simpa using (h.r_ne z).2)
    ent := fun s z q w => let ⟨x, y, e⟩ := h.ent s z q w; ⟨x, y, hne e⟩
    lv := fun q w => let ⟨x, y, e⟩ := h.lv q w; ⟨x, y, hne e⟩
    elt := fun i x y => Nat.lt_of_lt_of_le (h.elt i x y) a.len }
theorem OK.kept (h : OK S t μ) (c : Nat) : getA (kdD S.e S.live) (.s [c]) = none ∨ ∃ j kd' ks' vs', getA (kdD S.e S.live) (.s [c]) = some (.obj j) ∧ μ[j]? = some (.ins "Entry" kd' ks' vs') := by
  rw [getA_mk]
  cases e : S.live.find? fun q => decide (q.1 = c) with
  | none => exact .inl rfl
  | some q =>
    obtain ⟨_, _, k, d, w, e1⟩ := h.lv q (List.mem_of_find?_eq_some e)
    exact .inr ⟨_, _, _, _, rfl, e1⟩
theorem live_num (h : OK S t μ) {c n : Nat} (h1 : 1 ≤ n) (h2 : n ≤ S.many) : isLive (kdD S.e S.live) c (S.e n) = isNum (lvD S.live) c (n : Nat) := by
  unfold isLive isNum
  rw [getA_mk, getA_mk]
  cases e : S.live.find? fun q => decide (q.1 = c) with
  | none =>
    have : ¬ ((-1 : Int) = (n : Int)) := by omega
    simp [this]
  | some q =>
    obtain ⟨a1, a2, _⟩ := h.lv q (List.mem_of_find?_eq_some e)
    by_cases hq : q.2 = n
    · simp [hq]
    · have h3 : ¬ S.e q.2 = S.e n := fun z => hq (h.inj _ _ a1 a2 h1 h2 z)
      have h4 : ¬ ((q.2 : Int) = (n : Int)) := by omega
      simp [h3, h4]
theorem row_same (h : OK S t μ) {s : Sg} (hs : s ∈ S.segs) : rowD (kdD S.e S.live) (s.rows.map fun q => (q.1, S.e q.2)) s.o = rowN (lvD S.live) s := by
  have e : ((s.rows.map fun q => (q.1, S.e q.2)).filter fun p => isLive (kdD S.e S.live) p.1 p.2).length = numd (lvD S.live) s := by
    rw [List.filter_map, List.length_map]
    congr 1
    apply List.filter_congr
    intro q hq
    obtain ⟨a1, a2, _⟩ := h.ent s hs q hq
    exact live_num h a1 a2
  unfold rowD rowN
  rw [e, List.length_map]
abbrev told (S : Sx) : List D := S.segs.map (rowN (lvD S.live))
theorem OK.segs (h : OK S t μ) (ht : t < 1000) : m_Index_segments [.obj S.ix] μ = .ok (.fr (.tup (told S))) μ := by
  have e := segs_ok h.hx (fun q hq => by
    obtain ⟨s, hs, rfl⟩ := List.mem_map.mp hq
    refine ⟨by simp; exact Nat.lt_of_le_of_lt (h.n2 s hs) ht, fun p hp => ?_⟩
    obtain ⟨q, hq2, rfl⟩ := List.mem_map.mp hp
    exact ⟨(h.ent s hs q hq2).2.2, h.kept q.1⟩) (by simp; exact Nat.lt_of_le_of_lt h.n1 ht)
  rw [e, List.map_map]
  congr 3
  apply List.map_congr_left
  intro s hs
  exact row_same h hs
theorem OK.numb (h : OK S t μ) (c : Nat) : getA (lvD S.live) (.s [c]) = none ∨ ∃ m, getA (lvD S.live) (.s [c]) = some (.int m) := by
  rw [getA_mk]
  cases e : S.live.find? fun q => decide (q.1 = c) with
  | none => exact .inl rfl
  | some q => exact .inr ⟨_, rfl⟩
theorem OK.lsegs (h : OK S t μ) (ht : t < 1000) : m__law_segmented [.obj S.p, .obj S.l] μ = .ok (.fr (.tup (told S))) μ :=
  segmented_ok h.hl h.hp h.hr (fun q hq => Nat.lt_of_le_of_lt (h.n2 q hq) ht) (Nat.lt_of_le_of_lt h.n1 ht) (fun q hq p hp => h.numb p.1)
theorem told_same {S : Sx} (neg : Bool) : gEq neg (.tup (told S)) (.tup (told S)) = some (FL.tb (true != neg)) := by
  refine Lay.same (d := 2) neg (Lay.tup fun x hx => ?_) (by decide) (by rfl)
  obtain ⟨s, hs, rfl⟩ := List.mem_map.mp hx
  refine (Lay.tup (d := 0) fun y hy => ?_)
  simp only [List.mem_cons, List.not_mem_nil, or_false] at hy
  rcases hy with rfl | rfl | rfl
  · exact Lay.int
  · exact Lay.int
  · exact Lay.bl
theorem OK.size (h : OK S t μ) : m_View_size [.obj S.ix] μ = .ok (.fr (.int S.live.length)) μ := by
  rw [size_ok h.hx, List.length_map]
end
end L35
namespace L35
open PySem L2 FL
section
variable {S S' : Sx} {t : Nat} {μ μ' : Mem} {A : List Nat} {c : Nat}
theorem lowbs_obs {k : Nat} : ∀ {l : List (Nat × Nat)}, (∀ q ∈ l, q.2 < k) → D.lowbs k (obs l) = true
  | [], _ => by simp
  | q :: l, h => by
    have h1 := h q List.mem_cons_self
    have h2 := lowbs_obs (l := l) fun p hp => h p (List.mem_cons_of_mem _ hp)
    simp [obs] at h2 ⊢
    exact ⟨by simpa [D.lowb] using h1, h2⟩
theorem last_of {α : Type} (l : List α) : l = [] ∨ ∃ xs x, l = xs ++ [x] := by
  rcases l.eq_nil_or_concat with h | ⟨xs, x, h⟩
  · exact .inl h
  · exact .inr ⟨xs, x, by simpa using h⟩
theorem flush_all (h : OK S t μ) (ht : t < 900) : ∃ S' μ1 μ2, m_sr_flush [.obj S.ix] μ = .ok (.fr .non) μ1 ∧ m__law_segment_flush [.obj S.b] μ1 = .ok (.fr .non) μ2 ∧ OK S' t μ2 ∧ Sm S S' ∧ μ2[S.dr]? = μ[S.dr]? := by
  obtain ⟨dr, ix, kd, b, p, l, segs, live, many, e⟩ := S
  rcases last_of segs with rfl | ⟨ini, s, rfl⟩
  · exact ⟨_, μ, μ, flush0 h.hx, lflush0 h.hb h.hp, h, ⟨rfl, rfl, rfl⟩, rfl⟩
  · obtain ⟨r, rows, o⟩ := s
    have hx := h.hx
    have hp := h.hp
    simp only [pcs, List.map_append, List.map_cons, List.map_nil] at hx hp
    cases o with
    | false => exact ⟨_, μ, μ, flush1 hx, lflush1 h.hb hp, h, ⟨rfl, rfl, rfl⟩, rfl⟩
    | true =>
      have hlow : D.lowbs μ.length [.lst (obs (rows.map fun q => (q.1, e q.2))), .bl false] = true := by
        have : D.lowbs μ.length (obs (rows.map fun q => (q.1, e q.2))) = true := lowbs_obs fun q hq => by
          obtain ⟨q0, hq0, rfl⟩ := List.mem_map.mp hq
          obtain ⟨a1, a2, _⟩ := h.ent _ (List.mem_append_right _ List.mem_cons_self) q0 hq0
          exact h.elt _ a1 a2
        simp only [lb_cons, lb_lst, lb_bl, lb_nil, this, Bool.and_true]
      have n1 := h.n1
      simp only [List.length_append, List.length_singleton] at n1
      have f1 := flush2 hx hlow (by simp; omega)
      have hpx : p ≠ ix := ne_of hp hx (by simp)
      have hp1 : ∀ u, (μ.set ix u)[p]? = some (.lst (ini.map plD ++ [plD ⟨r, rows, true⟩])) := fun u => by
        rw [gset_ne (Ne.symm hpx)]; exact hp
      have hb1 : ∀ u, (μ.set ix u)[b]? = some (box p l many) := fun u => by
        rw [gset_ne (ne_of hx h.hb (by simp))]; exact h.hb
      have f2 := fun u => lflush2 (hb1 u) (hp1 u) (by simp; omega)
      obtain ⟨xs, hxs⟩ := h.hd
      have hdx : dr ≠ ix := ne_of hxs hx (by simp)
      have hdp : dr ≠ p := Ne.symm h.p_dr
      have ag : ∀ u u', Agr ([ix] ++ [p]) μ ((μ.set ix u).set p u') := fun u u' => Agr.set.trans Agr.set
      have hne : ∀ {i c : Nat} (u u' : Own), IsEnt μ i c → IsEnt ((μ.set ix u).set p u') i c := fun u u' z => ent_agr z (ag u u') (by
        simp only [List.cons_append, List.nil_append, List.mem_cons, List.not_mem_nil, or_false, not_or]
        exact ⟨ent_ne z hx (fun _ _ _ => by simp), ent_ne z hp (fun _ _ _ => by simp)⟩)
      refine ⟨⟨dr, ix, kd, b, p, l, ini ++ [⟨r, rows, false⟩], live, many, e⟩, _, _, f1, f2 _, ?_, ⟨rfl, rfl, rfl⟩, ?_⟩
      · have hseg : ∀ s ∈ ini ++ [⟨r, rows, false⟩], ∃ s0 ∈ ini ++ [⟨r, rows, true⟩], s0.r = s.r ∧ s0.rows = s.rows := fun s hs => by
          rcases List.mem_append.mp hs with hs | hs
          · exact ⟨s, List.mem_append_left _ hs, rfl, rfl⟩
          · have : s = ⟨r, rows, false⟩ := by simpa using hs
            subst this
            exact ⟨_, List.mem_append_right _ List.mem_cons_self, rfl, rfl⟩
        refine { hx := ?_, hb := ?_, hp := ?_, hl := ?_, hd := ?_, hr := ?_, ent := ?_, lv := ?_, inj := h.inj, elt := ?_, nod := h.nod, nr := ?_, cl := ?_, n1 := ?_, n2 := ?_, n3 := h.n3, n4 := h.n4 }
        · show ((μ.set ix _).set p _)[ix]? = _
          rw [gset_ne hpx, set_at hx]
          simp [pcs]
        · show ((μ.set ix _).set p _)[b]? = _
          rw [gset_ne (Ne.symm (ne_of h.hb hp (by simp)))]; exact hb1 _
        · show ((μ.set ix _).set p _)[p]? = _
          rw [set_at (hp1 _)]; simp
        · show ((μ.set ix _).set p _)[l]? = _
          rw [gset_ne (Ne.symm (ne_of h.hl hp (by simp))), gset_ne (Ne.symm (ne_of h.hl hx (by simp)))]; exact h.hl
        · exact ⟨xs, by
            show ((μ.set ix _).set p _)[dr]? = _
            rw [gset_ne (Ne.symm hdp), gset_ne (Ne.symm hdx)]; exact hxs⟩
        · intro s hs
          obtain ⟨s0, h0, e1, e2⟩ := hseg s hs
          have z := h.hr s0 h0
          rw [e1, e2] at z
          have z1 := (h.r_ne h0).1
          rw [e1] at z1
          rw [gset_ne (Ne.symm z1), gset_ne (Ne.symm (ne_of z hx (by simp)))]
          exact z
        · intro s hs q hq
          obtain ⟨s0, h0, e1, e2⟩ := hseg s hs
          obtain ⟨a1, a2, a3⟩ := h.ent s0 h0 q (by rw [e2]; exact hq)
          exact ⟨a1, a2, hne _ _ a3⟩
        · intro q hq
          obtain ⟨a1, a2, a3⟩ := h.lv q hq
          exact ⟨a1, a2, hne _ _ a3⟩
        · intro i a1 a2
          exact Nat.lt_of_lt_of_le (h.elt i a1 a2) (ag _ _).len
        · have := h.nr
          simpa using this
        · have := h.cl
          simpa using this
        · simpa using h.n1
        · intro s hs
          obtain ⟨s0, h0, e1, e2⟩ := hseg s hs
          rw [← e2]; exact h.n2 s0 h0
      · show ((μ.set ix _).set p _)[dr]? = μ[dr]?
        rw [gset_ne (Ne.symm hdp), gset_ne (Ne.symm hdx)]
theorem del_all (h : OK S t μ) (ht : t < 400) (hc : c ∈ lit "klmo") (hi : (S.live.any fun q => decide (q.1 = c)) = true) :
    ∃ S' μ1, m_sr_delete [.obj S.ix, .str [c]] μ = .ok (.fr .non) μ1 ∧ μ1[S.b]? = some (box S.p S.l S.many) ∧ μ1[S.l]? = some (.dct ((lvD S.live).map (·.1)) ((lvD S.live).map (·.2))) ∧
      OK S' t (μ1.set S.l (dctO (dropA (lvD S.live) (.s [c])))) ∧ Sm S S' ∧ (μ1.set S.l (dctO (dropA (lvD S.live) (.s [c]))))[S.dr]? = μ[S.dr]? := by
  obtain ⟨dr, ix, kd, b, p, l, segs, live, many, e⟩ := S
  have hsome : (getA (kdD e live) (.s [c])).isSome = true := by
    rw [getA_mk]
    obtain ⟨q, hq, hq2⟩ := List.any_eq_true.mp hi
    cases ef : live.find? fun q => decide (q.1 = c) with
    | none => exact absurd hq2 (by simpa using List.find?_eq_none.mp ef q hq)
    | some q => rfl
  have nodk : ((kdD e live).map (·.1)).Nodup := by
    rw [List.map_map]
    have : ((fun (p : DK × D) => p.1) ∘ fun q : Nat × Nat => ((.s [q.1] : DK), D.obj (e q.2))) = fun q => DK.s [q.1] := rfl
    rw [this]
    have h2 : (fun q : Nat × Nat => DK.s [q.1]) = (fun a : Nat => DK.s [a]) ∘ (·.1) := rfl
    rw [h2, ← List.map_map]
    exact List.Pairwise.map _ (fun a b hab z => hab (by cases z; rfl)) h.nod
  have hn3 : live.length ≤ t := h.n3
  have d1 := del_ok hc h.hx (fun p hp => by obtain ⟨q, _, rfl⟩ := List.mem_map.mp hp; exact ⟨_, rfl⟩) nodk (by simp; omega) hsome
  have hlx : l ≠ ix := ne_of h.hl h.hx (by simp)
  have hbx : b ≠ ix := ne_of h.hb h.hx (by simp)
  obtain ⟨xs, hxs⟩ := h.hd
  have hdx : dr ≠ ix := ne_of hxs h.hx (by simp)
  have hdl : dr ≠ l := ne_of hxs h.hl (by simp)
  have hf : (kdD e live).filter (fun p => decide (p.1 ≠ .s [c])) = kdD e (dropL live c) := dropA_mk
  have hg : dropA (lvD live) (.s [c]) = lvD (dropL live c) := dropA_mk
  simp only at d1 ⊢
  rw [hf] at d1
  rw [hg]
  have hl1 : (μ.set ix (idx S1 (kpD (kdD e (dropL live c))) kd ((pcs e segs).map pcD)))[l]? = some (.dct ((lvD live).map (·.1)) ((lvD live).map (·.2))) := by
    rw [gset_ne (Ne.symm hlx)]; exact h.hl
  have ag := (Agr.set (μ := μ) (i := ix) (o := idx S1 (kpD (kdD e (dropL live c))) kd ((pcs e segs).map pcD))).trans
    (Agr.set (i := l) (o := dctO (lvD (dropL live c))))
  have hne : ∀ {i c : Nat}, IsEnt μ i c → IsEnt _ i c := fun z => ent_agr z ag (by
    simp only [List.cons_append, List.nil_append, List.mem_cons, List.not_mem_nil, or_false, not_or]
    exact ⟨ent_ne z h.hx (fun _ _ _ => by simp), ent_ne z h.hl (fun _ _ _ => by simp)⟩)
  have hsub : ∀ q ∈ dropL live c, q ∈ live := fun q hq => (List.mem_filter.mp hq).1
  have hbl : b ≠ l := by
    intro e0
    have z1 := h.hb
    have z2 := h.hl
    simp only at z1 z2
    rw [e0] at z1
    rw [z1] at z2
    have : boxK = (lvD live).map (·.1) := (Own.dct.inj (Option.some.inj z2)).1
    have h3 : DK.s (lit "pieces") ∈ (lvD live).map (·.1) := by rw [← this]; simp
    obtain ⟨pp, hpp, e1⟩ := List.mem_map.mp h3
    obtain ⟨q, _, rfl⟩ := List.mem_map.mp hpp
    have e2 : [q.1] = lit "pieces" := DK.s.inj e1
    have e3 := congrArg List.length e2
    have e4 : (lit "pieces").length = 6 := by decide
    rw [e4] at e3
    simp at e3
  refine ⟨⟨dr, ix, kd, b, p, l, segs, dropL live c, many, e⟩, _, d1, ?_, hl1, ?_, ⟨rfl, rfl, rfl⟩, ?_⟩
  · rw [gset_ne (Ne.symm hbx)]; exact h.hb
  · refine { hx := ?_, hb := ?_, hp := ?_, hl := ?_, hd := ?_, hr := ?_, ent := ?_, lv := ?_, inj := h.inj, elt := ?_, nod := dropL_nod h.nod, nr := h.nr, cl := h.cl, n1 := h.n1, n2 := h.n2, n3 := ?_, n4 := h.n4 }
    · rw [gset_ne hlx, set_at h.hx]
    · rw [gset_ne (Ne.symm hbl), gset_ne (Ne.symm hbx)]; exact h.hb
    · rw [gset_ne (Ne.symm (ne_of h.hp h.hl (by simp))), gset_ne (Ne.symm (ne_of h.hp h.hx (by simp)))]; exact h.hp
    · rw [set_at hl1]
    · exact ⟨xs, by rw [gset_ne (Ne.symm hdl), gset_ne (Ne.symm hdx)]; exact hxs⟩
    · intro s hs
      have z := h.hr s hs
      rw [gset_ne (Ne.symm (ne_of z h.hl (by simp))), gset_ne (Ne.symm (ne_of z h.hx (by simp)))]
      exact z
    · intro s hs q hq
      obtain ⟨a1, a2, a3⟩ := h.ent s hs q hq
      exact ⟨a1, a2, hne a3⟩
    · intro q hq
      obtain ⟨a1, a2, a3⟩ := h.lv q (hsub q hq)
      exact ⟨a1, a2, hne a3⟩
    · intro i a1 a2
      exact Nat.lt_of_lt_of_le (h.elt i a1 a2) ag.len
    · exact Nat.le_trans (List.length_filter_le _ _) h.n3
  · show _ = μ[dr]?
    rw [gset_ne (Ne.symm hdl), gset_ne (Ne.symm hdx)]
end
end L35
namespace L35
open PySem L2 FL
structure Doc (dk : List DK) (dv : List D) (ws : Own) : Prop where
  hd : ∀ μ, m_need_document [S1, .dcf dk dv] μ = .ok (.fr .non) μ
  hg : gDict [.dcf dk dv] = some (.own (.dct dk dv))
  hl : dk.length = dv.length
  he : ∀ c μ, mkS "Entry" m_iEntry [.str [c], .dcf dk dv] μ = .ok (.fr (.obj μ.length)) (entM μ c (.dcf dk dv) ws)
theorem doc0 : Doc [] [] (.dct [] []) := ⟨fun _ => needDoc0, by rfl, rfl, fun _ _ => ent0 (.inl rfl)⟩
theorem doc1 : Doc [.s (lit "t")] [.str (lit "a")] (.dct [.s (lit "t")] [.tup [.str (lit "a")]]) := ⟨fun _ => needDoc1, by rfl, rfl, fun _ _ => ent1⟩
theorem doc2 : Doc [.s (lit "n")] [.int 1] (.dct [] []) := ⟨fun _ => needDoc2, by rfl, rfl, fun _ _ => ent0 (.inr rfl)⟩
section
variable {S : Sx} {t : Nat} {μ : Mem} {c : Nat} {dk : List DK} {dv : List D} {ws : Own}
def eN (e : Nat → Nat) (m k : Nat) : Nat → Nat := fun i => if i = m then k else e i
theorem eN_new {e : Nat → Nat} {m k : Nat} : eN e m k m = k := if_pos rfl
theorem eN_old {e : Nat → Nat} {m k i : Nat} (h : i ≤ m) : eN e (m + 1) k i = e i := if_neg (by omega)
theorem kdD_eN {live : List (Nat × Nat)} {e : Nat → Nat} {m k : Nat} (h : ∀ q ∈ live, q.2 ≤ m) : kdD (eN e (m + 1) k) live = kdD e live := List.map_congr_left fun q hq => by rw [eN_old (h q hq)]
theorem rows_eN {rows : List (Nat × Nat)} {e : Nat → Nat} {m k : Nat} (h : ∀ q ∈ rows, q.2 ≤ m) : (rows.map fun q => (q.1, eN e (m + 1) k q.2)) = rows.map fun q => (q.1, e q.2) := List.map_congr_left fun q hq => by rw [eN_old (h q hq)]
theorem pcs_eN {segs : List Sg} {e : Nat → Nat} {m k : Nat} (h : ∀ s ∈ segs, ∀ q ∈ s.rows, q.2 ≤ m) : pcs (eN e (m + 1) k) segs = pcs e segs := List.map_congr_left fun s hs => by
  show ((s.rows.map fun q => (q.1, eN e (m + 1) k q.2)), s.o) = _
  rw [rows_eN (h s hs)]
theorem putK_eN {live : List (Nat × Nat)} {e : Nat → Nat} {m k : Nat} (h : ∀ q ∈ live, q.2 ≤ m) : putA (kdD e live) (.s [c]) (.obj k) = kdD (eN e (m + 1) k) (putL live c (m + 1)) := by
  rw [← kdD_eN (k := k) h]
  exact putA_mk (by show D.obj (eN e (m + 1) k (m + 1)) = _; rw [eN_new])
theorem nod_keys {live : List (Nat × Nat)} {f : Nat × Nat → D} (h : (live.map (·.1)).Nodup) : ((live.map fun q => ((.s [q.1] : DK), f q)).map (·.1)).Nodup := by
  rw [List.map_map]
  have : ((fun (p : DK × D) => p.1) ∘ fun q : Nat × Nat => ((.s [q.1] : DK), f q)) = (fun a : Nat => DK.s [a]) ∘ (·.1) := rfl
  rw [this, ← List.map_map]
  exact List.Pairwise.map _ (fun a b hab z => hab (by cases z; rfl)) h
theorem box_ne {b l m p l' : Nat} {live : List (Nat × Nat)} {f : Nat × Nat → D} (hb : μ[b]? = some (box p l' m)) (hl : μ[l]? = some (.dct ((live.map fun q => ((.s [q.1] : DK), f q)).map (·.1)) ((live.map fun q => ((.s [q.1] : DK), f q)).map (·.2)))) : b ≠ l := by
  intro e0
  rw [e0] at hb
  rw [hb] at hl
  have : boxK = (live.map fun q => ((.s [q.1] : DK), f q)).map (·.1) := (Own.dct.inj (Option.some.inj hl)).1
  have h3 : DK.s (lit "pieces") ∈ (live.map fun q => ((.s [q.1] : DK), f q)).map (·.1) := by rw [← this]; simp
  obtain ⟨pp, hpp, e1⟩ := List.mem_map.mp h3
  obtain ⟨q, _, rfl⟩ := List.mem_map.mp hpp
  have e2 : [q.1] = lit "pieces" := DK.s.inj e1
  have e3 := congrArg List.length e2
  have e4 : (lit "pieces").length = 6 := by decide
  rw [e4] at e3
  simp at e3
theorem put_all (h : OK S t μ) (ht : t < 400) (hc : c ∈ lit "klmo") (d : Doc dk dv ws) :
    ∃ S' r μ1 μ2, m_sr_put [.obj S.ix, .str [c], .dcf dk dv] μ = .ok (.fr (.bl r)) μ1 ∧ m__law_segment_put [.obj S.b, .str [c]] μ1 = .ok (.fr .non) μ2 ∧ OK S' (t + 1) μ2 ∧ Sm S S' ∧ μ2[S.dr]? = μ[S.dr]? := by
  obtain ⟨dr, ix, kd, b, p, l, segs, live, m, e⟩ := S
  have hx := h.hx
  have hb := h.hb
  have hp := h.hp
  have hl := h.hl
  have hent := h.ent
  have hlv := h.lv
  have n1 := h.n1
  have n3 := h.n3
  have n4 := h.n4
  obtain ⟨xs, hd⟩ := h.hd
  have p_dr := h.p_dr
  simp only at hx hb hp hl hd hent hlv n1 n3 n4 p_dr
  have hbl := box_ne hb hl
  have hbx : b ≠ ix := ne_of hb hx (by simp)
  have hpx : p ≠ ix := ne_of hp hx (by simp)
  have hlx : l ≠ ix := ne_of hl hx (by simp)
  have hdx : dr ≠ ix := ne_of hd hx (by simp)
  have hbp : b ≠ p := ne_of hb hp (by simp)
  have hpl : p ≠ l := ne_of hp hl (by simp)
  have hdb : dr ≠ b := ne_of hd hb (by simp)
  have hdl : dr ≠ l := ne_of hd hl (by simp)
  have le1 : ∀ q ∈ live, q.2 ≤ m := fun q hq => (hlv q hq).2.1
  have le2 : ∀ s ∈ segs, ∀ q ∈ s.rows, q.2 ≤ m := fun s hs q hq => (hent s hs q hq).2.1
  have nodk := nod_keys (f := fun q => .obj (e q.2)) h.nod
  -- the memory behind the program's put
  let M : Own → Mem := fun u => (entM μ c (.dcf dk dv) ws).set ix u
  have mlen : ∀ u, (M u).length = μ.length + 3 := fun u => by simp [M]
  have mold : ∀ u {i : Nat} {o : Own}, μ[i]? = some o → i ≠ ix → (M u)[i]? = some o := fun u i o hi n => by
    show (List.set _ ix u)[i]? = _
    rw [gset_ne (Ne.symm n), gapp (by simp [hi])]
    exact hi
  have mix : ∀ u, (M u)[ix]? = some u := fun u => gset_self (by rw [gapp (by simp [hx])]; simp [hx])
  have ment : ∀ u, IsEnt (M u) μ.length c := by
    intro u
    refine ⟨μ.length + 1, .dcf dk dv, .obj (μ.length + 2), ?_⟩
    have : ix ≠ μ.length := Nat.ne_of_lt (List.getElem?_eq_some_iff.mp hx).1
    show (List.set _ ix u)[μ.length]? = _
    rw [gset_ne this]
    simp
  have mE : ∀ u {i c' : Nat}, IsEnt μ i c' → IsEnt (M u) i c' := fun u i c' z => by
    obtain ⟨k, d', w, e1⟩ := z
    exact ⟨k, d', w, mold u e1 (ne_of e1 hx (by simp))⟩
  have inj' : ∀ i j, 1 ≤ i → i ≤ m + 1 → 1 ≤ j → j ≤ m + 1 → eN e (m + 1) μ.length i = eN e (m + 1) μ.length j → i = j := by
    intro i j i1 i2 j1 j2 e0
    by_cases hi : i = m + 1
    · by_cases hj : j = m + 1
      · omega
      · subst hi
        rw [eN_new, eN_old (by omega)] at e0
        have := h.elt j j1 (by simp only; omega)
        simp only at this
        omega
    · by_cases hj : j = m + 1
      · subst hj
        rw [eN_new, eN_old (by omega)] at e0
        have := h.elt i i1 (by simp only; omega)
        simp only at this
        omega
      · rw [eN_old (by omega), eN_old (by omega)] at e0
        exact h.inj i j i1 (by simp only; omega) j1 (by simp only; omega) e0
  have elt' : ∀ i, 1 ≤ i → i ≤ m + 1 → eN e (m + 1) μ.length i < μ.length + 3 := by
    intro i i1 i2
    by_cases hi : i = m + 1
    · subst hi; rw [eN_new]; omega
    · rw [eN_old (by omega)]
      have := h.elt i i1 (by simp only; omega)
      simp only at this
      omega
  have setlv : putA (lvD live) (.s [c]) (.int (m + 1 : Nat)) = lvD (putL live c (m + 1)) := putA_mk rfl
  have entLive : ∀ μ', (∀ {i c' : Nat}, IsEnt μ i c' → IsEnt μ' i c') → IsEnt μ' μ.length c → ∀ q ∈ putL live c (m + 1), 1 ≤ q.2 ∧ q.2 ≤ m + 1 ∧ IsEnt μ' (eN e (m + 1) μ.length q.2) q.1 := by
    intro μ' z z1 q hq
    rcases mem_putL hq with rfl | hq
    · exact ⟨by simp, Nat.le_refl _, by rw [eN_new]; exact z1⟩
    · obtain ⟨a1, a2, a3⟩ := hlv q hq
      exact ⟨a1, by omega, by rw [eN_old a2]; exact z a3⟩
  have entRows : ∀ μ', (∀ {i c' : Nat}, IsEnt μ i c' → IsEnt μ' i c') → ∀ s ∈ segs, ∀ q ∈ s.rows, 1 ≤ q.2 ∧ q.2 ≤ m + 1 ∧ IsEnt μ' (eN e (m + 1) μ.length q.2) q.1 := by
    intro μ' z s hs q hq
    obtain ⟨a1, a2, a3⟩ := hent s hs q hq
    exact ⟨a1, by omega, by rw [eN_old a2]; exact z a3⟩
  have closed : segs = [] ∨ (∃ ini s, segs = ini ++ [s] ∧ s.o = false) ∨ ∃ ini r rows, segs = ini ++ [⟨r, rows, true⟩] := by
    rcases last_of segs with z | ⟨ini, ⟨r, rows, o⟩, z⟩
    · exact .inl z
    · cases o with
      | false => exact .inr (.inl ⟨_, _, z, rfl⟩)
      | true => exact .inr (.inr ⟨_, _, _, z⟩)
  rcases or_assoc.mpr closed with cl | ⟨ini, r, rows, rfl⟩
  · -- a new segment
    have hps : (pcs e segs).map pcD = [] ∨ ∃ qs es, (pcs e segs).map pcD = qs ++ [sgD es false] := by
      rcases cl with rfl | ⟨ini, s, rfl, ho⟩
      · exact .inl rfl
      · refine .inr ⟨(pcs e ini).map pcD, obs (s.rows.map fun q => (q.1, e q.2)), ?_⟩
        simp [pcs, ho]
    have hxs : segs.map plD = [] ∨ ∃ ys r, segs.map plD = ys ++ [.tup [.obj r, .bl false]] := by
      rcases cl with rfl | ⟨ini, s, rfl, ho⟩
      · exact .inl rfl
      · exact .inr ⟨ini.map plD, s.r, by simp [ho]⟩
    have p1 := put0 (c := c) (s := S1) hc d.hd d.hg d.hl (d.he c) hx hps nodk (by simp; omega) (by simp; omega)
    have q1 := lput0 (c := c) (mold (putI S1 (kdD e live) c μ.length kd ((pcs e segs).map pcD ++ [sgD [.obj μ.length] true])) hb hbx) (mold _ hp hpx) hxs (mold _ hl hlx) (by simp; omega) (by simp; omega) hbp hbl hpl
    generalize hI : putI S1 (kdD e live) c μ.length kd ((pcs e segs).map pcD ++ [sgD [.obj μ.length] true]) = I at p1 q1
    rw [mlen, setlv] at q1
    let R := μ.length + 3
    refine ⟨⟨dr, ix, kd, b, p, l, segs ++ [⟨R, [(c, m + 1)], true⟩], putL live c (m + 1), m + 1, eN e (m + 1) μ.length⟩, _, _, _, p1, q1, ?_, ⟨rfl, rfl, rfl⟩, ?_⟩
    · have lt : ∀ {i : Nat} {o : Own}, μ[i]? = some o → i ≠ R := fun hi => by
        have := (List.getElem?_eq_some_iff.mp hi).1
        omega
      have fin : ∀ {i : Nat} {o : Own} (u1 u2 u3 u4 : Own), μ[i]? = some o → i ≠ ix → i ≠ p → i ≠ b → i ≠ l → (((((M I ++ [Own.lst []]).set p u1).set b u2).set R u3).set l u4)[i]? = some o := fun u1 u2 u3 u4 hi a1 a2 a3 a4 => by
        rw [gset_ne (Ne.symm a4), gset_ne (Ne.symm (lt hi)), gset_ne (Ne.symm a3), gset_ne (Ne.symm a2), gapp (by rw [mold I hi a1]; rfl)]
        exact mold I hi a1
      have finE : ∀ {i c' : Nat} (u1 u2 u3 u4 : Own), IsEnt μ i c' → IsEnt (((((M I ++ [Own.lst []]).set p u1).set b u2).set R u3).set l u4) i c' := fun u1 u2 u3 u4 z => by
        obtain ⟨k, d', w, e1⟩ := z
        exact ⟨k, d', w, fin u1 u2 u3 u4 e1 (ne_of e1 hx (by simp)) (ne_of e1 hp (by simp)) (ne_of e1 hb (by simp)) (ne_of e1 hl (by simp))⟩
      have m1 : ∀ {i : Nat} {o : Own} , (M I)[i]? = some o → (M I ++ [Own.lst []])[i]? = some o := fun hi => by rw [gapp (by rw [hi]; rfl)]; exact hi
      have sR : ∀ u1 u2, ((((M I ++ [Own.lst []]).set p u1).set b u2)[R]?).isSome = true := fun u1 u2 => by
        have pR := lt hp
        have bR := lt hb
        rw [gset_ne bR, gset_ne pR]
        have : R = (M I).length := (mlen I).symm
        rw [this]
        simp
      refine { hx := ?_, hb := ?_, hp := ?_, hl := ?_, hd := ?_, hr := ?_, ent := ?_, lv := ?_, inj := inj', elt := ?_, nod := putL_nod h.nod, nr := ?_, cl := ?_, n1 := ?_, n2 := ?_, n3 := ?_, n4 := ?_ }
      · show (((((M I ++ [Own.lst []]).set p _).set b _).set R _).set l _)[ix]? = _
        rw [gset_ne hlx, gset_ne (Ne.symm (lt hx)), gset_ne hbx, gset_ne hpx, m1 (mix I), ← hI]
        unfold putI
        rw [putK_eN le1]
        simp only [pcs, List.map_append, List.map_cons, List.map_nil]
        rw [show (segs.map fun s => ((s.rows.map fun q => (q.1, eN e (m + 1) μ.length q.2)), s.o)) = pcs e segs from pcs_eN le2]
        simp [eN_new]
      · show (((((M I ++ [Own.lst []]).set p _).set b _).set R _).set l _)[b]? = _
        rw [gset_ne (Ne.symm hbl), gset_ne (Ne.symm (lt hb))]
        exact gset_self (by rw [gset_ne (Ne.symm hbp), m1 (mold I hb hbx)]; rfl)
      · show (((((M I ++ [Own.lst []]).set p _).set b _).set R _).set l _)[p]? = _
        rw [gset_ne (Ne.symm hpl), gset_ne (Ne.symm (lt hp)), gset_ne hbp, gset_self (by rw [m1 (mold I hp hpx)]; rfl)]
        simp [R]
      · show (((((M I ++ [Own.lst []]).set p _).set b _).set R _).set l _)[l]? = _
        exact gset_self (by rw [gset_ne (Ne.symm (lt hl)), gset_ne hbl, gset_ne hpl, m1 (mold I hl hlx)]; rfl)
      · exact ⟨xs, fin _ _ _ _ hd hdx (Ne.symm p_dr) hdb hdl⟩
      · intro s hs
        rcases List.mem_append.mp hs with hs | hs
        · have z := h.hr s hs
          exact fin _ _ _ _ z (ne_of z hx (by simp)) (h.r_ne hs).1 (ne_of z hb (by simp)) (ne_of z hl (by simp))
        · have : s = ⟨R, [(c, m + 1)], true⟩ := by simpa using hs
          subst this
          show (((((M I ++ [Own.lst []]).set p _).set b _).set R _).set l _)[R]? = _
          rw [gset_ne (lt hl)]
          exact gset_self (sR _ _)
      · intro s hs q hq
        rcases List.mem_append.mp hs with hs | hs
        · exact entRows _ (finE _ _ _ _) s hs q hq
        · have : s = ⟨R, [(c, m + 1)], true⟩ := by simpa using hs
          subst this
          have : q = (c, m + 1) := by simpa using hq
          subst this
          refine ⟨by simp, Nat.le_refl _, ?_⟩
          show IsEnt _ (eN e (m + 1) μ.length (m + 1)) c
          rw [eN_new]
          obtain ⟨k, d', w, e1⟩ := ment I
          have ne : ∀ {i : Nat} {o : Own}, μ[i]? = some o → i ≠ μ.length := fun hi => Nat.ne_of_lt (List.getElem?_eq_some_iff.mp hi).1
          refine ⟨k, d', w, ?_⟩
          show (((((M I ++ [Own.lst []]).set p _).set b _).set R _).set l _)[μ.length]? = _
          rw [gset_ne (ne hl), gset_ne (by omega), gset_ne (ne hb), gset_ne (ne hp), m1 e1]
      · refine entLive _ (finE _ _ _ _) ?_
        obtain ⟨k, d', w, e1⟩ := ment I
        have ne : ∀ {i : Nat} {o : Own}, μ[i]? = some o → i ≠ μ.length := fun hi => Nat.ne_of_lt (List.getElem?_eq_some_iff.mp hi).1
        refine ⟨k, d', w, ?_⟩
        show (((((M I ++ [Own.lst []]).set p _).set b _).set R _).set l _)[μ.length]? = _
        rw [gset_ne (ne hl), gset_ne (by omega), gset_ne (ne hb), gset_ne (ne hp), m1 e1]
      · intro i i1 i2
        have := elt' i i1 i2
        have z : (((((M I ++ [Own.lst []]).set p (.lst [])).set b (.lst [])).set R (.lst [])).set l (.lst [])).length = μ.length + 4 := by simp [mlen]
        simp only [glen, List.length_append, List.length_singleton, mlen]
        show eN e (m + 1) μ.length i < _
        omega
      · have := h.nr
        simp only [List.map_append, List.map_cons, List.map_nil]
        simp only [List.nodup_cons, List.mem_cons, not_or, List.nodup_append, List.mem_append, List.not_mem_nil, or_false] at this ⊢
        obtain ⟨⟨z1, z2⟩, z3, z4⟩ := this
        refine ⟨⟨z1, z2, lt hp⟩, ⟨z3, lt hd⟩, z4, ⟨fun z => z, List.nodup_nil⟩, fun a ha b' hb' e0 => ?_⟩
        subst hb'
        subst e0
        obtain ⟨s, hs, e2⟩ := List.mem_map.mp ha
        exact lt (h.hr s hs) e2
      · intro s hs
        simp only [List.dropLast_concat] at hs
        rcases cl with rfl | ⟨ini, s', rfl, ho⟩
        · cases hs
        · rcases List.mem_append.mp hs with hs | hs
          · exact h.cl s (by simpa using hs)
          · have : s = s' := by simpa using hs
            subst this; exact ho
      · simp only [List.length_append, List.length_singleton]; omega
      · intro s hs
        rcases List.mem_append.mp hs with hs | hs
        · exact Nat.le_succ_of_le (h.n2 s hs)
        · have : s = ⟨R, [(c, m + 1)], true⟩ := by simpa using hs
          subst this
          simp
      · have := putL_len (live := live) (c := c) (n := m + 1)
        simp only
        omega
      · simp only; omega
    · show (((((M I ++ [Own.lst []]).set p _).set b _).set R _).set l _)[dr]? = μ[dr]?
      have lt : dr ≠ R := by
        have := (List.getElem?_eq_some_iff.mp hd).1
        omega
      rw [gset_ne (Ne.symm hdl), gset_ne (Ne.symm lt), gset_ne (Ne.symm hdb), gset_ne p_dr, gapp (by rw [mold I hd hdx]; rfl), mold I hd hdx, hd]
  · -- the open one
    have hmem : (⟨r, rows, true⟩ : Sg) ∈ ini ++ [⟨r, rows, true⟩] := List.mem_append_right _ List.mem_cons_self
    have hr := h.hr _ hmem
    have hrp := (h.r_ne hmem).1
    have hrd := (h.r_ne hmem).2
    simp only at hr hrp hrd
    have hrx : r ≠ ix := ne_of hr hx (by simp)
    have hrb : r ≠ b := ne_of hr hb (by simp)
    have hrl : r ≠ l := ne_of hr hl (by simp)
    have n2 : rows.length ≤ t := h.n2 _ hmem
    have hx2 : μ[ix]? = some (idx S1 (kpD (kdD e live)) kd ((pcs e ini).map pcD ++ [sgD (obs (rows.map fun q => (q.1, e q.2))) true])) := by
      rw [hx]
      simp [pcs]
    have hp2 : μ[p]? = some (.lst (ini.map plD ++ [.tup [.obj r, .bl true]])) := by
      rw [hp]
      simp
    have hlow : D.lowbs (μ.length + 3) [.lst (obs (rows.map fun q => (q.1, e q.2)) ++ [.obj μ.length]), .bl true] = true := by
      have z : D.lowbs (μ.length + 3) (obs ((rows.map fun q => (q.1, e q.2)) ++ [(c, μ.length)])) = true := lowbs_obs fun q hq => by
        rcases List.mem_append.mp hq with hq | hq
        · obtain ⟨q0, hq0, rfl⟩ := List.mem_map.mp hq
          obtain ⟨a1, a2, _⟩ := hent _ hmem q0 hq0
          have := h.elt _ a1 a2
          simp only at this ⊢
          omega
        · have : q = (c, μ.length) := by simpa using hq
          subst this
          simp only
          omega
      have z2 : obs ((rows.map fun q => (q.1, e q.2)) ++ [(c, μ.length)]) = obs (rows.map fun q => (q.1, e q.2)) ++ [.obj μ.length] := by
        simp only [obs, List.map_append, List.map_cons, List.map_nil]
      rw [z2] at z
      simp only [lb_cons, lb_lst, lb_bl, lb_nil, z, Bool.and_true]
    have n1' : ini.length + 1 ≤ t := by simpa using n1
    have p1 := put1 (c := c) (s := S1) hc d.hd d.hg d.hl (d.he c) hx2 hlow nodk (by simp; omega) (by simp; omega) (by simp; omega)
    have q1 := lput1 (c := c) (mold (putI S1 (kdD e live) c μ.length kd ((pcs e ini).map pcD ++ [sgD (obs (rows.map fun q => (q.1, e q.2)) ++ [.obj μ.length]) true])) hb hbx) (mold _ hp2 hpx) (mold _ hr hrx) (mold _ hl hlx) (by simp; omega) (by simp; omega) hbp (Ne.symm hrb) hbl hrp hrl hpl
    generalize hI : putI S1 (kdD e live) c μ.length kd ((pcs e ini).map pcD ++ [sgD (obs (rows.map fun q => (q.1, e q.2)) ++ [.obj μ.length]) true]) = I at p1 q1
    rw [setlv] at q1
    have le2' : ∀ s ∈ ini, ∀ q ∈ s.rows, q.2 ≤ m := fun s hs => le2 s (List.mem_append_left _ hs)
    have le3 : ∀ q ∈ rows, q.2 ≤ m := le2 _ hmem
    refine ⟨⟨dr, ix, kd, b, p, l, ini ++ [⟨r, rows ++ [(c, m + 1)], true⟩], putL live c (m + 1), m + 1, eN e (m + 1) μ.length⟩, _, _, _, p1, q1, ?_, ⟨rfl, rfl, rfl⟩, ?_⟩
    · have fin : ∀ {i : Nat} {o : Own} (u2 u3 u4 : Own), μ[i]? = some o → i ≠ ix → i ≠ b → i ≠ r → i ≠ l → ((((M I).set b u2).set r u3).set l u4)[i]? = some o := fun u2 u3 u4 hi a1 a3 a2 a4 => by
        rw [gset_ne (Ne.symm a4), gset_ne (Ne.symm a2), gset_ne (Ne.symm a3)]
        exact mold I hi a1
      have finE : ∀ {i c' : Nat} (u2 u3 u4 : Own), IsEnt μ i c' → IsEnt ((((M I).set b u2).set r u3).set l u4) i c' := fun u2 u3 u4 z => by
        obtain ⟨k, d', w, e1⟩ := z
        exact ⟨k, d', w, fin u2 u3 u4 e1 (ne_of e1 hx (by simp)) (ne_of e1 hb (by simp)) (ne_of e1 hr (by simp)) (ne_of e1 hl (by simp))⟩
      have newE : ∀ u2 u3 u4, IsEnt ((((M I).set b u2).set r u3).set l u4) μ.length c := by
        intro u2 u3 u4
        obtain ⟨k, d', w, e1⟩ := ment I
        have ne : ∀ {i : Nat} {o : Own}, μ[i]? = some o → i ≠ μ.length := fun hi => Nat.ne_of_lt (List.getElem?_eq_some_iff.mp hi).1
        refine ⟨k, d', w, ?_⟩
        rw [gset_ne (ne hl), gset_ne (ne hr), gset_ne (ne hb), e1]
      refine { hx := ?_, hb := ?_, hp := ?_, hl := ?_, hd := ?_, hr := ?_, ent := ?_, lv := ?_, inj := inj', elt := ?_, nod := putL_nod h.nod, nr := ?_, cl := ?_, n1 := ?_, n2 := ?_, n3 := ?_, n4 := ?_ }
      · show ((((M I).set b _).set r _).set l _)[ix]? = _
        rw [gset_ne hlx, gset_ne hrx, gset_ne hbx, mix I, ← hI]
        unfold putI
        rw [putK_eN le1]
        simp only [pcs, List.map_append, List.map_cons, List.map_nil]
        rw [show (ini.map fun s => ((s.rows.map fun q => (q.1, eN e (m + 1) μ.length q.2)), s.o)) = pcs e ini from pcs_eN le2', rows_eN le3]
        simp [eN_new]
      · show ((((M I).set b _).set r _).set l _)[b]? = _
        rw [gset_ne (Ne.symm hbl), gset_ne hrb]
        exact gset_self (by rw [mold I hb hbx]; rfl)
      · show ((((M I).set b _).set r _).set l _)[p]? = _
        rw [gset_ne (Ne.symm hpl), gset_ne hrp, gset_ne hbp, mold I hp2 hpx]
        simp
      · show ((((M I).set b _).set r _).set l _)[l]? = _
        exact gset_self (by rw [gset_ne hrl, gset_ne hbl, mold I hl hlx]; rfl)
      · exact ⟨xs, fin _ _ _ hd hdx hdb (Ne.symm hrd) hdl⟩
      · intro s hs
        rcases List.mem_append.mp hs with hs | hs
        · have hs' := List.mem_append_left [(⟨r, rows, true⟩ : Sg)] hs
          have z := h.hr s hs'
          have sr : s.r ≠ r := by
            intro e0
            have := h.nr
            simp only [List.map_append, List.map_cons, List.map_nil, List.nodup_cons, List.nodup_append] at this
            exact this.2.2.2.2 s.r (List.mem_map_of_mem hs) r List.mem_cons_self e0
          exact fin _ _ _ z (ne_of z hx (by simp)) (ne_of z hb (by simp)) sr (ne_of z hl (by simp))
        · have : s = ⟨r, rows ++ [(c, m + 1)], true⟩ := by simpa using hs
          subst this
          show ((((M I).set b _).set r _).set l _)[r]? = _
          rw [gset_ne (Ne.symm hrl), gset_self (by rw [gset_ne (Ne.symm hrb), mold I hr hrx]; rfl)]
          simp
      · intro s hs q hq
        rcases List.mem_append.mp hs with hs | hs
        · exact entRows _ (finE _ _ _) s (List.mem_append_left _ hs) q hq
        · have : s = ⟨r, rows ++ [(c, m + 1)], true⟩ := by simpa using hs
          subst this
          rcases List.mem_append.mp hq with hq | hq
          · exact entRows _ (finE _ _ _) _ hmem q hq
          · have : q = (c, m + 1) := by simpa using hq
            subst this
            refine ⟨by simp, Nat.le_refl _, ?_⟩
            show IsEnt _ (eN e (m + 1) μ.length (m + 1)) c
            rw [eN_new]
            exact newE _ _ _
      · exact entLive _ (finE _ _ _) (newE _ _ _)
      · intro i i1 i2
        have := elt' i i1 i2
        simp only [glen, mlen]
        exact this
      · have := h.nr
        simpa using this
      · have := h.cl
        simpa using this
      · simp only [List.length_append, List.length_singleton]; omega
      · intro s hs
        rcases List.mem_append.mp hs with hs | hs
        · exact Nat.le_succ_of_le (h.n2 s (List.mem_append_left _ hs))
        · have : s = ⟨r, rows ++ [(c, m + 1)], true⟩ := by simpa using hs
          subst this
          simp only [List.length_append, List.length_singleton]; omega
      · have := putL_len (live := live) (c := c) (n := m + 1)
        simp only
        omega
      · simp only; omega
    · show ((((M I).set b _).set r _).set l _)[dr]? = μ[dr]?
      rw [gset_ne (Ne.symm hdl), gset_ne hrd, gset_ne (Ne.symm hdb), mold I hd hdx, hd]
end
end L35
namespace L35
open PySem L2 FL
section
variable {S S' : Sx} {t : Nat} {μ μ' : Mem} {c : Nat}
theorem OK.src (h : OK S t μ) {B : Int} (hs : Src μ S.dr B) (e : μ'[S.dr]? = μ[S.dr]?) : Src μ' S.dr B := by
  obtain ⟨a, i, g, h1, h2⟩ := hs
  exact ⟨a, i, g, by rw [e]; exact h1, h2⟩
theorem three {r : Int} (h0 : 0 ≤ r) (h1 : r < 3) {a b d : D} : (L2.atI [a, b, d] r = some a ∨ L2.atI [a, b, d] r = some b) ∨ L2.atI [a, b, d] r = some d := by
  have e : r = 0 ∨ r = 1 ∨ r = 2 := by omega
  rcases e with rfl | rfl | rfl
  · exact .inl (.inl rfl)
  · exact .inl (.inr rfl)
  · exact .inr rfl
theorem check (h : OK S t μ) (ht : t < 1000) {x0 x1 x2 x5 x6 x7 x8 : Option FL.Slot} :
    mIfS (mOr (mTb (m2 (gEq true) (.e (mProp pt_segments "segments" (.v 3))) (.e (mCall m__law_segmented [(m2 gGetD (.v 4) (.e (mD (.str (lit "pieces"))))), (m2 gGetD (.v 4) (.e (mD (.str (lit "live")))))] [])))) (mTb (m2 (gEq true) (.e (mProp pt_size "size" (.v 3))) (.e (mC gLenD [(.e (m2 gGetD (.v 4) (.e (mD (.str (lit "live"))))))]))))) (mRet (mD (.bl false)))
      mPass [x0, x1, x2, some (.fr (.obj S.ix)), some (.fr (.obj S.b)), x5, x6, x7, x8] μ = .nx [x0, x1, x2, some (.fr (.obj S.ix)), some (.fr (.obj S.b)), x5, x6, x7, x8] μ := by
  have e1 := h.segs ht
  have e2 := h.lsegs ht
  have e3 := told_same (S := S) true
  have e4 := h.size
  have e5 : gLenD [.dct ((lvD S.live).map (·.1)) ((lvD S.live).map (·.2))] = some (.fr (.int S.live.length)) := by
    simp [gLenD, gLenD1, dctOf]
  have hx := h.hx
  have hb := h.hb
  have hl := h.hl
  generalize hL : Own.dct ((lvD S.live).map (·.1)) ((lvD S.live).map (·.2)) = L at hl
  have e5' : gLenD [L.d] = some (.fr (.int S.live.length)) := by rw [← hL]; exact e5
  simp [hx, hb, hl, pSg, pSz, e1, e2, e3, e4, e5', getP, getL]
theorem way0 (h : OK S t μ) (ht : t < 100) {x0 x1 x2 x5 x6 x8 : Option FL.Slot} : ∃ S' μ',
    (mSeq (mIfS (mTb (m2 (gIsN true) (.e (mMeth mt_flush "flush" (.v 3) [])) (.e (mD .non)))) (mRet (mD (.bl false))) mPass) (mEx (mCall m__law_segment_flush [(mV 4)] [])))
      [x0, x1, x2, some (.fr (.obj S.ix)), some (.fr (.obj S.b)), x5, x6, some (.fr (.int 0)), x8] μ = .nx [x0, x1, x2, some (.fr (.obj S.ix)), some (.fr (.obj S.b)), x5, x6, some (.fr (.int 0)), x8] μ' ∧
    OK S' t μ' ∧ Sm S S' ∧ μ'[S.dr]? = μ[S.dr]? := by
  obtain ⟨S', μ1, μ2, e1, e2, h2, sm, hd⟩ := flush_all h (by omega)
  have hx := h.hx
  refine ⟨S', μ2, ?_, h2, sm, hd⟩
  simp [hx, mt_flush, e1, e2]
theorem way1 (h : OK S t μ) (ht : t < 100) (hc : c ∈ lit "klmo") (hi : (S.live.any fun q => decide (q.1 = c)) = true) {x0 x1 x2 x5 x7 x8 : Option FL.Slot} : ∃ S' μ',
    (mSeq (mEx (mMeth mt_delete "delete" (.v 3) [(mV 6)])) (mEx (mPopD (.e (m2 gGetD (.v 4) (.e (mD (.str (lit "live")))))) (mV 6))))
      [x0, x1, x2, some (.fr (.obj S.ix)), some (.fr (.obj S.b)), x5, some (.fr (.str [c])), x7, x8] μ = .nx [x0, x1, x2, some (.fr (.obj S.ix)), some (.fr (.obj S.b)), x5, some (.fr (.str [c])), x7, x8] μ' ∧
    OK S' t μ' ∧ Sm S S' ∧ μ'[S.dr]? = μ[S.dr]? := by
  obtain ⟨S', μ1, e1, hb1, hl1, h2, sm, hd⟩ := del_all h (by omega) hc hi
  have hx := h.hx
  refine ⟨S', _, ?_, h2, sm, hd⟩
  obtain ⟨v, hv⟩ : ∃ v, getA (lvD S.live) (.s [c]) = some v := by
    rw [getA_mk]
    obtain ⟨q, hq, hq2⟩ := List.any_eq_true.mp hi
    cases ef : S.live.find? fun q => decide (q.1 = c) with
    | none => exact absurd hq2 (by simpa using List.find?_eq_none.mp ef q hq)
    | some q => exact ⟨_, rfl⟩
  have hp : gPopD (.dct ((lvD S.live).map (·.1)) ((lvD S.live).map (·.2))) (.str [c]) = some (v, dctO (dropA (lvD S.live) (.s [c]))) := by
    simp only [gPopD, dkey, zipK, hv, Option.map_some]
  generalize hD : dctO (dropA (lvD S.live) (.s [c])) = Dn at hp
  generalize hK : (lvD S.live).map (·.1) = K at hp hl1
  generalize hV : (lvD S.live).map (·.2) = V at hp hl1
  simp [hx, mt_delete, e1, mPopD, hb1, hl1, getL, hp]
theorem way2 (h : OK S t μ) (ht : t < 100) (hs : Src μ S.dr (12 + 3 * t)) (hc : c ∈ lit "klmo") {x0 x1 x5 x7 x8 : Option FL.Slot} : ∃ S' μ',
    (mSeq (mEx (mMeth mt_put "put" (.v 3) [(mV 6), (m2 gIxL (.e (mLst [(mFrz mDct0), (mFrz (mDisp [(.s (lit "t"), (mD (.str (lit "a"))))])), (mFrz (mDisp [(.s (lit "n"), (mD (.int 1)))]))])) (.e (mCall m__law_drawn [(mV 2), (mD (.int 3))] [])))])) (mEx (mCall m__law_segment_put [(mV 4), (mV 6)] [])))
      [x0, x1, some (.fr (.obj S.dr)), some (.fr (.obj S.ix)), some (.fr (.obj S.b)), x5, some (.fr (.str [c])), x7, x8] μ = .nx [x0, x1, some (.fr (.obj S.dr)), some (.fr (.obj S.ix)), some (.fr (.obj S.b)), x5, some (.fr (.str [c])), x7, x8] μ' ∧
    OK S' (t + 1) μ' ∧ Sm S S' ∧ Src μ' S.dr (13 + 3 * t) := by
  obtain ⟨r, μ1, en1, r0, r1, s1, f1⟩ := next_spec (n := 3) hs (by omega) (by omega) (by omega)
  have h1 := h.fr f1 s1.cell
  have hx := h.hx
  have k1 : FL.mergeA [] [((.s (lit "t") : DK), D.str (lit "a"))] = [(.s (lit "t"), .str (lit "a"))] := by rfl
  have k2 : FL.mergeA [] [((.s (lit "n") : DK), D.int 1)] = [(.s (lit "n"), .int 1)] := by rfl
  have fin : ∀ {dk dv ws}, Doc dk dv ws → L2.atI [D.dcf [] [], .dcf [.s (lit "t")] [.str (lit "a")], .dcf [.s (lit "n")] [.int 1]] r = some (.dcf dk dv) → ∃ S' μ',
    (mSeq (mEx (mMeth mt_put "put" (.v 3) [(mV 6), (m2 gIxL (.e (mLst [(mFrz mDct0), (mFrz (mDisp [(.s (lit "t"), (mD (.str (lit "a"))))])), (mFrz (mDisp [(.s (lit "n"), (mD (.int 1)))]))])) (.e (mCall m__law_drawn [(mV 2), (mD (.int 3))] [])))])) (mEx (mCall m__law_segment_put [(mV 4), (mV 6)] [])))
      [x0, x1, some (.fr (.obj S.dr)), some (.fr (.obj S.ix)), some (.fr (.obj S.b)), x5, some (.fr (.str [c])), x7, x8] μ = .nx [x0, x1, some (.fr (.obj S.dr)), some (.fr (.obj S.ix)), some (.fr (.obj S.b)), x5, some (.fr (.str [c])), x7, x8] μ' ∧
    OK S' (t + 1) μ' ∧ Sm S S' ∧ Src μ' S.dr (13 + 3 * t) := by
    intro dk dv ws d ea
    obtain ⟨S', b, μ2, μ3, e1, e2, h2, sm, hd⟩ := put_all h1 (by omega) hc d
    refine ⟨S', μ3, ?_, h2, sm, ?_⟩
    · simp [hx, mt_put, mDisp, evK, k1, k2, en, en1, ea, e1, e2]
    · have := h1.src s1 hd
      exact this.mono (by omega)
  rcases three r0 r1 (a := D.dcf [] []) (b := .dcf [.s (lit "t")] [.str (lit "a")]) (d := .dcf [.s (lit "n")] [.int 1]) with (e | e) | e
  · exact fin doc0 e
  · exact fin doc1 e
  · exact fin doc2 e
theorem turn_ok (h : OK S t μ) (ht : t < 100) (hs : Src μ S.dr (10 + 3 * t)) {x0 x1 x5 x6 x7 x8 : Option FL.Slot} : ∃ S' μ' y6 y7,
    f1_law [x0, x1, some (.fr (.obj S.dr)), some (.fr (.obj S.ix)), some (.fr (.obj S.b)), x5, x6, x7, x8] μ = .nx [x0, x1, some (.fr (.obj S.dr)), some (.fr (.obj S.ix)), some (.fr (.obj S.b)), x5, y6, y7, x8] μ' ∧
    OK S' (t + 1) μ' ∧ Sm S S' ∧ Src μ' S.dr (10 + 3 * (t + 1 : Nat)) := by
  obtain ⟨c, μ1, hc, ep1, s1, f1⟩ := pick_str (xs := lit "klmo") hs (by omega) (by decide) (by decide)
  obtain ⟨w, μ2, en2, w0, w1, s2, f2⟩ := next_spec (n := 6) s1 (by omega) (by omega) (by omega)
  have h2 := h.fr (f1.trans f2) s2.cell
  have first : mPar 6 7 (mCall m__law_drawn_of [(mV 2), (mD (.str (lit "klmo")))] []) (mCall m__law_drawn [(mV 2), (mD (.int 6))] []) [x0, x1, some (.fr (.obj S.dr)), some (.fr (.obj S.ix)), some (.fr (.obj S.b)), x5, x6, x7, x8] μ
      = .nx [x0, x1, some (.fr (.obj S.dr)), some (.fr (.obj S.ix)), some (.fr (.obj S.b)), x5, some (.fr (.str [c])), some (.fr (.int w)), x8] μ2 := by
    simp [ep, en, ep1, en2]
  have fin : ∀ {S' μ' B}, (mIfS (mTb (m2 (gEq false) (.v 7) (.e (mD (.int 0))))) (mSeq (mIfS (mTb (m2 (gIsN true) (.e (mMeth mt_flush "flush" (.v 3) [])) (.e (mD .non)))) (mRet (mD (.bl false))) mPass) (mEx (mCall m__law_segment_flush [(mV 4)] [])))
      (mIfS (mAnd (mTb (m2 (gEq false) (.v 7) (.e (mD (.int 1))))) (mTb (m2 (gInD false) (.v 6) (.e (m2 gGetD (.v 4) (.e (mD (.str (lit "live"))))))))) (mSeq (mEx (mMeth mt_delete "delete" (.v 3) [(mV 6)])) (mEx (mPopD (.e (m2 gGetD (.v 4) (.e (mD (.str (lit "live")))))) (mV 6))))
      (mSeq (mEx (mMeth mt_put "put" (.v 3) [(mV 6), (m2 gIxL (.e (mLst [(mFrz mDct0), (mFrz (mDisp [(.s (lit "t"), (mD (.str (lit "a"))))])), (mFrz (mDisp [(.s (lit "n"), (mD (.int 1)))]))])) (.e (mCall m__law_drawn [(mV 2), (mD (.int 3))] [])))])) (mEx (mCall m__law_segment_put [(mV 4), (mV 6)] []))))
      [x0, x1, some (.fr (.obj S.dr)), some (.fr (.obj S.ix)), some (.fr (.obj S.b)), x5, some (.fr (.str [c])), some (.fr (.int w)), x8] μ2) = .nx [x0, x1, some (.fr (.obj S.dr)), some (.fr (.obj S.ix)), some (.fr (.obj S.b)), x5, some (.fr (.str [c])), some (.fr (.int w)), x8] μ' →
      OK S' (t + 1) μ' → Sm S S' → Src μ' S.dr B → B ≤ 10 + 3 * (t + 1 : Nat) → ∃ S' μ' y6 y7,
    f1_law [x0, x1, some (.fr (.obj S.dr)), some (.fr (.obj S.ix)), some (.fr (.obj S.b)), x5, x6, x7, x8] μ = .nx [x0, x1, some (.fr (.obj S.dr)), some (.fr (.obj S.ix)), some (.fr (.obj S.b)), x5, y6, y7, x8] μ' ∧
    OK S' (t + 1) μ' ∧ Sm S S' ∧ Src μ' S.dr (10 + 3 * (t + 1 : Nat)) := by
    intro S' μ' B e h3 sm s3 hB
    refine ⟨S', μ', some (.fr (.str [c])), some (.fr (.int w)), ?_, h3, sm, s3.mono hB⟩
    unfold f1_law
    rw [ev_Seq, first, ev_s1, ev_Seq, e, ev_s1]
    have := check h3 (by omega) (x0 := x0) (x1 := x1) (x2 := some (.fr (.obj S.dr))) (x5 := x5) (x6 := some (.fr (.str [c]))) (x7 := some (.fr (.int w))) (x8 := x8)
    rw [sm.ix, sm.b] at this
    exact this
  by_cases hw0 : w = 0
  · subst hw0
    obtain ⟨S', μ3, e, h3, sm, hd⟩ := way0 h2 ht (x0 := x0) (x1 := x1) (x2 := some (.fr (.obj S.dr))) (x5 := x5) (x6 := some (.fr (.str [c]))) (x8 := x8)
    refine fin ?_ (h3.mono (Nat.le_succ t)) sm (h2.src s2 hd) (by omega)
    rw [ev_IfS, show mTb (m2 (gEq false) (.v 7) (.e (mD (.int 0)))) [x0, x1, some (.fr (.obj S.dr)), some (.fr (.obj S.ix)), some (.fr (.obj S.b)), x5, some (.fr (.str [c])), some (.fr (.int 0)), x8] μ2 = .ok true _ _ from by simp; exact ⟨rfl, rfl⟩, ev_t1, if_pos rfl]
    exact e
  · have t0 : mTb (m2 (gEq false) (.v 7) (.e (mD (.int 0)))) [x0, x1, some (.fr (.obj S.dr)), some (.fr (.obj S.ix)), some (.fr (.obj S.b)), x5, some (.fr (.str [c])), some (.fr (.int w)), x8] μ2 = .ok false [x0, x1, some (.fr (.obj S.dr)), some (.fr (.obj S.ix)), some (.fr (.obj S.b)), x5, some (.fr (.str [c])), some (.fr (.int w)), x8] μ2 := by
      simp [hw0]
    have hb := h2.hb
    have hl := h2.hl
    have hin : gInD false (.str [c]) (.dct ((lvD S.live).map (·.1)) ((lvD S.live).map (·.2))) = some (.fr (.bl (S.live.any fun q => decide (q.1 = c)))) := by
      have z : (getA (lvD S.live) (.s [c])).isSome = S.live.any fun q => decide (q.1 = c) := by
        rw [getA_mk, Option.isSome_map]
        rw [Bool.eq_iff_iff, List.find?_isSome, List.any_eq_true]
      simp only [gInD, dctOf, dkey, Option.bind_some, Option.map_some, zipK, z]
      cases (S.live.any fun q => decide (q.1 = c)) <;> rfl
    generalize hLL : (lvD S.live).map (·.1) = LK at hl hin
    generalize hLV : (lvD S.live).map (·.2) = LV at hl hin
    have t1 : mAnd (mTb (m2 (gEq false) (.v 7) (.e (mD (.int 1))))) (mTb (m2 (gInD false) (.v 6) (.e (m2 gGetD (.v 4) (.e (mD (.str (lit "live")))))))) [x0, x1, some (.fr (.obj S.dr)), some (.fr (.obj S.ix)), some (.fr (.obj S.b)), x5, some (.fr (.str [c])), some (.fr (.int w)), x8] μ2
        = .ok (decide (w = 1) && S.live.any fun q => decide (q.1 = c)) [x0, x1, some (.fr (.obj S.dr)), some (.fr (.obj S.ix)), some (.fr (.obj S.b)), x5, some (.fr (.str [c])), some (.fr (.int w)), x8] μ2 := by
      by_cases hw1 : w = 1
      · simp [hw1, hb, hl, getL, hin]
      · simp [hw1]
    cases hd1 : (decide (w = 1) && S.live.any fun q => decide (q.1 = c)) with
    | true =>
      rw [hd1] at t1
      have hi : (S.live.any fun q => decide (q.1 = c)) = true := (Bool.and_eq_true_iff.mp hd1).2
      obtain ⟨S', μ3, e, h3, sm, hd⟩ := way1 h2 ht hc hi (x0 := x0) (x1 := x1) (x2 := some (.fr (.obj S.dr))) (x5 := x5) (x7 := some (.fr (.int w))) (x8 := x8)
      refine fin ?_ (h3.mono (Nat.le_succ t)) sm (h2.src s2 hd) (by omega)
      rw [ev_IfS, t0, ev_t1, if_neg Bool.false_ne_true, ev_IfS, t1, ev_t1, if_pos rfl]
      exact e
    | false =>
      rw [hd1] at t1
      obtain ⟨S', μ3, e, h3, sm, s3⟩ := way2 h2 ht (s2.mono (by omega)) hc (x0 := x0) (x1 := x1) (x5 := x5) (x7 := some (.fr (.int w))) (x8 := x8)
      refine fin ?_ h3 sm s3 (by omega)
      rw [ev_IfS, t0, ev_t1, if_neg Bool.false_ne_true, ev_IfS, t1, ev_t1, if_neg Bool.false_ne_true]
      exact e
end
end L35
namespace L35
open PySem L2 FL
section
variable {ns : List Int} {μ : Mem}
theorem len9 {rest : FL.Loc} (h : rest.length = 8) : ∃ a b c d e f g h, rest = [a, b, c, d, e, f, g, h] := by
  match rest, h with
  | [a, b, c, d, e, f, g, h], _ => exact ⟨a, b, c, d, e, f, g, h, rfl⟩
theorem cell_ok (hl : ns.length ≤ 63) {k : Int} (k0 : 0 ≤ k) (k3 : k < 3) {rest : FL.Loc} (hr : rest.length = 8) : Nx (turnD (tgV 1) f2_law (.int k) (some (.fr (.ro (ns.map .int))) :: rest) μ) fun δ' μ' => ∃ r', r'.length = 8 ∧ δ' = some (.fr (.ro (ns.map .int))) :: r' := by
  obtain ⟨x1, x2, x3, x4, x5, x6, x7, x8, rfl⟩ := len9 hr
  obtain ⟨a, g, g0, es1⟩ := source_spec (μ := μ) (k := k) hl k0 (by omega)
  let M1 : Mem := μ ++ [.lst [.int a, .int (3 * k), .int g]]
  have l1 : M1.length = μ.length + 1 := by simp [M1]
  have en1 := newIdx (s := S1) (μ := M1) (fun _ => needSch1) (fun _ => trivial)
  let M2 : Mem := M1 ++ [.ins "Index" (M1.length + 1) ksI [S1, .dcf [] [], .lst []], .idc M1.length]
  have l2 : M2.length = μ.length + 3 := by simp [M2, l1]
  let M3 : Mem := M2 ++ [.lst []]
  let M4 : Mem := M3 ++ [.dct [] []]
  let M5 : Mem := M4 ++ [box M2.length M3.length 0]
  have l3 : M3.length = μ.length + 4 := by simp [M3, l2]
  have l4 : M4.length = μ.length + 5 := by simp [M4, l3]
  let S : Sx := ⟨μ.length, M1.length, M1.length + 1, M4.length, M2.length, M3.length, [], [], 0, fun _ => 0⟩
  have up : ∀ {A B : Mem} {i : Nat} {o : Own}, A[i]? = some o → (A ++ B)[i]? = some o := fun h => by rw [gapp (by rw [h]; rfl)]; exact h
  have hx0 : M2[M1.length]? = some (idx S1 (kpD (kdD (fun _ => 0) [])) (M1.length + 1) []) := by simp [M2]
  have hd0 : M1[μ.length]? = some (.lst [.int a, .int (3 * k), .int g]) := by simp [M1]
  have hp0 : M3[M2.length]? = some (.lst []) := by simp [M3]
  have hl0 : M4[M3.length]? = some (.dct [] []) := by simp [M4]
  have hb0 : M5[M4.length]? = some (box M2.length M3.length 0) := by simp [M5]
  have ok : OK S 0 M5 := {
    hx := up (up (up hx0))
    hb := hb0
    hp := up (up hp0)
    hl := up hl0
    hd := ⟨_, up (up (up (up hd0)))⟩
    hr := fun s hs => by cases hs
    ent := fun s hs => by cases hs
    lv := fun s hs => by cases hs
    inj := fun i j a1 a2 => by have : i ≤ 0 := a2; omega
    elt := fun i a1 a2 => by have : i ≤ 0 := a2; omega
    nod := List.nodup_nil
    nr := by
      show [M2.length, μ.length].Nodup
      simp [l2]
    cl := fun s hs => by cases hs
    n1 := Nat.le_refl _
    n2 := fun s hs => by cases hs
    n3 := Nat.le_refl _
    n4 := Nat.le_refl _ }
  have src : Src M5 S.dr (10 + 3 * (0 : Nat)) := ⟨a, 3 * k, g, up (up (up (up hd0))), by omega, by omega, g0⟩
  have first : mPar 2 3 (mCall m__law_drawer [(mV 0), (mV 1)] []) (mCallK (mkS "Index" m_iIndex) [.pos 0] [(mRcT [(mTup [(mD (.str (lit "t"))), (mD (.str (lit "text")))]), (mTup [(mD (.str (lit "n"))), (mD (.str (lit "number")))])])] [] [])
      [some (.fr (.ro (ns.map .int))), some (.fr (.int k)), x2, x3, x4, x5, x6, x7, x8] μ = .nx [some (.fr (.ro (ns.map .int))), some (.fr (.int k)), some (.fr (.obj μ.length)), some (.fr (.obj M1.length)), x4, x5, x6, x7, x8] M2 := by
    simp [es, es1]
    simp only [show μ ++ [Own.lst [.int a, .int (3 * k), .int g]] = M1 from rfl, en1]
    rfl
  have second : mSet 4 (mShare (mDisp [(.s (lit "pieces"), (mShare (mLst []))), (.s (lit "live"), (mShare mDct0)), (.s (lit "many"), (mD (.int 0)))])) [some (.fr (.ro (ns.map .int))), some (.fr (.int k)), some (.fr (.obj μ.length)), some (.fr (.obj M1.length)), x4, x5, x6, x7, x8] M2
      = .nx [some (.fr (.ro (ns.map .int))), some (.fr (.int k)), some (.fr (.obj μ.length)), some (.fr (.obj M1.length)), some (.fr (.obj M4.length)), x5, x6, x7, x8] M5 := by
    have km : ∀ x y : D, FL.mergeA [] [((.s (lit "pieces") : DK), x), (.s (lit "live"), y), (.s (lit "many"), .int 0)] = [((.s (lit "pieces") : DK), x), (.s (lit "live"), y), (.s (lit "many"), .int 0)] := fun x y => by rfl
    simp [mDisp, evK, km]
    simp only [M5, M4, M3, List.append_assoc]
    simp [box]
  obtain ⟨δ', μ', e3, S', x5', x6', x7', rfl, _⟩ := forNx (g := turnD (tgV 5) f1_law) (fun i δ μ' => ∃ S' x5 x6 x7, δ = [some (.fr (.ro (ns.map .int))), some (.fr (.int k)), some (.fr (.obj S.dr)), some (.fr (.obj S.ix)), some (.fr (.obj S.b)), x5, x6, x7, x8] ∧ OK S' i μ' ∧ Sm S S' ∧ Src μ' S.dr (10 + 3 * (i : Nat)))
    (ds := rangeD 0 14) (δ := [some (.fr (.ro (ns.map .int))), some (.fr (.int k)), some (.fr (.obj S.dr)), some (.fr (.obj S.ix)), some (.fr (.obj S.b)), x5, x6, x7, x8]) (μ := M5) ⟨S, x5, x6, x7, rfl, ok, ⟨rfl, rfl, rfl⟩, src⟩
    (fun i d δ μ' hd ⟨S', y5, y6, y7, e0, ok', sm, sr⟩ => by
      obtain ⟨rfl, hi⟩ := range_at hd
      subst e0
      obtain ⟨S2, μ2, z6, z7, e1, ok2, sm2, sr2⟩ := turn_ok ok' (by omega) (by rw [sm.dr]; exact sr) (x0 := some (.fr (.ro (ns.map .int)))) (x1 := some (.fr (.int k))) (x5 := some (.fr (.int (i : Nat)))) (x6 := y6) (x7 := y7) (x8 := x8)
      rw [sm.dr, sm.ix, sm.b] at e1
      rw [sm.dr] at sr2
      exact ⟨_, _, e1, S2, some (.fr (.int (i : Nat))), z6, z7, rfl, ok2, ⟨sm2.dr.trans sm.dr, sm2.ix.trans sm.ix, sm2.b.trans sm.b⟩, sr2⟩)
  refine ⟨_, μ', ?_, ⟨[some (.fr (.int k)), some (.fr (.obj S.dr)), some (.fr (.obj S.ix)), some (.fr (.obj S.b)), x5', x6', x7', x8], rfl, rfl⟩⟩
  show f2_law _ μ = _
  unfold f2_law
  rw [ev_Seq]
  simp only [List.set_cons_succ, List.set_cons_zero]
  rw [first, ev_s1, ev_Seq, second, ev_s1]
  simp only [ev_For, ev_R1, ev_evs1, ev_evs0, ev_e, ev_D, ev_b1, ev_ats1, ev_ats0, ev_at1, ev_dfr, ev_lk2]
  rw [r1K_ok (by decide) (by decide), ev_t1]
  exact e3
theorem loops_ok (hl : ns.length ≤ 63) {rest : FL.Loc} (hr : rest.length = 8) : Nx (mFor (mRange1 (.e (mC gMax2 [(.e (mD (.int 1))), (.e (mC gMin2 [(.e (mD (.int 3))), (.e (mC gLen [(.v 0)]))]))]))) (tgV 1) f2_law (some (.fr (.ro (ns.map .int))) :: rest) μ) fun δ' μ' => ∃ r', r'.length = 8 ∧ δ' = some (.fr (.ro (ns.map .int))) :: r' := by
  refine cells_rangeN (N := 3) (by decide) (by decide) rfl fun K k1 k3 => ?_
  have := forNx (g := turnD (tgV 1) f2_law) (fun i δ' μ' => ∃ r', r'.length = 8 ∧ δ' = some (.fr (.ro (ns.map .int))) :: r') (ds := rangeD 0 K.toNat) (δ := some (.fr (.ro (ns.map .int))) :: rest) (μ := μ) ⟨rest, hr, rfl⟩
    (fun i d δ μ' hd ⟨r', hr', e0⟩ => by
      obtain ⟨rfl, hi⟩ := range_at hd
      subst e0
      exact cell_ok hl (by omega) (by omega) hr')
  exact this
end
end L35
namespace L35
open PySem L2 FL
section
variable {ns : List Int} {μ : Mem}
theorem kk : (107 : Nat) ∈ lit "klmo" := by decide
theorem litk : lit "k" = [107] := by decide
theorem tail_ok {ix kd : Nat} (hx : μ[ix]? = some (idx S0 (kpD []) kd [])) : ∃ μ1 μ2 μ3 μ4,
    m_sr_put [.obj ix, .str (lit "k"), .dcf [] []] μ = .ok (.fr (.bl false)) μ1 ∧ m_sr_put [.obj ix, .str (lit "k"), .dcf [] []] μ1 = .ok (.fr (.bl true)) μ2 ∧ m_sr_flush [.obj ix] μ2 = .ok (.fr .non) μ3 ∧
    m_sr_delete [.obj ix, .str (lit "k")] μ3 = .ok (.fr .non) μ4 ∧ m_sr_flush [.obj ix] μ4 = .ok (.fr .non) μ4 ∧ m_Index_segments [.obj ix] μ4 = .ok (.fr (.tup [.tup [.int 0, .int 2, .bl false]])) μ4 ∧ m_View_size [.obj ix] μ4 = .ok (.fr (.int 0)) μ4 ∧
    (∃ o1 o2 o3, (∃ kd ps, μ1[ix]? = some o1 ∧ o1 = idx S0 (kpD [(.s [107], .obj μ.length)]) kd ps) ∧ (∃ kp kd ps, μ2[ix]? = some o2 ∧ o2 = idx S0 kp kd ps) ∧ ∃ kp kd ps, μ3[ix]? = some o3 ∧ o3 = idx S0 kp kd ps) ∧ ∃ kp kd ps, μ4[ix]? = some (idx S0 kp kd ps) := by
  rw [litk]
  have hd : ∀ μ, m_need_document [S0, .dcf [] []] μ = .ok (.fr .non) μ := fun _ => needDoc0
  have he : ∀ μ, mkS "Entry" m_iEntry [.str [107], .dcf [] []] μ = .ok (.fr (.obj μ.length)) (entM μ 107 (.dcf [] []) (.dct [] [])) := fun _ => ent0 (.inl rfl)
  have lt := (List.getElem?_eq_some_iff.mp hx).1
  have p1 := put0 (c := 107) kk hd (by rfl) rfl he hx (.inl rfl) List.nodup_nil (by simp) (by simp)
  have g1 : (getA [] (.s [107])).isSome = false := by rfl
  rw [g1] at p1
  let I1 : Own := idx S0 (kpD [(.s [107], .obj μ.length)]) kd [sgD [.obj μ.length] true]
  have i1 : putI S0 [] 107 μ.length kd ([] ++ [sgD [.obj μ.length] true]) = I1 := by rfl
  rw [i1] at p1
  generalize hM1 : (entM μ 107 (.dcf [] []) (.dct [] [])).set ix I1 = μ1 at p1
  have hx1 : μ1[ix]? = some I1 := by rw [← hM1]; exact gset_self (by rw [gapp (by simp [hx])]; simp [hx])
  have l1 : μ1.length = μ.length + 3 := by rw [← hM1]; simp
  have en1 : IsEnt μ1 μ.length 107 := by
    refine ⟨μ.length + 1, .dcf [] [], .obj (μ.length + 2), ?_⟩
    rw [← hM1, gset_ne (Nat.ne_of_lt lt)]
    simp
  have lt1 := (List.getElem?_eq_some_iff.mp hx1).1
  have p2 := put1 (c := 107) (ps := []) (es := [.obj μ.length]) kk hd (by rfl) rfl he hx1 (by simp [D.lowb]; omega) (by simp) (by simp) (by simp) (by simp)
  have g2 : (getA [((.s [107] : DK), D.obj μ.length)] (.s [107])).isSome = true := by rfl
  rw [g2] at p2
  let I2 : Own := idx S0 (kpD [(.s [107], .obj μ1.length)]) kd [sgD [.obj μ.length, .obj μ1.length] true]
  have i2 : putI S0 [((.s [107] : DK), D.obj μ.length)] 107 μ1.length kd ([] ++ [sgD ([.obj μ.length] ++ [.obj μ1.length]) true]) = I2 := by rfl
  rw [i2] at p2
  generalize hM2 : (entM μ1 107 (.dcf [] []) (.dct [] [])).set ix I2 = μ2 at p2
  have hx2 : μ2[ix]? = some I2 := by rw [← hM2]; exact gset_self (by rw [gapp (by simp [hx1])]; simp [hx1])
  have l2 : μ2.length = μ1.length + 3 := by rw [← hM2]; simp
  have en2 : IsEnt μ2 μ1.length 107 := by
    refine ⟨μ1.length + 1, .dcf [] [], .obj (μ1.length + 2), ?_⟩
    rw [← hM2, gset_ne (Nat.ne_of_lt lt1)]
    simp
  have en1' : IsEnt μ2 μ.length 107 := by
    obtain ⟨k, d, w, e1⟩ := en1
    refine ⟨k, d, w, ?_⟩
    rw [← hM2, gset_ne (Nat.ne_of_lt lt), gapp (by rw [e1]; rfl)]
    exact e1
  have p3 := flush2 (ps := []) hx2 (by simp [D.lowb]; omega) (by simp)
  let I3 : Own := idx S0 (kpD [(.s [107], .obj μ1.length)]) kd [sgD [.obj μ.length, .obj μ1.length] false]
  have i3 : idx S0 (kpD [(.s [107], .obj μ1.length)]) kd ([] ++ [sgD [.obj μ.length, .obj μ1.length] false]) = I3 := rfl
  rw [i3] at p3
  have hx3 : (μ2.set ix I3)[ix]? = some I3 := set_at hx2
  have p4 := del_ok (c := 107) kk hx3 (fun p hp => by
    have : p = (.s [107], .obj μ1.length) := by simpa using hp
    subst this; exact ⟨_, rfl⟩) (by simp) (by simp) (by rfl)
  let I4 : Own := idx S0 (kpD []) kd [sgD [.obj μ.length, .obj μ1.length] false]
  have i4 : idx S0 (kpD ([((.s [107] : DK), D.obj μ1.length)].filter fun p => decide (p.1 ≠ .s [107]))) kd [sgD [.obj μ.length, .obj μ1.length] false] = I4 := by rfl
  rw [i4] at p4
  have hx4 : ((μ2.set ix I3).set ix I4)[ix]? = some I4 := set_at hx3
  have p5 := flush1 (ps := []) hx4
  have eE : ∀ {i : Nat}, i ≠ ix → IsEnt μ2 i 107 → IsEnt ((μ2.set ix I3).set ix I4) i 107 := fun n z => by
    obtain ⟨k, d, w, e1⟩ := z
    exact ⟨k, d, w, by rw [gset_ne (Ne.symm n), gset_ne (Ne.symm n)]; exact e1⟩
  have ei1 := eE (Nat.ne_of_gt lt) en1'
  have ei2 := eE (Nat.ne_of_gt lt1) en2
  have s4 : ((μ2.set ix I3).set ix I4)[ix]? = some (idx S0 (kpD []) kd ([(([(107, μ.length), (107, μ1.length)], false) : Pc)].map pcD)) := hx4
  have p6 := segs_ok s4 (fun q hq => by
    have : q = ([(107, μ.length), (107, μ1.length)], false) := by simpa using hq
    subst this
    refine ⟨by simp, fun p hp => ?_⟩
    simp only [List.mem_cons, List.not_mem_nil, or_false] at hp
    rcases hp with rfl | rfl
    · exact ⟨ei1, .inl rfl⟩
    · exact ⟨ei2, .inl rfl⟩) (by simp)
  have r6 : ([(([(107, μ.length), (107, μ1.length)], false) : Pc)].map fun q => rowD [] q.1 q.2) = [D.tup [.int 0, .int 2, .bl false]] := by
    simp [rowD, isLive, getA]
  rw [r6] at p6
  have p7 := size_ok s4
  exact ⟨μ1, μ2, _, _, p1, p2, p3, p4, p5, p6, p7, ⟨I1, I2, I3, ⟨_, _, hx1, rfl⟩, ⟨_, _, _, hx2, rfl⟩, ⟨_, _, _, hx3, rfl⟩⟩, ⟨_, _, _, hx4⟩⟩
abbrev duD : List D := [.bl false, .bl true, .non, .non, .non, .tup [.tup [.int 0, .int 2, .bl false]]]
theorem due_same : gEq false (.lst duD) (.lst duD) = some (FL.tb true) := by
  refine Lay.same (d := 3) false (Lay.lst fun x hx => ?_) (by decide) (by rfl)
  simp only [duD, List.mem_cons, List.not_mem_nil, or_false] at hx
  rcases hx with rfl | rfl | rfl | rfl | rfl | rfl
  · exact Lay.bl.mono (by decide)
  · exact Lay.bl.mono (by decide)
  · exact Lay.non.mono (by decide)
  · exact Lay.non.mono (by decide)
  · exact Lay.non.mono (by decide)
  · refine Lay.tup (d := 1) fun y hy => ?_
    have : y = .tup [.int 0, .int 2, .bl false] := by simpa using hy
    subst this
    refine Lay.tup (d := 0) fun z hz => ?_
    simp only [List.mem_cons, List.not_mem_nil, or_false] at hz
    rcases hz with rfl | rfl | rfl
    · exact Lay.int
    · exact Lay.int
    · exact Lay.bl
theorem nil_same : gEq true (.tup []) (.tup []) = some (FL.tb false) := Lay.same (d := 1) true (Lay.tup fun x hx => by cases hx) (by decide) (by rfl)
theorem law_ok (ns : List Int) (hl : ns.length ≤ 63) : ∃ μ', m_law [.ro (ns.map .int)] [] = .ok (.fr (.bl true)) μ' := by
  obtain ⟨δ1, μ0, e1, r', hr', rfl⟩ := loops_ok (ns := ns) (μ := []) hl (rest := List.replicate 8 none) (by rfl)
  obtain ⟨x1, x2, x3, x4, x5, x6, x7, x8, rfl⟩ := len9 hr'
  have en1 := newIdx (s := S0) (μ := μ0) (fun _ => needSch0) (fun _ => trivial)
  generalize hM : μ0 ++ [.ins "Index" (μ0.length + 1) ksI [S0, .dcf [] [], .lst []], .idc μ0.length] = M at en1
  have hx : M[μ0.length]? = some (idx S0 (kpD []) (μ0.length + 1) []) := by rw [← hM]; simp
  have f0 := flush0 hx
  have s0 := segs_ok (l := []) hx (fun q hq => by cases hq) (by simp)
  simp only [List.map_nil] at s0
  obtain ⟨μ1, μ2, μ3, μ4, p1, p2, p3, p4, p5, p6, p7, ⟨o1, o2, o3, ⟨kd1, ps1, h1, rfl⟩, ⟨kp2, kd2, ps2, h2, rfl⟩, ⟨kp3, kd3, ps3, h3, rfl⟩⟩, ⟨kp4, kd4, ps4, h4⟩⟩ := tail_ok hx
  refine ⟨μ4, ?_⟩
  rw [show m_law = mFn 9 b_law from rfl, ev_Fn]
  unfold b_law
  rw [ev_Seq, show startD 9 [.ro (ns.map .int)] = some (.fr (.ro (ns.map .int))) :: List.replicate 8 none from rfl, e1, ev_s1]
  have ds := due_same
  simp [en1, hx, f0, mt_flush, mt_put, mt_delete, pSg, pSz, s0, nil_same, p1, p2, p3, p4, p5, p6, p7, h1, h2, h3, h4, ds]
end
end L35
namespace L35
open PySem PySem.Spec PyProof.Rows L2 FL LamX
theorem txt {w : World} {mg : Str → Option Value} {h base : Heap} {K : PySem.W.Frag} (X : K.In h) (G : h.Ns mainGlobals mg) (c : HkSays fs ds ts K) (_ : K.In base) (_ : base.Ns mainGlobals mg) (TB : ∀ p ∈ csOf K ts, TabB base mg p.1 p.2.1) : Txt (tbOf K ts) PySem.Challenge.pw_findlang_k35_segments w K mg base where
  n_all := He.free_ok X G (c.fact 0 rfl)
  n_bool := He.free_ok X G (c.fact 1 rfl)
  n_dict := He.free_ok X G (c.fact 2 rfl)
  n_int := He.free_ok X G (c.fact 3 rfl)
  n_isinstance := He.free_ok X G (c.fact 4 rfl)
  n_len := He.free_ok X G (c.fact 5 rfl)
  n_max := He.free_ok X G (c.fact 6 rfl)
  n_min := He.free_ok X G (c.fact 7 rfl)
  n_range := He.free_ok X G (c.fact 8 rfl)
  n_set := He.free_ok X G (c.fact 9 rfl)
  n_str := He.free_ok X G (c.fact 10 rfl)
  n_super := He.free_ok X G (c.fact 11 rfl)
  n_tuple := He.free_ok X G (c.fact 12 rfl)
  c_GREATEST := He.int_ok X G (c.fact 13 rfl)
  c_LETTERS := He.str_ok X G (c.fact 14 rfl)
  c_MAX_DOCUMENTS := He.int_ok X G (c.fact 15 rfl)
  c_MAX_FIELDS := He.int_ok X G (c.fact 16 rfl)
  c_MAX_NAME := He.int_ok X G (c.fact 17 rfl)
  c_MAX_TEXT := He.int_ok X G (c.fact 18 rfl)
  c_MAX_WORD := He.int_ok X G (c.fact 19 rfl)
  c_WORD_SIGNS := He.str_ok X G (c.fact 20 rfl)
  t_FIELD_KINDS := tTup_ok X G (c.fact 21 rfl)
  x_BadDocument := (let ⟨_, Fx⟩ := c.fk 0 rfl rfl; xcH (h := h) sup_BadDocument (He.glo_ok X G (c.fact 22 rfl)) (He.free_ok X G (c.fact 11 rfl)) (c.fact 23 rfl) Fx (tCell_ok (c.fact 24 rfl)) (fun _ _ _ _ _ _ _ us hl => match us, hl with | [_, _], _ => by kernel_rfl))
  x_BadKey := (let ⟨_, Fx⟩ := c.fk 1 rfl rfl; xcH (h := h) sup_BadKey (He.glo_ok X G (c.fact 25 rfl)) (He.free_ok X G (c.fact 11 rfl)) (c.fact 26 rfl) Fx (tCell_ok (c.fact 27 rfl)) (fun _ _ _ _ _ _ _ us hl => match us, hl with | [_, _], _ => by kernel_rfl))
  x_BadSchema := (let ⟨_, Fx⟩ := c.fk 2 rfl rfl; xcH (h := h) sup_BadSchema (He.glo_ok X G (c.fact 28 rfl)) (He.free_ok X G (c.fact 11 rfl)) (c.fact 29 rfl) Fx (tCell_ok (c.fact 30 rfl)) (fun _ _ _ _ _ _ _ us hl => match us, hl with | [_, _], _ => by kernel_rfl))
  c_Entry := He.glo_ok X G (c.fact 31 rfl)
  c_Index := He.glo_ok X G (c.fact 32 rfl)
  c_Segment := He.glo_ok X G (c.fact 33 rfl)
  atts := attsOk_of X G attl (c.fact 34 rfl)
  prp := prpB_of X G prps (c.fact 35 rfl)
  mk_Index := (by have e : fAdF K (pM "Index" "__init__") = _ := tInit_ok (c.fact 36 rfl); rw [e]; exact He.mkr_ok (c.fact 37 rfl))
  mk_Segment := (by have e : fAdF K (pM "Segment" "__init__") = _ := tInit_ok (c.fact 38 rfl); rw [e]; exact He.mkr_ok (c.fact 39 rfl))
  mk_Entry := (by have e : fAdF K (pM "Entry" "__init__") = _ := tInit_ok (c.fact 40 rfl); rw [e]; exact He.mkr_ok (c.fact 41 rfl))
  f_iView := c.fd 3 rfl rfl
  f_iIndex := c.fk 4 rfl rfl
  ce_iIndex := (tCell_ok (c.fact 42 rfl))
  s_iIndex := (let ⟨_, Fx⟩ := c.fk 4 rfl rfl; supP_of (sc := sc_iIndex) Fx (tCell_ok (c.fact 42 rfl)) (He.free_ok X G (c.fact 11 rfl)) (by kernel_rfl) ⟨_, rfl, rfl⟩ (by kernel_rfl) (by decide +kernel) (by decide +kernel) (by decide +kernel) rfl)
  f_iSegment := c.fd 5 rfl rfl
  f_sr_flush := c.fd 6 rfl rfl
  f_sr_delete := c.fd 7 rfl rfl
  f_iEntry := c.fd 8 rfl rfl
  f_sr_put := c.fd 9 rfl rfl
  f_View_size := c.fd 10 rfl rfl
  f_Index_segments := c.fd 11 rfl rfl
  sb_Index := supB_of (He.glo_ok X G (c.fact 32 rfl)) (c.fact 43 rfl)
  d__law_drawer := (let ⟨_, Fx⟩ := c.fd 12 rfl rfl; ⟨_, _, Fx, (tFn_ok X G (c.fact 44 rfl)).1, (tFn_ok X G (c.fact 44 rfl)).2⟩)
  d_is_made_of := (let ⟨_, Fx⟩ := c.fd 13 rfl rfl; ⟨_, _, Fx, (tFn_ok X G (c.fact 45 rfl)).1, (tFn_ok X G (c.fact 45 rfl)).2⟩)
  d_is_field_name := (let ⟨_, Fx⟩ := c.fd 14 rfl rfl; ⟨_, _, Fx, (tFn_ok X G (c.fact 46 rfl)).1, (tFn_ok X G (c.fact 46 rfl)).2⟩)
  d_is_field_row := (let ⟨_, Fx⟩ := c.fd 15 rfl rfl; ⟨_, _, Fx, (tFn_ok X G (c.fact 47 rfl)).1, (tFn_ok X G (c.fact 47 rfl)).2⟩)
  d_need_schema := (let ⟨_, Fx⟩ := c.fd 16 rfl rfl; ⟨_, _, Fx, (tFn_ok X G (c.fact 48 rfl)).1, (tFn_ok X G (c.fact 48 rfl)).2⟩)
  d__law_drawn := (let ⟨_, Fx⟩ := c.fd 17 rfl rfl; ⟨_, _, Fx, (tFn_ok X G (c.fact 49 rfl)).1, (tFn_ok X G (c.fact 49 rfl)).2⟩)
  d__law_drawn_of := (let ⟨_, Fx⟩ := c.fd 18 rfl rfl; ⟨_, _, Fx, (tFn_ok X G (c.fact 50 rfl)).1, (tFn_ok X G (c.fact 50 rfl)).2⟩)
  d__law_segment_flush := (let ⟨_, Fx⟩ := c.fd 19 rfl rfl; ⟨_, _, Fx, (tFn_ok X G (c.fact 51 rfl)).1, (tFn_ok X G (c.fact 51 rfl)).2⟩)
  d_is_key := (let ⟨_, Fx⟩ := c.fd 20 rfl rfl; ⟨_, _, Fx, (tFn_ok X G (c.fact 52 rfl)).1, (tFn_ok X G (c.fact 52 rfl)).2⟩)
  d_need_key := (let ⟨_, Fx⟩ := c.fd 21 rfl rfl; ⟨_, _, Fx, (tFn_ok X G (c.fact 53 rfl)).1, (tFn_ok X G (c.fact 53 rfl)).2⟩)
  d_is_text := (let ⟨_, Fx⟩ := c.fd 22 rfl rfl; ⟨_, _, Fx, (tFn_ok X G (c.fact 54 rfl)).1, (tFn_ok X G (c.fact 54 rfl)).2⟩)
  d_is_integer := (let ⟨_, Fx⟩ := c.fd 23 rfl rfl; ⟨_, _, Fx, (tFn_ok X G (c.fact 55 rfl)).1, (tFn_ok X G (c.fact 55 rfl)).2⟩)
  d_is_value_for := (let ⟨_, Fx⟩ := c.fd 24 rfl rfl; ⟨_, _, Fx, (tFn_ok X G (c.fact 56 rfl)).1, (tFn_ok X G (c.fact 56 rfl)).2⟩)
  d_kind_of_field := (let ⟨_, Fx⟩ := c.fd 25 rfl rfl; ⟨_, _, Fx, (tFn_ok X G (c.fact 57 rfl)).1, (tFn_ok X G (c.fact 57 rfl)).2⟩)
  d_need_document := (let ⟨_, Fx⟩ := c.fd 26 rfl rfl; ⟨_, _, Fx, (tFn_ok X G (c.fact 58 rfl)).1, (tFn_ok X G (c.fact 58 rfl)).2⟩)
  d_split_words := (let ⟨_, Fx⟩ := c.fd 27 rfl rfl; ⟨_, _, Fx, (tFn_ok X G (c.fact 59 rfl)).1, (tFn_ok X G (c.fact 59 rfl)).2⟩)
  d__law_segment_put := (let ⟨_, Fx⟩ := c.fd 28 rfl rfl; ⟨_, _, Fx, (tFn_ok X G (c.fact 60 rfl)).1, (tFn_ok X G (c.fact 60 rfl)).2⟩)
  d_live_entries := (let ⟨_, Fx⟩ := c.fd 29 rfl rfl; ⟨_, _, Fx, (tFn_ok X G (c.fact 61 rfl)).1, (tFn_ok X G (c.fact 61 rfl)).2⟩)
  d_segment_row := (let ⟨_, Fx⟩ := c.fd 30 rfl rfl; ⟨_, _, Fx, (tFn_ok X G (c.fact 62 rfl)).1, (tFn_ok X G (c.fact 62 rfl)).2⟩)
  d__law_segmented := (let ⟨_, Fx⟩ := c.fd 31 rfl rfl; ⟨_, _, Fx, (tFn_ok X G (c.fact 63 rfl)).1, (tFn_ok X G (c.fact 63 rfl)).2⟩)
  mth_flush := mthB_of X G (c.fact 64 rfl)
  mth_delete := mthB_of X G (c.fact 65 rfl)
  mth_put := mthB_of X G (c.fact 66 rfl)
  idc := idc_of X G (c.fact 67 rfl)
theorem lawF (w : World) (mg : Str → Option Value) (fa : Addr) (h : Heap) (K : PySem.W.Frag) (X : K.In h) (c : HkSays fs ds ts K) (G : h.Ns mainGlobals mg) (hfa : mg "law" = some (.ref fa)) :
    ∃ fd : FuncData, (∀ (s : Shared) (u : Value), BindsTo s fd ⟨[u], []⟩ [("_law_script", u)]) ∧
      ∀ base : Heap, K.In base → base.Ns mainGlobals mg → (∀ p ∈ csOf K ts, TabB base mg p.1 p.2.1) → FnG PySem.Challenge.pw_findlang_k35_segments w K mg base (L2.CX PySem.Challenge.pw_findlang_k35_segments w) 200 fa fd ["_law_script"] (spM K mg (m_law) 1) := by
  have e := hfa.symm.trans (tFn_ok X G (c.fact 68 rfl)).1
  cases e
  obtain ⟨fd, Fx⟩ := c.fd 32 rfl rfl
  refine ⟨fd, fun s u => ?_, fun base hb hg TB => (g_law Fx (txt X G c hb hg TB)).mono (by decide)⟩
  obtain ⟨_, _, _, _, _, _, _, _, _, rfl, _, _⟩ := Fx.ex
  exact .of_eq (by kernel_rfl)
theorem lawM (K : PySem.W.Frag) (ns : List Int) (hl : ns.length ≤ 63) : ∃ μ', m_law [.ro (ns.map .int)] (memT (csOf K ts)) = .ok (.fr (.bl true)) μ' := law_ok ns hl
end L35
open PySem PySem.Spec PySem.W PySem.Calls PyProof.Rows in
set_option maxRecDepth 100000 in
set_option maxHeartbeats 0 in
theorem PySem.Challenge.cw_findlang_k35_segments_holds : PySem.Challenge.rw_findlang_k35_segments.Holds := by
  w_on; o_law
  refine HandSHeadRun.head_any (r := OpenLaw.row PySem.Challenge.rw_findlang_k35_segments) (q := view (OpenLaw.row PySem.Challenge.rw_findlang_k35_segments).prog [51]) (H := L35.hk) (ob := L35.ob) (M := 30000) (loose := L35.names) (d := HandSHeadRun.topDef (OpenLaw.row PySem.Challenge.rw_findlang_k35_segments).prog 51) (kwd := []) L35.ob_eq
    (by kernel_rfl) (fun s => by kernel_rfl) L35.run (by kernel_rfl) (by kernel_rfl) (by kernel_rfl) (by rfl) (by first | assumption | decide +kernel) (by decide +kernel) ⟨rfl, rfl, rfl, rfl, rfl, by decide +kernel⟩ ?hw ?hc
  case hw => w_witness2
  case hc => exact FL.walkH (l := PySem.Challenge.rw_findlang_k35_segments) (k := 200) (n := 5) (m := (fun _ => L35.m_law)) rfl (by kernel_rfl) FL.room_caller L35.lawF L35.lawM
