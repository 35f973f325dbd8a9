import PyProof.Rows.All
import Wide.All
import OpenK.AllK
import Wide.FinOn
import HandS.ForMost
import HandS.ForExc
import HandS.Lambda
import HandS.Deep
import HandS.TupAny
import HandS.Conv
import HandS.TryMany
import HandS.SortKw
import HandS.Flow
import HandS.RaiseMore
import HandS.Small
import HandS.TupLen
import KE.SortData
import KE.SortKeyHeap
import HandS.HeadEnd
import HandS.HeadHook2
import HandS.GenList
import PyProof.CodeObjX
import PyProof.SumAny
import KE.DataMinMax
import KE.DataFind
import PyProof.TupleOfSeq
import HandS.More
import KE.KDictCopyH
import HandS.Style
import HandS.HeadWalk
import HandS.Head0
import HandS.Head1
import HandS.Head2
import HandS.Flt
import KE.KDictSum
import KE.KItemsList
import HandS.ListItems
import KE.KDictZip
import KE.DataMinKey
import PyProof.TupleOfGen
import KE.KTupSum
import KE.GoesEnum
import HandS.TryOnly
import KE.KDictPairs
import HandS.ExcValue
import HandS.Strs
import HandS.DictTup
import KE.KDictWalk
import HandS.Zip
import HandS.Rev
import KE.LtData
import KE.DataCmp
import PyProof.Rows.TupDisplay
import KE.KExcSuper
import HandS.ExcInit
import HandS.ExcIs
import HandS.Evl
import PySem.Challenge.RW_tenthall_k21_refusals_apart
set_option Elab.async false
set_option linter.all false
set_option maxRecDepth 100000
set_option maxHeartbeats 2000000
/-! TB1: deep values D, symbolic heaps, results; the judgements EV, ET, SS. -/
namespace TH
open PySem PySem.Spec PyProof.Rows L2
/-! ### results -/
inductive Ex where
  | size | plan | such | room | way | gives | deed | text (n : Int)
  deriving DecidableEq
/-- ok; an exception, with what is known of the cells then; bad: nothing is claimed; pick n: any of 0 .. n - 1 -/
inductive Res (ε β : Type) where
  | ok (b : β) | err (x : Ex) (e : ε) | bad | pick (n : Nat) (k : Nat → Res ε β) | any (k : Nat → Res ε β)
namespace Res
variable {ε ε' α β γ : Type}
def wp : Res ε β → (β → Prop) → (Ex → ε → Prop) → Prop
  | .ok b, P, _ => P b
  | .err x e, _, E => E x e
  | .bad, _, _ => False
  | .pick n k, P, E => ∀ i, i < n → (k i).wp P E
  | .any k, P, E => ∀ i, (k i).wp P E
def bind : Res ε α → (α → Res ε β) → Res ε β
  | .ok a, f => f a
  | .err x e, _ => .err x e
  | .bad, _ => .bad
  | .pick n k, f => .pick n fun i => (k i).bind f
  | .any k, f => .any fun i => (k i).bind f
def mapE (g : ε → ε') : Res ε β → Res ε' β
  | .ok a => .ok a
  | .err x e => .err x (g e)
  | .bad => .bad
  | .pick n k => .pick n fun i => (k i).mapE g
  | .any k => .any fun i => (k i).mapE g
/-- exceptions are not wanted -/
def noE : Res ε β → Res ε' β
  | .ok a => .ok a
  | .err _ _ => .bad
  | .bad => .bad
  | .pick n k => .pick n fun i => (k i).noE
  | .any k => .any fun i => (k i).noE
/-- exceptions caught -/
def caught (g : Ex → ε → Res ε' β) : Res ε β → Res ε' β
  | .ok a => .ok a
  | .err x e => g x e
  | .bad => .bad
  | .pick n k => .pick n fun i => (k i).caught g
  | .any k => .any fun i => (k i).caught g
/-- none: bad -/
def ofO : Option β → Res ε β
  | some b => .ok b
  | none => .bad
def guard (p : Prop) [Decidable p] : Res ε Unit := if p then .ok () else .bad
@[simp] theorem ok_bind {a : α} {f : α → Res ε β} : (Res.ok a : Res ε α).bind f = f a := rfl
@[simp] theorem err_bind {x : Ex} {e : ε} {f : α → Res ε β} : (Res.err x e : Res ε α).bind f = .err x e := rfl
@[simp] theorem bad_bind {f : α → Res ε β} : (Res.bad : Res ε α).bind f = .bad := rfl
@[simp] theorem any_bind {k : Nat → Res ε α} {f : α → Res ε β} : (Res.any k).bind f = .any fun i => (k i).bind f := rfl
@[simp] theorem wp_any {k : Nat → Res ε β} {P : β → Prop} {E : Ex → ε → Prop} : (Res.any k).wp P E ↔ ∀ i, (k i).wp P E := Iff.rfl
@[simp] theorem pick_bind {n : Nat} {k : Nat → Res ε α} {f : α → Res ε β} : (Res.pick n k).bind f = .pick n fun i => (k i).bind f := rfl
@[simp] theorem wp_ok {b : β} {P : β → Prop} {E : Ex → ε → Prop} : (Res.ok b : Res ε β).wp P E ↔ P b := Iff.rfl
@[simp] theorem wp_err {x : Ex} {e : ε} {P : β → Prop} {E : Ex → ε → Prop} : (Res.err x e : Res ε β).wp P E ↔ E x e := Iff.rfl
@[simp] theorem wp_bad {P : β → Prop} {E : Ex → ε → Prop} : (Res.bad : Res ε β).wp P E ↔ False := Iff.rfl
@[simp] theorem wp_pick {n : Nat} {k : Nat → Res ε β} {P : β → Prop} {E : Ex → ε → Prop} : (Res.pick n k).wp P E ↔ ∀ i, i < n → (k i).wp P E := Iff.rfl
theorem wp_bind {f : α → Res ε β} {P : β → Prop} {E : Ex → ε → Prop} : ∀ {r : Res ε α}, (r.bind f).wp P E ↔ r.wp (fun a => (f a).wp P E) E
  | .ok _ => Iff.rfl
  | .err _ _ => Iff.rfl
  | .bad => Iff.rfl
  | .pick _ k => forall_congr' fun i => imp_congr_right fun _ => wp_bind (r := k i)
  | .any k => forall_congr' fun i => wp_bind (r := k i)
theorem wp_mono {P P' : β → Prop} {E E' : Ex → ε → Prop} (hP : ∀ b, P b → P' b) (hE : ∀ x e, E x e → E' x e) : ∀ {r : Res ε β}, r.wp P E → r.wp P' E'
  | .ok b, h => hP b h
  | .err x e, h => hE x e h
  | .bad, h => h
  | .pick _ k, h => fun i hi => wp_mono hP hE (r := k i) (h i hi)
  | .any k, h => fun i => wp_mono hP hE (r := k i) (h i)
theorem wp_mapE {g : ε → ε'} {P : β → Prop} {E : Ex → ε' → Prop} : ∀ {r : Res ε β}, (r.mapE g).wp P E ↔ r.wp P (fun x e => E x (g e))
  | .ok _ => Iff.rfl
  | .err _ _ => Iff.rfl
  | .bad => Iff.rfl
  | .pick _ k => forall_congr' fun i => imp_congr_right fun _ => wp_mapE (r := k i)
  | .any k => forall_congr' fun i => wp_mapE (r := k i)
theorem wp_noE {P : β → Prop} {E : Ex → ε' → Prop} : ∀ {r : Res ε β}, (r.noE (ε' := ε')).wp P E ↔ r.wp P (fun _ _ => False)
  | .ok _ => Iff.rfl
  | .err _ _ => Iff.rfl
  | .bad => Iff.rfl
  | .pick _ k => forall_congr' fun i => imp_congr_right fun _ => wp_noE (r := k i)
  | .any k => forall_congr' fun i => wp_noE (r := k i)
theorem wp_catch {g : Ex → ε → Res ε' β} {P : β → Prop} {E : Ex → ε' → Prop} : ∀ {r : Res ε β}, (r.caught g).wp P E ↔ r.wp P (fun x e => (g x e).wp P E)
  | .ok _ => Iff.rfl
  | .err _ _ => Iff.rfl
  | .bad => Iff.rfl
  | .pick _ k => forall_congr' fun i => imp_congr_right fun _ => wp_catch (r := k i)
  | .any k => forall_congr' fun i => wp_catch (r := k i)
theorem wp_guard {p : Prop} [Decidable p] {P : Unit → Prop} {E : Ex → ε → Prop} : (guard p : Res ε Unit).wp P E ↔ p ∧ P () := by
  unfold guard
  split
  · rename_i h; exact ⟨fun q => ⟨h, q⟩, fun q => q.2⟩
  · rename_i h; exact ⟨fun q => q.elim, fun q => h q.1⟩
end Res
/-! ### deep values -/
inductive D where
  | non | bl (b : Bool) | int (i : Int) | str (x : Str)
  | tup (xs : List D) | tupH (xs : List D) | lst (xs : List D) | dic (tk : Bool) (ks vs : List D) | obj (C : Addr) (ns : List Str) (vs : List D) | ref (a : Addr) | fn (g : Addr → Addr → HO) (q : Str)
abbrev Own := Addr → Prop
def kD : Key → D
  | .inl i => .int i
  | .inr x => .str x
def keyOk : Key → Bool
  | .inl _ => true
  | .inr x => PyData.strOk x
/-- a tuple of the module -/
def KT (K : PySem.W.Frag) (a : Addr) (xs : List V) : Prop :=
  ∃ (o : Obj) (its : Array Value) (n : Nat), K.lookup a = some o ∧ o.cls = .type "tuple" ∧ o.data = .seq its n ∧ its.size ≤ sizeLine ∧ Vals xs its.toList
def DK (H : Hp) (p : Addr) (tk : Bool) (ks : List D) (xs : List V) : Prop :=
  (∃ kv : List (Key × V), Rd H p (.dK kv) ∧ tk = false ∧ ks = kv.map (fun q => kD q.1) ∧ (∀ q ∈ kv, keyOk q.1 = true) ∧ xs = kv.map (·.2)) ∨
  (∃ kv : List (List Key × V), Rd H p (.dT kv) ∧ tk = true ∧ ks = kv.map (fun q => D.tupH (q.1.map kD)) ∧ (∀ q ∈ kv, ∀ k ∈ q.1, keyOk k = true) ∧ xs = kv.map (·.2))
def isDk : HO → Bool
  | .dK _ => true
  | .dT _ => true
  | _ => false
mutual
def Rep (K : PySem.W.Frag) (W : Own) (H : Hp) : D → V → Prop
  | .non, x => x = .non
  | .bl b, x => x = .bl b
  | .int i, x => x = .int i
  | .str z, x => x = .str z ∧ PyData.strOk z = true
  | .tup ds, x => ∃ p xs, x = .ref p ∧ ((¬ W p ∧ H p = some (.tup xs)) ∨ KT K p xs) ∧ Reps K W H ds xs
  | .tupH ds, x => ∃ p xs, x = .ref p ∧ (¬ W p ∧ H p = some (.tup xs)) ∧ Reps K W H ds xs
  | .lst ds, x => ∃ p xs, x = .ref p ∧ ¬ W p ∧ H p = some (.lst xs) ∧ Reps K W H ds xs
  | .dic tk ks vs, x => ∃ p xs, x = .ref p ∧ ¬ W p ∧ DK H p tk ks xs ∧ Reps K W H vs xs
  | .obj C ns vs, x => ∃ p dx fs, x = .ref p ∧ ¬ W p ∧ H p = some (.ins C dx fs) ∧ ns = fs.map (·.1) ∧ Reps K W H vs (fs.map (·.2))
  | .ref a, x => x = .ref a
  | .fn g q, x => ∃ f c, x = .ref f ∧ (¬ W f ∧ H f = some (g f c)) ∧ ((∀ ps, g f c ≠ .tbl ps) ∧ isDk (g f c) = false) ∧ ¬ W c ∧ H c = some (LamX.CodeO c q)
def Reps (K : PySem.W.Frag) (W : Own) (H : Hp) : List D → List V → Prop
  | [], xs => xs = []
  | d :: ds, xs => ∃ x r, xs = x :: r ∧ Rep K W H d x ∧ Reps K W H ds r
end
/-! ### cells -/
inductive O where
  | lst (ds : List D) | dic (lk : Option HO) (tk : Bool) (ks vs : List D) | ins (C : Addr) (ns : List Str) (vs : List D) | dice | tupN (ds : List D)
abbrev SH := List (Addr × O)
abbrev En := List (Option D)
def diceOk (a b c : Int) : Prop := 0 ≤ b ∧ (c = 0 ∨ c = 1 ∨ c = 2) ∧ (c = 2 → 0 ≤ a)
def ORep (K : PySem.W.Frag) (W : Own) (H : Hp) (a : Addr) : O → Prop
  | .lst ds => ∃ xs, H a = some (.lst xs) ∧ Reps K W H ds xs
  | .dic none tk ks vs => ∃ xs, DK H a tk ks xs ∧ Reps K W H vs xs ∧ ∀ ob u, H a ≠ some (.frz ob u)
  | .dic (some u) tk ks vs => ∃ xs, DK H a tk ks xs ∧ Reps K W H vs xs ∧ H a = some u ∧ ∃ ob w, u = .frz ob w
  | .ins C ns vs => ∃ dx fs, H a = some (.ins C dx fs) ∧ ns = fs.map (·.1) ∧ Reps K W H vs (fs.map (·.2))
  | .dice => ∃ x y z, H a = some (.lst [.int x, .int y, .int z]) ∧ diceOk x y z
  | .tupN ds => ∃ xs ob, H a = some (.frz ob (.tup xs)) ∧ ob.dict = none ∧ Reps K W H ds xs
def dom (h : SH) (p : Addr) : Prop := p ∈ h.map (·.1)
def own (R : Own) (h : SH) : Own := fun p => R p ∨ dom h p
/-- what may be kept apart: no table, no tuple -/
def NU (o : HO) : Prop := (∀ ps, o ≠ .tbl ps) ∧ (∀ xs, o ≠ .tup xs) ∧ ∀ P, o ≠ .ext P
theorem nu_of {o : HO} (h : (match o with | .tbl _ => false | .tup _ => false | .ext _ => false | _ => true) = true := by rfl) : NU o := ⟨fun ps z => (by subst z; cases h), fun ps z => (by subst z; cases h), fun ps z => (by subst z; cases h)⟩
structure HR (TL : List (Addr × Str)) (K : PySem.W.Frag) (R : Own) (h : SH) (H : Hp) : Prop where
  nd : (h.map (·.1)).Nodup
  ap : ∀ p, R p → (∃ o, H p = some o ∧ NU o) ∧ ¬ dom h p
  at_ : ∀ q ∈ h, ORep K (own R h) H q.1 q.2
  tb : LamX.Tabs TL H
def Sim (o o' : HO) : Prop := o' = o ∨ (isDk o = true ∧ ∃ b, o' = .frz b o)
/-- no table -/
abbrev NT (o : HO) : Prop := ∀ ps, o ≠ .tbl ps
def Fr (R : Own) (h h' : SH) (H H' : Hp) : Prop := ∀ p o, ¬ dom h p → H p = some o → NT o → ¬ dom h' p ∧ ∃ o', H' p = some o' ∧ Sim o o' ∧ (R p → o' = o)
structure ER (K : PySem.W.Frag) (W : Own) (Γ : En) (σ : L2.St) (H : Hp) : Prop where
  len : Γ.length = σ.length
  at_ : ∀ (i : Nat) (d : D), Γ[i]? = some (some d) → ∃ v, σ[i]? = some (some v) ∧ Rep K W H d v
theorem Sim.refl (o : HO) : Sim o o := .inl rfl
theorem Sim.trans {a b c : HO} (h : Sim a b) (k : Sim b c) : Sim a c := by
  rcases h with rfl | ⟨h1, x, rfl⟩
  · exact k
  · rcases k with rfl | ⟨k1, _⟩
    · exact .inr ⟨h1, x, rfl⟩
    · cases k1
theorem Sim.nt {a b : HO} (h : Sim a b) (n : NT a) : NT b := by
  rcases h with rfl | ⟨_, x, rfl⟩
  · exact n
  · intro ps z
    cases z
theorem nt_of {o : HO} (h : (match o with | .tbl _ => false | _ => true) = true := by rfl) : NT o := fun ps z => by
  subst z
  cases h
theorem Fr.refl {R : Own} (h : SH) (H : Hp) : Fr R h h H H := fun _ o hp e _ => ⟨hp, o, e, Sim.refl o, fun _ => rfl⟩
theorem Fr.trans {R : Own} {h1 h2 h3 : SH} {H1 H2 H3 : Hp} (a : Fr R h1 h2 H1 H2) (b : Fr R h2 h3 H2 H3) : Fr R h1 h3 H1 H3 := fun p o hp e nt => by
  obtain ⟨q, o', e', s', r'⟩ := a p o hp e nt
  obtain ⟨q2, o2, e2, s2, r2⟩ := b p o' q e' (s'.nt nt)
  exact ⟨q2, o2, e2, s'.trans s2, fun z => (r2 z).trans (r' z)⟩
/-- all tracked things kept, more may be there -/
theorem Fr.ext {R : Own} {h : SH} {H H' : Hp} (k : ∀ p o, H p = some o → H' p = some o) : Fr R h h H H' := fun p o hp e _ => ⟨hp, o, k p o e, Sim.refl o, fun _ => rfl⟩
theorem Rd.sim {H H' : Hp} {p : Addr} {u : HO} (ht : ∀ ps, u ≠ .tbl ps) (r : Rd H p u) (k : ∀ o, H p = some o → NT o → ∃ o', H' p = some o' ∧ Sim o o') : Rd H' p u := by
  rcases r with r | ⟨ob, r⟩
  · obtain ⟨o', e, s⟩ := k _ r ht
    rcases s with rfl | ⟨_, b, rfl⟩
    · exact .inl e
    · exact .inr ⟨b, e⟩
  · obtain ⟨o', e, s⟩ := k _ r nt_of
    rcases s with rfl | ⟨s1, _⟩
    · exact .inr ⟨ob, e⟩
    · cases s1
theorem rd_there {H : Hp} {p : Addr} {u : HO} (r : Rd H p u) (ht : NT u) : ∃ o, H p = some o ∧ NT o := r.elim (fun z => ⟨_, z, ht⟩) fun ⟨_, z⟩ => ⟨_, z, nt_of⟩
theorem DK.there {H : Hp} {p : Addr} {tk : Bool} {ks : List D} {xs : List V} (r : DK H p tk ks xs) : ∃ o, H p = some o ∧ NT o := by
  rcases r with ⟨kv, r, e⟩ | ⟨kv, r, e⟩
  · exact rd_there r nt_of
  · exact rd_there r nt_of
theorem DK.sim {H H' : Hp} {p : Addr} {tk : Bool} {ks : List D} {xs : List V} (r : DK H p tk ks xs) (k : ∀ o, H p = some o → NT o → ∃ o', H' p = some o' ∧ Sim o o') : DK H' p tk ks xs := by
  rcases r with ⟨kv, r, e⟩ | ⟨kv, r, e⟩
  · exact .inl ⟨kv, Rd.sim nt_of r k, e⟩
  · exact .inr ⟨kv, Rd.sim nt_of r k, e⟩
section
variable {TL : List (Addr × Str)} {K : PySem.W.Frag} {W W' : Own} {H H' : Hp}
mutual
theorem Rep.keep (k : ∀ p o, ¬ W p → H p = some o → NT o → ¬ W' p ∧ ∃ o', H' p = some o' ∧ Sim o o') : ∀ (d : D) (v : V), Rep K W H d v → Rep K W' H' d v
  | .non, _, r => by simpa only [Rep] using r
  | .bl _, _, r => by simpa only [Rep] using r
  | .int _, _, r => by simpa only [Rep] using r
  | .str _, _, r => by simpa only [Rep] using r
  | .ref _, _, r => by simpa only [Rep] using r
  | .fn g q, v, r => by
    simp only [Rep] at r ⊢
    obtain ⟨f, c, e, ⟨nw, hf⟩, ⟨nt, nd⟩, nc, hc⟩ := r
    obtain ⟨n', o', e', s⟩ := k f _ nw hf nt
    have eo : o' = g f c := by
      rcases s with z | ⟨z, _⟩
      · exact z
      · rw [nd] at z; cases z
    obtain ⟨n2, o2, e2, s2⟩ := k c _ nc hc LamX.codeO_ne
    have eo2 : o2 = LamX.CodeO c q := by
      rcases s2 with z | ⟨z, _⟩
      · exact z
      · cases z
    exact ⟨f, c, e, ⟨n', by rw [e', eo]⟩, ⟨nt, nd⟩, n2, by rw [e2, eo2]⟩
  | .tup ds, v, r => by
    simp only [Rep] at r ⊢
    obtain ⟨p, xs, e, q, rs⟩ := r
    refine ⟨p, xs, e, ?_, Reps.keep k ds xs rs⟩
    rcases q with ⟨nw, q⟩ | q
    · obtain ⟨n', o', e', s⟩ := k p _ nw q nt_of
      have eo : o' = .tup xs := by
        rcases s with z | ⟨z, _⟩
        · exact z
        · cases z
      exact .inl ⟨n', by rw [e', eo]⟩
    · exact .inr q
  | .tupH ds, v, r => by
    simp only [Rep] at r ⊢
    obtain ⟨p, xs, e, ⟨nw, q⟩, rs⟩ := r
    obtain ⟨n', o', e', s⟩ := k p _ nw q nt_of
    have eo : o' = .tup xs := by
      rcases s with z | ⟨z, _⟩
      · exact z
      · cases z
    exact ⟨p, xs, e, ⟨n', by rw [e', eo]⟩, Reps.keep k ds xs rs⟩
  | .lst ds, v, r => by
    simp only [Rep] at r ⊢
    obtain ⟨p, xs, e, nw, q, rs⟩ := r
    obtain ⟨n', o', e', s⟩ := k p _ nw q nt_of
    have eo : o' = .lst xs := by
      rcases s with z | ⟨z, _⟩
      · exact z
      · cases z
    exact ⟨p, xs, e, n', by rw [e', eo], Reps.keep k ds xs rs⟩
  | .dic tk ks vs, v, r => by
    simp only [Rep] at r ⊢
    obtain ⟨p, xs, e, nw, q, rs⟩ := r
    obtain ⟨o, ho, nt⟩ := q.there
    exact ⟨p, xs, e, (k p o nw ho nt).1, q.sim fun o ho nt => (k p o nw ho nt).2, Reps.keep k vs xs rs⟩
  | .obj C ns vs, v, r => by
    simp only [Rep] at r ⊢
    obtain ⟨p, dx, fs, e, nw, q, en, rs⟩ := r
    obtain ⟨n', o', e', s⟩ := k p _ nw q nt_of
    have eo : o' = .ins C dx fs := by
      rcases s with z | ⟨z, _⟩
      · exact z
      · cases z
    exact ⟨p, dx, fs, e, n', by rw [e', eo], en, Reps.keep k vs _ rs⟩
theorem Reps.keep (k : ∀ p o, ¬ W p → H p = some o → NT o → ¬ W' p ∧ ∃ o', H' p = some o' ∧ Sim o o') : ∀ (ds : List D) (vs : List V), Reps K W H ds vs → Reps K W' H' ds vs
  | [], _, r => by simpa only [Reps] using r
  | d :: ds, vs, r => by
    simp only [Reps] at r ⊢
    obtain ⟨x, t, e, r1, r2⟩ := r
    exact ⟨x, t, e, Rep.keep k d x r1, Reps.keep k ds t r2⟩
end
variable {R : Own} {h h' : SH}
theorem keeps_fr (f : Fr R h h' H H') : ∀ p o, ¬ own R h p → H p = some o → NT o → ¬ own R h' p ∧ ∃ o', H' p = some o' ∧ Sim o o' := fun p o nw e nt => by
  obtain ⟨a, o', b, c, _⟩ := f p o (fun z => nw (.inr z)) e nt
  exact ⟨fun z => z.elim (fun z => nw (.inl z)) a, o', b, c⟩
theorem Rep.fr {d : D} {v : V} (r : Rep K (own R h) H d v) (f : Fr R h h' H H') : Rep K (own R h') H' d v := Rep.keep (keeps_fr f) d v r
theorem Reps.fr {ds : List D} {vs : List V} (r : Reps K (own R h) H ds vs) (f : Fr R h h' H H') : Reps K (own R h') H' ds vs := Reps.keep (keeps_fr f) ds vs r
theorem ER.fr {Γ : En} {σ : L2.St} (e : ER K (own R h) Γ σ H) (f : Fr R h h' H H') : ER K (own R h') Γ σ H' :=
  ⟨e.len, fun i d hi => let ⟨v, a, b⟩ := e.at_ i d hi; ⟨v, a, b.fr f⟩⟩
end
/-! ### the judgements -/
/-- which class an exception is of: the table of the law's classes -/
abbrev CA := Ex → Addr
def XR (cA : CA) (x : Ex) (cls : Value) (d : Option Addr) (H : Hp) : Prop :=
  cls = .ref (cA x) ∧ match x with
    | .text n => ∃ dd, d = some dd ∧ H dd = some (.xd [(("row" : Str), .int n)])
    | _ => d = none
section
variable {ε β γ ρ : Type}
def tE (TL : List (Addr × Str)) (K : PySem.W.Frag) (cA : CA) (Wx : WX) (Γ : En) (h : SH) (r : Res ε β) (out : β → D) (ho : β → SH) (he : ε → SH) : TE := fun σ H Q =>
  ∃ R, ER K (own R h) Γ σ H ∧ HR TL K R h H ∧
    r.wp (fun b => ∀ v H', HR TL K R (ho b) H' → Fr R h (ho b) H H' → Rep K (own R (ho b)) H' (out b) v → Q v H')
      (fun x e => ∀ cls d H', HR TL K R (he e) H' → Fr R h (he e) H H' → XR cA x cls d H' → Wx cls d σ H')
def tT (TL : List (Addr × Str)) (K : PySem.W.Frag) (cA : CA) (Wx : WX) (Γ : En) (h : SH) (r : Res ε β) (out : β → Bool) (ho : β → SH) (he : ε → SH) : TT := fun σ H Q =>
  ∃ R, ER K (own R h) Γ σ H ∧ HR TL K R h H ∧
    r.wp (fun b => ∀ H', HR TL K R (ho b) H' → Fr R h (ho b) H H' → Q (out b) H')
      (fun x e => ∀ cls d H', HR TL K R (he e) H' → Fr R h (he e) H H' → XR cA x cls d H' → Wx cls d σ H')
/-- argument lists -/
def tA (TL : List (Addr × Str)) (K : PySem.W.Frag) (cA : CA) (Wx : WX) (Γ : En) (h : SH) (r : Res ε β) (out : β → List D) (ho : β → SH) (he : ε → SH) : TA := fun σ H Q =>
  ∃ R, ER K (own R h) Γ σ H ∧ HR TL K R h H ∧
    r.wp (fun b => ∀ vs H', HR TL K R (ho b) H' → Fr R h (ho b) H H' → Reps K (own R (ho b)) H' (out b) vs → Q vs H')
      (fun x e => ∀ cls d H', HR TL K R (he e) H' → Fr R h (he e) H H' → XR cA x cls d H' → Wx cls d σ H')
inductive Fl (β γ ρ : Type) where
  | nx (b : β) | bk (c : γ) | ct (c : γ) | rt (v : ρ)
abbrev WK (E : XK) : WX := fun cls d _ H => E cls d H
def tS (TL : List (Addr × Str)) (K : PySem.W.Frag) (cA : CA) (E : XK) (Γ : En) (h : SH) (r : Res ε (Fl β γ ρ)) (oN : β → En × SH → Prop) (oJ : γ → En × SH) (oR : ρ → D × SH → Prop) (he : ε → SH) : TS := fun Dn σ H =>
  ∃ R, ER K (own R h) Γ σ H ∧ HR TL K R h H ∧
    r.wp (fun f => match f with
      | .nx b => ∀ S, oN b S → ∀ σ' H', ER K (own R S.2) S.1 σ' H' → HR TL K R S.2 H' → Fr R h S.2 H H' → Dn.nx σ' H'
      | .bk c => ∀ σ' H', ER K (own R (oJ c).2) (oJ c).1 σ' H' → HR TL K R (oJ c).2 H' → Fr R h (oJ c).2 H H' → Dn.bk σ' H'
      | .ct c => ∀ σ' H', ER K (own R (oJ c).2) (oJ c).1 σ' H' → HR TL K R (oJ c).2 H' → Fr R h (oJ c).2 H H' → Dn.ct σ' H'
      | .rt v => ∀ S, oR v S → ∀ x H', HR TL K R S.2 H' → Fr R h S.2 H H' → Rep K (own R S.2) H' S.1 x → Dn.rt x H')
      (fun x e => ∀ cls d H', HR TL K R (he e) H' → Fr R h (he e) H H' → XR cA x cls d H' → E cls d H')
end
abbrev EV {ε β : Type} (TL : List (Addr × Str)) (X : Cx) (cA : CA) (Wx : WX) (e : Expr) (Γ : En) (h : SH) (r : Res ε β) (out : β → D) (ho : β → SH) (he : ε → SH) : Prop := PE X e (tE TL X.K cA Wx Γ h r out ho he)
abbrev ET {ε β : Type} (TL : List (Addr × Str)) (X : Cx) (cA : CA) (Wx : WX) (e : Expr) (Γ : En) (h : SH) (r : Res ε β) (out : β → Bool) (ho : β → SH) (he : ε → SH) : Prop := PT X e (tT TL X.K cA Wx Γ h r out ho he)
abbrev EA {ε β : Type} (TL : List (Addr × Str)) (X : Cx) (cA : CA) (Wx : WX) (es : List Expr) (Γ : En) (h : SH) (r : Res ε β) (out : β → List D) (ho : β → SH) (he : ε → SH) : Prop := PA X es (tA TL X.K cA Wx Γ h r out ho he)
abbrev SS {ε β γ ρ : Type} (TL : List (Addr × Str)) (X : Cx) (cA : CA) (E : XK) (ss : List Stmt) (Γ : En) (h : SH) (r : Res ε (Fl β γ ρ)) (oN : β → En × SH → Prop) (oJ : γ → En × SH) (oR : ρ → D × SH → Prop) (he : ε → SH) : Prop :=
  PSs X ss (tS TL X.K cA E Γ h r oN oJ oR he)
/-- total, nothing changes -/
abbrev EP (TL : List (Addr × Str)) (X : Cx) (e : Expr) (Γ : En) (h : SH) (d : D) : Prop := PE X e fun σ H Q => ∃ R, ER X.K (own R h) Γ σ H ∧ HR TL X.K R h H ∧ ∀ v H', HR TL X.K R h H' → Fr R h h H H' → Rep X.K (own R h) H' d v → Q v H'
section
variable {X : Cx} {e : Expr} {t t' : TE}
theorem PEimp (p : PE X e t) (h : ∀ σ H Q, t' σ H Q → t σ H Q) : PE X e t' := ⟨fun pins s σ H Q I q => p.run pins s σ H Q I (h σ H Q q)⟩
theorem PEex {ι : Type} {t : ι → TE} (p : ∀ i, PE X e (t i)) : PE X e fun σ H Q => ∃ i, t i σ H Q := ⟨fun pins s σ H Q I ⟨i, q⟩ => (p i).run pins s σ H Q I q⟩
theorem PTimp {t t' : TT} (p : PT X e t) (h : ∀ σ H Q, t' σ H Q → t σ H Q) : PT X e t' := ⟨fun pins s σ H Q I q => p.run pins s σ H Q I (h σ H Q q)⟩
theorem PWimp {t t' : TT} (p : PW X e t) (h : ∀ σ H Q, t' σ H Q → t σ H Q) : PW X e t' := ⟨fun wh pins s σ H Q I q => p.run wh pins s σ H Q I (h σ H Q q)⟩
theorem PWex {ι : Type} {t : ι → TT} (p : ∀ i, PW X e (t i)) : PW X e fun σ H Q => ∃ i, t i σ H Q := ⟨fun wh pins s σ H Q I ⟨i, q⟩ => (p i).run wh pins s σ H Q I q⟩
theorem PAimp {es : List Expr} {t t' : TA} (p : PA X es t) (h : ∀ σ H Q, t' σ H Q → t σ H Q) : PA X es t' := ⟨fun pos pins s σ H Q I q => p.run pos pins s σ H Q I (h σ H Q q)⟩
theorem PAex {ι : Type} {es : List Expr} {t : ι → TA} (p : ∀ i, PA X es (t i)) : PA X es fun σ H Q => ∃ i, t i σ H Q := ⟨fun pos pins s σ H Q I ⟨i, q⟩ => (p i).run pos pins s σ H Q I q⟩
theorem PSimp {st : Stmt} {t t' : TS} (p : PS X st t) (h : ∀ D σ H, t' D σ H → t D σ H) : PS X st t' := ⟨fun pins s σ H D I q => p.run pins s σ H D I (h D σ H q)⟩
theorem PSsimp {ss : List Stmt} {t t' : TS} (p : PSs X ss t) (h : ∀ D σ H, t' D σ H → t D σ H) : PSs X ss t' := ⟨fun pins s σ H D I q => p.run pins s σ H D I (h D σ H q)⟩
theorem PSsex {ι : Type} {ss : List Stmt} {t : ι → TS} (p : ∀ i, PSs X ss (t i)) : PSs X ss fun D σ H => ∃ i, t i D σ H := ⟨fun pins s σ H D I ⟨i, q⟩ => (p i).run pins s σ H D I q⟩
end
end TH
set_option Elab.async false
set_option linter.all false
set_option maxRecDepth 100000
set_option maxHeartbeats 2000000
/-! TB2: rules of expressions: names, constants, operators, tests, displays. -/
namespace TH
open PySem PySem.Spec PyProof.Rows L2
/-! ### heaps -/
section
variable {TL : List (Addr × Str)} {K : PySem.W.Frag} {R : Own} {h h' : SH} {H H' : Hp}
theorem Fr.extN (k : LamX.ExtN H H') : Fr R h h H H' := fun p o hp e nt => ⟨hp, o, k p o e nt, Sim.refl o, fun _ => rfl⟩
theorem HR.extN (hr : HR TL K R h H) (k : LamX.ExtN H H') (tb : LamX.Tabs TL H') : HR TL K R h H' := by
  have f : Fr R h h H H' := Fr.extN k
  refine ⟨hr.nd, fun p hp => ⟨let ⟨o, e, n⟩ := (hr.ap p hp).1; ⟨o, k p o e n.1, n⟩, (hr.ap p hp).2⟩, fun q hq => ?_, tb⟩
  · have x := hr.at_ q hq
    obtain ⟨a, o⟩ := q
    cases o with
    | lst ds => obtain ⟨xs, e, r⟩ := x; exact ⟨xs, k _ _ e nt_of, r.fr f⟩
    | dic lk tk ks vs =>
      have sim : ∀ o, H a = some o → NT o → ∃ o', H' a = some o' ∧ Sim o o' := fun o e nt => ⟨o, k a o e nt, Sim.refl o⟩
      cases lk with
      | none =>
        obtain ⟨xs, e, r, n⟩ := x
        refine ⟨xs, e.sim sim, r.fr f, fun ob u z => ?_⟩
        obtain ⟨o, ho, nt⟩ := e.there
        have z2 : H' a = some (.frz ob u) := z
        rw [k a o ho nt] at z2
        exact n ob u (by rw [ho]; exact z2)
      | some u =>
        obtain ⟨xs, e, r, n, m⟩ := x
        exact ⟨xs, e.sim sim, r.fr f, k _ _ n (by obtain ⟨_, _, rfl⟩ := m; exact nt_of), m⟩
    | ins C ns vs => obtain ⟨dx, fs, e, en, r⟩ := x; exact ⟨dx, fs, k _ _ e nt_of, en, r.fr f⟩
    | dice => obtain ⟨x, y, z, e, r⟩ := x; exact ⟨x, y, z, k _ _ e nt_of, r⟩
    | tupN ds => obtain ⟨xs, ob, e, n, r⟩ := x; exact ⟨xs, ob, k _ _ e (by intro _ z; cases z), n, r.fr f⟩
theorem HR.fr0 (hr : HR TL K R h H) (k : ∀ p o, H p = some o → H' p = some o) : HR TL K R h H' := by
  have f : Fr R h h H H' := Fr.ext k
  refine ⟨hr.nd, fun p hp => ⟨let ⟨o, e, n⟩ := (hr.ap p hp).1; ⟨o, k p o e, n⟩, (hr.ap p hp).2⟩, fun q hq => ?_, hr.tb.ext k⟩
  · have x := hr.at_ q hq
    obtain ⟨a, o⟩ := q
    cases o with
    | lst ds => obtain ⟨xs, e, r⟩ := x; exact ⟨xs, k _ _ e, r.fr f⟩
    | dic lk tk ks vs =>
      have sim : ∀ o, H a = some o → NT o → ∃ o', H' a = some o' ∧ Sim o o' := fun o e _ => ⟨o, k a o e, Sim.refl o⟩
      cases lk with
      | none =>
        obtain ⟨xs, e, r, n⟩ := x
        refine ⟨xs, e.sim sim, r.fr f, fun ob u z => ?_⟩
        have hp : ∃ o, H a = some o := by
          rcases e with ⟨_, q, _⟩ | ⟨_, q, _⟩
          · exact q.elim (fun z => ⟨_, z⟩) fun ⟨_, z⟩ => ⟨_, z⟩
          · exact q.elim (fun z => ⟨_, z⟩) fun ⟨_, z⟩ => ⟨_, z⟩
        obtain ⟨o, ho⟩ := hp
        have z2 : H' a = some (.frz ob u) := z
        rw [k a o ho] at z2
        exact n ob u (by rw [ho]; exact z2)
      | some u =>
        obtain ⟨xs, e, r, n, m⟩ := x
        exact ⟨xs, e.sim sim, r.fr f, k _ _ n, m⟩
    | ins C ns vs => obtain ⟨dx, fs, e, en, r⟩ := x; exact ⟨dx, fs, k _ _ e, en, r.fr f⟩
    | dice => obtain ⟨x, y, z, e, r⟩ := x; exact ⟨x, y, z, k _ _ e, r⟩
    | tupN ds => obtain ⟨xs, ob, e, n, r⟩ := x; exact ⟨xs, ob, k _ _ e, n, r.fr f⟩
theorem HR.notown (hr : HR TL K R h H) {p : Addr} (hp : H p = none) : ¬ own R h p := by
  rintro (z | z)
  · obtain ⟨o, e, _⟩ := (hr.ap p z).1
    rw [hp] at e; cases e
  · obtain ⟨q, hq, e⟩ := List.mem_map.mp z
    have x := hr.at_ q hq
    rw [← e] at hp
    obtain ⟨a, o⟩ := q
    have hp' : H a = none := hp
    cases o with
    | lst ds => obtain ⟨xs, e, _⟩ := x; rw [show H a = _ from e] at hp'; cases hp'
    | dic lk tk ks vs =>
      have dk : ∀ {tk ks xs}, DK H a tk ks xs → False := fun {tk ks xs} e => by
        rcases e with ⟨_, q, _⟩ | ⟨_, q, _⟩ <;> rcases q with q | ⟨_, q⟩ <;> (rw [hp'] at q; cases q)
      cases lk with
      | none => obtain ⟨xs, e, _⟩ := x; exact dk e
      | some u => obtain ⟨xs, e, _⟩ := x; exact dk e
    | ins C ns vs => obtain ⟨dx, fs, e, _⟩ := x; rw [show H a = _ from e] at hp'; cases hp'
    | dice => obtain ⟨x, y, z, e, _⟩ := x; rw [show H a = _ from e] at hp'; cases hp'
    | tupN ds => obtain ⟨xs, ob, e, _⟩ := x; rw [show H a = _ from e] at hp'; cases hp'
theorem upd_keep {H : Hp} {p : Addr} {o : HO} (hp : H p = none) : ∀ b u, H b = some u → upd H p o b = some u := fun b u e => by
  rw [upd_ne (ne_of_none e hp)]; exact e
theorem Reps.get : ∀ {ds : List D} {xs : List V} {i : Nat} {d : D} {W : Own}, Reps K W H ds xs → ds[i]? = some d → ∃ x, xs[i]? = some x ∧ Rep K W H d x
  | [], _, i, _, _, _, e => by simp at e
  | a :: ds, _, 0, d, _, r, e => by
    simp only [Reps] at r
    obtain ⟨x, t, rfl, r1, _⟩ := r
    simp at e; subst e
    exact ⟨x, rfl, r1⟩
  | a :: ds, _, i + 1, d, _, r, e => by
    simp only [Reps] at r
    obtain ⟨x, t, rfl, _, r2⟩ := r
    obtain ⟨y, e1, e2⟩ := Reps.get (i := i) r2 (by simpa using e)
    exact ⟨y, by simpa using e1, e2⟩
theorem Reps.length : ∀ {ds : List D} {xs : List V} {W : Own}, Reps K W H ds xs → ds.length = xs.length
  | [], _, _, r => by simp only [Reps] at r; subst r; rfl
  | a :: ds, _, _, r => by
    simp only [Reps] at r
    obtain ⟨x, t, rfl, _, r2⟩ := r
    simp [Reps.length r2]
theorem Reps.of : ∀ {ds : List D} {xs : List V} {W : Own}, ds.length = xs.length → (∀ (i : Nat) d x, ds[i]? = some d → xs[i]? = some x → Rep K W H d x) → Reps K W H ds xs
  | [], [], _, _, _ => by simp [Reps]
  | [], _ :: _, _, h, _ => by simp at h
  | _ :: _, [], _, h, _ => by simp at h
  | d :: ds, x :: xs, _, h, k => by
    simp only [Reps]
    exact ⟨x, xs, rfl, k 0 d x rfl rfl, Reps.of (by simpa using h) fun i d' x' e1 e2 => k (i + 1) d' x' (by simpa using e1) (by simpa using e2)⟩
theorem Reps.nil {W : Own} : Reps K W H [] [] := by simp [Reps]
theorem Reps.cons {W : Own} {d : D} {ds : List D} {x : V} {xs : List V} (r : Rep K W H d x) (s : Reps K W H ds xs) : Reps K W H (d :: ds) (x :: xs) := by simp only [Reps]; exact ⟨x, xs, rfl, r, s⟩
theorem Reps.app : ∀ {ds es : List D} {xs ys : List V} {W : Own}, Reps K W H ds xs → Reps K W H es ys → Reps K W H (ds ++ es) (xs ++ ys)
  | [], es, xs, ys, _, r, s => by simp only [Reps] at r; subst r; exact s
  | d :: ds, es, xs, ys, _, r, s => by
    simp only [Reps] at r
    obtain ⟨x, t, rfl, r1, r2⟩ := r
    exact .cons r1 (Reps.app r2 s)
theorem Reps.take : ∀ {ds : List D} {xs : List V} {W : Own} (n : Nat), Reps K W H ds xs → Reps K W H (ds.take n) (xs.take n)
  | _, _, _, 0, _ => by simp [Reps]
  | [], _, _, _ + 1, r => by simp only [Reps] at r; subst r; simp [Reps]
  | d :: ds, _, _, n + 1, r => by
    simp only [Reps] at r
    obtain ⟨x, t, rfl, r1, r2⟩ := r
    exact .cons r1 (Reps.take n r2)
theorem Reps.drop : ∀ {ds : List D} {xs : List V} {W : Own} (n : Nat), Reps K W H ds xs → Reps K W H (ds.drop n) (xs.drop n)
  | _, _, _, 0, r => r
  | [], _, _, _ + 1, r => by simp only [Reps] at r; subst r; simp [Reps]
  | d :: ds, _, _, n + 1, r => by
    simp only [Reps] at r
    obtain ⟨x, t, rfl, r1, r2⟩ := r
    exact Reps.drop n r2
/-- a new tuple, a new list -/
theorem Rep.newT {ds : List D} {xs : List V} {p : Addr} (hr : HR TL K R h H) (hp : H p = none) (r : Reps K (own R h) H ds xs) : Rep K (own R h) (upd H p (.tup xs)) (.tup ds) (.ref p) := by
  simp only [Rep]
  exact ⟨p, xs, rfl, .inl ⟨hr.notown hp, upd_same⟩, r.fr (Fr.ext (upd_keep hp))⟩
theorem Rep.newL {ds : List D} {xs : List V} {p : Addr} (hr : HR TL K R h H) (hp : H p = none) (r : Reps K (own R h) H ds xs) : Rep K (own R h) (upd H p (.lst xs)) (.lst ds) (.ref p) := by
  simp only [Rep]
  exact ⟨p, xs, rfl, hr.notown hp, upd_same, r.fr (Fr.ext (upd_keep hp))⟩
theorem SqT.of_rep {ds : List D} {x : V} {W : Own} (r : Rep K W H (.tup ds) x) : ∃ p xs, x = .ref p ∧ SqT K H p xs ∧ Reps K W H ds xs := by
  simp only [Rep] at r
  obtain ⟨p, xs, e, q, r⟩ := r
  exact ⟨p, xs, e, q.elim (fun z => .inl (.inl z.2)) .inr, r⟩
theorem Rep.lst_at {ds : List D} {x : V} {W : Own} (r : Rep K W H (.lst ds) x) : ∃ p xs, x = .ref p ∧ H p = some (.lst xs) ∧ Reps K W H ds xs := by
  simp only [Rep] at r
  obtain ⟨p, xs, e, _, q, r⟩ := r
  exact ⟨p, xs, e, q, r⟩
theorem SqL.of_rep {ds : List D} {x : V} {W : Own} (r : Rep K W H (.lst ds) x) : ∃ p xs, x = .ref p ∧ SqL K H p xs ∧ Reps K W H ds xs := by
  obtain ⟨p, xs, e, q, r⟩ := r.lst_at
  exact ⟨p, xs, e, .inl (.inl q), r⟩
end
/-- what may stand for a list that is read: a frozen one, a cell -/
def IsL (h : SH) (d : D) (ds : List D) : Prop := d = .lst ds ∨ ∃ a, d = .ref a ∧ (a, O.lst ds) ∈ h
theorem IsL.frz {h : SH} {ds : List D} : IsL h (.lst ds) ds := .inl rfl
theorem IsL.at_ {TL : List (Addr × Str)} {K : PySem.W.Frag} {R : Own} {h : SH} {H : Hp} {d : D} {ds : List D} {x : V} (i : IsL h d ds) (hr : HR TL K R h H) (r : Rep K (own R h) H d x) : ∃ p xs, x = .ref p ∧ H p = some (.lst xs) ∧ Reps K (own R h) H ds xs := by
  rcases i with rfl | ⟨a, rfl, m⟩
  · exact r.lst_at
  · simp only [Rep] at r
    obtain ⟨xs, e, r'⟩ := hr.at_ _ m
    exact ⟨a, xs, r, e, r'⟩
theorem IsL.sq {TL : List (Addr × Str)} {K : PySem.W.Frag} {R : Own} {h : SH} {H : Hp} {d : D} {ds : List D} {x : V} (i : IsL h d ds) (hr : HR TL K R h H) (r : Rep K (own R h) H d x) : ∃ p xs, x = .ref p ∧ SqL K H p xs ∧ Reps K (own R h) H ds xs := by
  rcases i with rfl | ⟨a, rfl, m⟩
  · exact SqL.of_rep r
  · simp only [Rep] at r
    obtain ⟨xs, e, r'⟩ := hr.at_ _ m
    exact ⟨a, xs, r, .inl (.inl e), r'⟩
section
variable {TL : List (Addr × Str)} {X : Cx} {cA : CA} {Wx : WX} {Γ : En} {h : SH} {ε β β1 β2 γ : Type} {he : ε → SH} {e a b c : Expr} {pos : Pos} {d da db : D}
/-! ### names, constants -/
theorem ep_var (i : Nat) {x : Str} (hd : Γ[i]? = some (some d) := by rfl) (hN : X.N[i]? = some x := by rfl) (hv : Vis X.env.scope x := by first | exact Or.inl rfl | exact Or.inr (Or.inl rfl) | exact Or.inr (Or.inr rfl))
    (hdb : (x == ("__debug__" : Str)) = false := by decide) (hcd : (x == ("__classdict__" : Str)) = false := by decide) : EP TL X (.Name x pos) Γ h d :=
  PEimp (pe_var hN hv hdb hcd) fun σ H Q ⟨R, hE, hH, k⟩ => let ⟨v, a, b⟩ := hE.at_ i d hd; ⟨v, a, k v H hH (Fr.refl h H) b⟩
theorem ep_int {i j} : EP TL X (.Constant (.int i) j pos) Γ h (.int i) := PEimp pe_int fun σ H Q ⟨R, hE, hH, k⟩ => k _ H hH (Fr.refl h H) (by simp [Rep])
theorem ep_bl {i j} : EP TL X (.Constant (.bool i) j pos) Γ h (.bl i) := PEimp pe_bl fun σ H Q ⟨R, hE, hH, k⟩ => k _ H hH (Fr.refl h H) (by simp [Rep])
theorem ep_str {x j} (ok : PyData.strOk x = true := by decide +kernel) : EP TL X (.Constant (.str x) j pos) Γ h (.str x) := PEimp pe_str fun σ H Q ⟨R, hE, hH, k⟩ => k _ H hH (Fr.refl h H) (by simp [Rep, ok])
/-- a module's constant -/
theorem ep_glob {x : Str} {v : V} {u : Value} (hg : Gl X x) (hm : X.mg x = some u) (r : RelV v u) (hv : ∀ W H, Rep X.K W H d v) (hdb : (x == ("__debug__" : Str)) = false := by decide) : EP TL X (.Name x pos) Γ h d :=
  PEimp (pe_glob hg hm r hdb) fun σ H Q ⟨R, hE, hH, k⟩ => k _ H hH (Fr.refl h H) (hv _ _)
theorem ev_ep (p : EP TL X e Γ h d) : EV TL X cA Wx e Γ h (.ok () : Res ε Unit) (fun _ => d) (fun _ => h) he :=
  PEimp p fun σ H Q ⟨R, hE, hH, k⟩ => ⟨R, hE, hH, k⟩
theorem ep_ev {b : β} {out : β → D} {ho : β → SH} (p : EV TL X cA Wx e Γ h (.ok b : Res ε β) out ho he) (hh : ho b = h := by rfl) : EP TL X e Γ h (out b) :=
  PEimp p fun σ H Q ⟨R, hE, hH, k⟩ => ⟨R, hE, hH, fun v H' a b c => k v H' (by rw [← hh]; exact a) (by rw [hh] at b; exact b) (by rw [hh] at c; exact c)⟩
/-! ### two operands -/
/-- an operation on values: none where it is not covered -/
def rOp {γ : Type} (TL : List (Addr × Str)) (K : PySem.W.Frag) (h : SH) (da db : D) (r : Option γ) (out : γ → D) : R2 := fun x y H Q => ∃ R, HR TL K R h H ∧ Rep K (own R h) H da x ∧ Rep K (own R h) H db y ∧
  ∃ g, r = some g ∧ ∀ v H', HR TL K R h H' → Fr R h h H H' → Rep K (own R h) H' (out g) v → Q v H'
structure Two (X : Cx) (P : R2 → Prop) (e a b : Expr) : Prop where
  pe : ∀ {rr : R2} {ta tb : TE}, P rr → PE X a ta → PE X b tb → PE X e (tOp rr ta tb)
  ex : ∀ {ι : Type} {rr : ι → R2}, (∀ i, P (rr i)) → P fun x y H Q => ∃ i, rr i x y H Q
theorem OpR.ex {ι : Type} {f : Value → Value → Sem Value} {rr : ι → R2} (k : ∀ i, OpR X f (rr i)) : OpR X f fun x y H Q => ∃ i, rr i x y H Q :=
  fun pins s σ H x y v u Q I rx ry ⟨i, q⟩ => k i pins s σ H x y v u Q I rx ry q
theorem two_bin {op : Operator} : Two X (OpR X (binaryOp op)) (.BinOp a op b pos) a b := ⟨fun p ha hb => pe_op p ha hb, OpR.ex⟩
theorem two_cmp {op : CmpOp} (hm : behindInMarks op b = false) : Two X (OpR X (compareOp op)) (.Compare a [op] [b] pos) a b := ⟨fun p ha hb => pe_cmpR p ha hb hm, OpR.ex⟩
theorem two_ix (hs : PlainIx b := by intro _ _; rfl) : Two X (IxR X) (.Subscript a b pos) a b := ⟨fun p ha hb => pe_ix p ha hb hs, fun k value slice pins s σ H x y v u Q I rx ry ⟨i, q⟩ hs => k i value slice pins s σ H x y v u Q I rx ry q hs⟩
/-- the reading of two operands in a row -/
theorem two_read {TL : List (Addr × Str)} {K : PySem.W.Frag} {ra : Res ε β1} {oa : β1 → D} {h1 : β1 → SH} {rb : β1 → Res ε β2} {ob : β1 → β2 → D} {h2 : β1 → β2 → SH} {rop : β1 → β2 → Option γ} {oo : β1 → β2 → γ → D} {pk : β1 → β2 → γ → β} {out : β → D} {ho : β → SH}
    (e1 : ∀ x y g, out (pk x y g) = oo x y g) (e2 : ∀ x y g, ho (pk x y g) = h2 x y) {σ : L2.St} {H : Hp} {Q : VK}
    (q : tE TL K cA Wx Γ h (ra.bind fun x => (rb x).bind fun y => (Res.ofO (rop x y)).bind fun g => .ok (pk x y g)) out ho he σ H Q) :
    tOp (fun x y H Q => ∃ i : β1 × β2, rOp TL K (h2 i.1 i.2) (oa i.1) (ob i.1 i.2) (rop i.1 i.2) (oo i.1 i.2) x y H Q) (tE TL K cA Wx Γ h ra oa h1 he) (fun σ H Q => ∃ x, tE TL K cA Wx Γ (h1 x) (rb x) (ob x) (h2 x) he σ H Q) σ H Q := by
  obtain ⟨R, hE, hH, w⟩ := q
  refine ⟨R, hE, hH, Res.wp_mono ?_ (fun x e k => k) (Res.wp_bind.mp w)⟩
  intro x w1 v H1 hH1 f1 r1
  refine ⟨x, R, hE.fr f1, hH1, Res.wp_mono ?_ (fun x e k cls d H' a b c => k cls d H' a (f1.trans b) c) (Res.wp_bind.mp w1)⟩
  intro y w2 u H2 hH2 f2 r2
  have f12 := f1.trans f2
  cases e : rop x y with
  | none => rw [e] at w2; exact False.elim w2
  | some g =>
    rw [e] at w2
    have w3 : ∀ v H', HR TL K R (ho (pk x y g)) H' → Fr R h (ho (pk x y g)) H H' → Rep K (own R (ho (pk x y g))) H' (out (pk x y g)) v → Q v H' := w2
    refine ⟨(x, y), R, hH2, r1.fr f2, r2, g, e, fun v' H' a b c => w3 v' H' ?_ ?_ ?_⟩
    · rw [e2]; exact a
    · rw [e2]; exact f12.trans b
    · rw [e2, e1]; exact c
theorem ev_two {P : R2 → Prop} (T : Two X P e a b) {ra : Res ε β1} {oa : β1 → D} {h1 : β1 → SH} {rb : β1 → Res ε β2} {ob : β1 → β2 → D} {h2 : β1 → β2 → SH} {rop : β1 → β2 → Option γ} {oo : β1 → β2 → γ → D} (pk : β1 → β2 → γ → β) {out : β → D} {ho : β → SH}
    (ha : EV TL X cA Wx a Γ h ra oa h1 he) (hb : ∀ x, EV TL X cA Wx b Γ (h1 x) (rb x) (ob x) (h2 x) he) (hop : ∀ x y, P (rOp TL X.K (h2 x y) (oa x) (ob x y) (rop x y) (oo x y)))
    (e1 : ∀ x y g, out (pk x y g) = oo x y g := by intros; rfl) (e2 : ∀ x y g, ho (pk x y g) = h2 x y := by intros; rfl) :
    EV TL X cA Wx e Γ h (ra.bind fun x => (rb x).bind fun y => (Res.ofO (rop x y)).bind fun g => .ok (pk x y g)) out ho he :=
  PEimp (T.pe (T.ex fun i : β1 × β2 => hop i.1 i.2) ha (PEex hb)) fun _ _ _ q => two_read e1 e2 q
/-- both operands plain -/
theorem ev_two0 {P : R2 → Prop} (T : Two X P e a b) {rop : Option γ} {oo : γ → D} (ha : EP TL X a Γ h da) (hb : EP TL X b Γ h db) (hop : P (rOp TL X.K h da db rop oo)) : EV TL X cA Wx e Γ h (Res.ofO rop) oo (fun _ => h) he :=
  PEimp (T.pe hop ha hb) fun σ H Q ⟨R, hE, hH, w⟩ => ⟨R, hE, hH, fun v H1 hH1 f1 r1 => ⟨R, hE.fr f1, hH1, fun u H2 hH2 f2 r2 => ⟨R, hH2, r1.fr f2, r2, by
    cases rop with
    | none => exact False.elim w
    | some g => exact ⟨g, rfl, fun v' H' a b c => w v' H' a ((f1.trans f2).trans b) c⟩⟩⟩⟩
theorem ep_two {P : R2 → Prop} (T : Two X P e a b) (ha : EP TL X a Γ h da) (hb : EP TL X b Γ h db) (hop : P (rOp TL X.K h da db (some ()) fun _ => d)) : EP TL X e Γ h d :=
  PEimp (T.pe hop ha hb) fun σ H Q ⟨R, hE, hH, w⟩ => ⟨R, hE, hH, fun v H1 hH1 f1 r1 => ⟨R, hE.fr f1, hH1, fun u H2 hH2 f2 r2 => ⟨R, hH2, r1.fr f2, r2, (), rfl, fun v' H' a b c => w v' H' a ((f1.trans f2).trans b) c⟩⟩⟩
/-! ### operations on ints -/
theorem Rep.int {K : PySem.W.Frag} {W : Own} {H : Hp} {i : Int} : Rep K W H (.int i) (.int i) := by simp [Rep]
theorem Rep.bl {K : PySem.W.Frag} {W : Own} {H : Hp} {i : Bool} : Rep K W H (.bl i) (.bl i) := by simp [Rep]
theorem Rep.int_eq {K : PySem.W.Frag} {W : Own} {H : Hp} {i : Int} {x : V} (r : Rep K W H (.int i) x) : x = .int i := by simpa only [Rep] using r
theorem Rep.bl_eq {K : PySem.W.Frag} {W : Own} {H : Hp} {i : Bool} {x : V} (r : Rep K W H (.bl i) x) : x = .bl i := by simpa only [Rep] using r
theorem Rep.str_eq {K : PySem.W.Frag} {W : Own} {H : Hp} {i : Str} {x : V} (r : Rep K W H (.str i) x) : x = .str i ∧ PyData.strOk i = true := by simpa only [Rep] using r
theorem OpR.imp {f : Value → Value → Sem Value} {r r' : R2} (k : OpR X f r) (h : ∀ x y H Q, r' x y H Q → r x y H Q) : OpR X f r' := fun pins s σ H x y v u Q I rx ry q => k pins s σ H x y v u Q I rx ry (h x y H Q q)
theorem oi_of {f : Value → Value → Sem Value} {C : Int → Int → Prop} {g : Int → Int → V} (o : OpR X f (rI C g)) {i j : Int} {r : Option γ} {out : γ → D} (k : ∀ z, r = some z → C i j ∧ ∀ W H, Rep X.K W H (out z) (g i j)) : OpR X f (rOp TL X.K h (.int i) (.int j) r out) :=
  OpR.imp o fun x y H Q ⟨R, hR, rx, ry, z, ez, q⟩ => ⟨i, j, rx.int_eq, ry.int_eq, (k z ez).1, q _ H hR (Fr.refl h H) ((k z ez).2 _ _)⟩
theorem oi0_of {f : Value → Value → Sem Value} {g : Int → Int → V} (o : OpR X f (rI0 g)) {i j : Int} {d : D} (k : ∀ W H, Rep X.K W H d (g i j)) : OpR X f (rOp TL X.K h (.int i) (.int j) (some ()) fun _ => d) :=
  OpR.imp o fun x y H Q ⟨R, hR, rx, ry, z, ez, q⟩ => ⟨i, j, rx.int_eq, ry.int_eq, q _ H hR (Fr.refl h H) (k _ _)⟩
variable {i j : Int}
theorem oi_add : OpR X (binaryOp .Add) (rOp TL X.K h (.int i) (.int j) (some ()) fun _ => .int (i + j)) := oi0_of op_add fun _ _ => Rep.int
theorem oi_sub : OpR X (binaryOp .Sub) (rOp TL X.K h (.int i) (.int j) (some ()) fun _ => .int (i - j)) := oi0_of op_sub fun _ _ => Rep.int
def divG (i j : Int) : Option Int := if 0 < j ∧ j < 1073741824 then some (i / j) else none
def modG (i j : Int) : Option Int := if 0 < j then some (i % j) else none
theorem oi_div : OpR X (binaryOp .FloorDiv) (rOp TL X.K h (.int i) (.int j) (divG i j) fun z => .int z) := oi_of op_fdiv fun z hz => by
  unfold divG at hz; split at hz
  · rename_i c; cases hz; exact ⟨c, fun _ _ => Rep.int⟩
  · cases hz
theorem oi_mod : OpR X (binaryOp .Mod) (rOp TL X.K h (.int i) (.int j) (modG i j) fun z => .int z) := oi_of op_mod fun z hz => by
  unfold modG at hz; split at hz
  · rename_i c; cases hz; exact ⟨c, fun _ _ => Rep.int⟩
  · cases hz
/-- by a written divisor -/
theorem oi_divC (hj : 0 < j ∧ j < 1073741824 := by decide) : OpR X (binaryOp .FloorDiv) (rOp TL X.K h (.int i) (.int j) (some ()) fun _ => .int (i / j)) := oi_of op_fdiv fun z _ => ⟨hj, fun _ _ => Rep.int⟩
theorem oi_modC (hj : 0 < j := by decide) : OpR X (binaryOp .Mod) (rOp TL X.K h (.int i) (.int j) (some ()) fun _ => .int (i % j)) := oi_of op_mod fun z _ => ⟨hj, fun _ _ => Rep.int⟩
theorem oi_mulR (hj : -(2 ^ 64) < j ∧ j < 2 ^ 64 := by decide) : OpR X (binaryOp .Mult) (rOp TL X.K h (.int i) (.int j) (some ()) fun _ => .int (i * j)) := oi_of op_mul fun z _ => ⟨.inr hj, fun _ _ => Rep.int⟩
theorem oi_mulL (hi : -(2 ^ 64) < i ∧ i < 2 ^ 64 := by decide) : OpR X (binaryOp .Mult) (rOp TL X.K h (.int i) (.int j) (some ()) fun _ => .int (i * j)) := oi_of op_mul fun z _ => ⟨.inl hi, fun _ _ => Rep.int⟩
theorem oi_powC (hc : 0 ≤ j ∧ j ≤ 1000000 ∧ i.natAbs < 2 ^ 64 := by decide) : OpR X (binaryOp .Pow) (rOp TL X.K h (.int i) (.int j) (some ()) fun _ => .int (i ^ j.toNat)) := oi_of op_pow fun z _ => ⟨hc, fun _ _ => Rep.int⟩
theorem oc_lt : OpR X (compareOp .Lt) (rOp TL X.K h (.int i) (.int j) (some ()) fun _ => .bl (decide (i < j))) := oi0_of op_lt fun _ _ => Rep.bl
theorem oc_le : OpR X (compareOp .LtE) (rOp TL X.K h (.int i) (.int j) (some ()) fun _ => .bl (decide (i ≤ j))) := oi0_of op_le fun _ _ => Rep.bl
theorem oc_gt : OpR X (compareOp .Gt) (rOp TL X.K h (.int i) (.int j) (some ()) fun _ => .bl (decide (j < i))) := oi0_of op_gt fun _ _ => Rep.bl
theorem oc_ge : OpR X (compareOp .GtE) (rOp TL X.K h (.int i) (.int j) (some ()) fun _ => .bl (decide (j ≤ i))) := oi0_of op_ge fun _ _ => Rep.bl
end
end TH
set_option Elab.async false
set_option linter.all false
set_option maxRecDepth 100000
set_option maxHeartbeats 2000000
/-! TB3: rules of expressions: equality, membership, displays, subscripts, slices, fields, tests. -/
namespace TH
open PySem PySem.Spec PyProof.Rows L2
/-! ### deep values as data -/
mutual
def isPy : D → Bool
  | .non => true
  | .bl _ => true
  | .int _ => true
  | .str _ => true
  | .tup ds => isPys ds
  | .tupH ds => isPys ds
  | .lst ds => isPys ds
  | .dic _ _ _ => false
  | .obj _ _ _ => false
  | .ref _ => false
  | .fn _ _ => false
def isPys : List D → Bool
  | [] => true
  | d :: ds => isPy d && isPys ds
end
mutual
def py : D → PyData
  | .non => .none
  | .bl b => .bool b
  | .int i => .int i
  | .str x => .str x
  | .tup ds => .tuple (pys ds)
  | .tupH ds => .tuple (pys ds)
  | .lst ds => .list (pys ds)
  | .dic _ _ _ => .none
  | .obj _ _ _ => .none
  | .ref _ => .none
  | .fn _ _ => .none
def pys : List D → List PyData
  | [] => []
  | d :: ds => py d :: pys ds
end
section
variable {TL : List (Addr × Str)} {K : PySem.W.Frag} {W : Own} {H : Hp}
mutual
theorem Rep.dp : ∀ (d : D) (x : V), Rep K W H d x → isPy d = true → Dp K H x (py d) ∧ (py d).canLay0 = true
  | .non, x, r, _ => by simp only [Rep] at r; subst r; simp only [py]; exact ⟨.non, by simp [PyData.canLay0]⟩
  | .bl b, x, r, _ => by simp only [Rep] at r; subst r; simp only [py]; exact ⟨.bl b, by simp [PyData.canLay0]⟩
  | .int b, x, r, _ => by simp only [Rep] at r; subst r; simp only [py]; exact ⟨.int b, by simp [PyData.canLay0]⟩
  | .str b, x, r, _ => by simp only [Rep] at r; obtain ⟨rfl, ok⟩ := r; simp only [py]; exact ⟨.str b, by simp [PyData.canLay0, ok]⟩
  | .tup ds, x, r, p => by
    obtain ⟨a, xs, rfl, q, rs⟩ := SqT.of_rep r
    obtain ⟨h1, h2⟩ := Reps.dp ds xs rs (by simpa only [isPy] using p)
    simp only [py]
    exact ⟨.tup q h1, by simpa only [PyData.canLay0] using h2⟩
  | .tupH ds, x, r, p => by
    obtain ⟨a, xs, rfl, q, rs⟩ := SqT.of_rep (ds := ds) (by
      simp only [Rep] at r ⊢
      obtain ⟨p, xs, e, q, rs⟩ := r
      exact ⟨p, xs, e, .inl q, rs⟩)
    obtain ⟨h1, h2⟩ := Reps.dp ds xs rs (by simpa only [isPy] using p)
    simp only [py]
    exact ⟨.tup q h1, by simpa only [PyData.canLay0] using h2⟩
  | .lst ds, x, r, p => by
    obtain ⟨a, xs, rfl, q, rs⟩ := SqL.of_rep r
    obtain ⟨h1, h2⟩ := Reps.dp ds xs rs (by simpa only [isPy] using p)
    simp only [py]
    exact ⟨.lst q h1, by simpa only [PyData.canLay0] using h2⟩
  | .dic _ _ _, _, _, p => by simp [isPy] at p
  | .obj _ _ _, _, _, p => by simp [isPy] at p
  | .ref _, _, _, p => by simp [isPy] at p
  | .fn _ _, _, _, p => by simp [isPy] at p
theorem Reps.dp : ∀ (ds : List D) (xs : List V), Reps K W H ds xs → isPys ds = true → DpAll K H xs (pys ds) ∧ PyData.canLayAll0 (pys ds) = true
  | [], xs, r, _ => by simp only [Reps] at r; subst r; simp only [pys]; exact ⟨.nil, by simp [PyData.canLayAll0]⟩
  | d :: ds, xs, r, p => by
    simp only [Reps] at r
    obtain ⟨x, t, rfl, r1, r2⟩ := r
    simp only [isPys, Bool.and_eq_true] at p
    obtain ⟨h1, h2⟩ := Rep.dp d x r1 p.1
    obtain ⟨h3, h4⟩ := Reps.dp ds t r2 p.2
    simp only [pys]
    exact ⟨.cons h1 h3, by simp [PyData.canLayAll0, h2, h4]⟩
end
end
/-- a value with its list looked up, if it is a cell -/
def Vw (h : SH) (d d' : D) : Prop := d = d' ∨ ∃ a ds, d = .ref a ∧ (a, O.lst ds) ∈ h ∧ d' = .lst ds
theorem Vw.self {h : SH} {d : D} : Vw h d d := .inl rfl
theorem Vw.cell {h : SH} {a : Addr} {ds : List D} (m : (a, O.lst ds) ∈ h) : Vw h (.ref a) (.lst ds) := .inr ⟨a, ds, rfl, m, rfl⟩
theorem Vw.dp {TL : List (Addr × Str)} {K : PySem.W.Frag} {R : Own} {h : SH} {H : Hp} {d d' : D} {x : V} (v : Vw h d d') (hr : HR TL K R h H) (r : Rep K (own R h) H d x) (p : isPy d' = true) : Dp K H x (py d') ∧ (py d').canLay0 = true := by
  rcases v with rfl | ⟨a, ds, rfl, m, rfl⟩
  · exact Rep.dp d x r p
  · simp only [Rep] at r
    obtain ⟨xs, e, r'⟩ := hr.at_ _ m
    obtain ⟨h1, h2⟩ := Reps.dp ds xs r' (by simpa only [isPy] using p)
    subst r
    simp only [py]
    exact ⟨.lst (.inl (.inl e)) h1, by simpa only [PyData.canLay0] using h2⟩
/-- types whose values are told apart as Python does -/
structure TyE {α : Type} [DecidableEq α] (f : α → D) (n : Nat) : Prop where
  is : ∀ x, isPy (f x) = true
  dp : ∀ x, (py (f x)).depth ≤ n
  eq : ∀ x y, PyData.eqv (py (f x)) (py (f y)) = decide (x = y)
theorem tye_int : TyE (fun i : Int => D.int i) 0 := ⟨fun _ => by simp [isPy], fun _ => by simp [py, PyData.depth], fun x y => by simp [py, PyData.eqv]; first | done | exact Bool.beq_eq_decide_eq _ _ | (rw [Bool.eq_iff_iff]; simp)⟩
theorem tye_str : TyE (fun i : Str => D.str i) 0 := ⟨fun _ => by simp [isPy], fun _ => by simp [py, PyData.depth], fun x y => by simp [py, PyData.eqv]; first | done | exact Bool.beq_eq_decide_eq _ _ | (rw [Bool.eq_iff_iff]; simp)⟩
theorem tye_bl : TyE (fun i : Bool => D.bl i) 0 := ⟨fun _ => by simp [isPy], fun _ => by simp [py, PyData.depth], fun x y => by simp [py, PyData.eqv]; first | done | exact Bool.beq_eq_decide_eq _ _ | (rw [Bool.eq_iff_iff]; simp)⟩
section
variable {α β γ δ κ : Type} [DecidableEq α] [DecidableEq β] [DecidableEq γ] [DecidableEq δ] [DecidableEq κ] {f : α → D} {g : β → D} {u : γ → D} {w : δ → D} {z : κ → D} {n m k l o : Nat}
theorem isPys_map (T : TyE f n) : ∀ xs : List α, isPys (xs.map f) = true
  | [] => by simp [isPys]
  | x :: xs => by simp [isPys, T.is, isPys_map T xs]
theorem depth_map (T : TyE f n) : ∀ xs : List α, PyData.depthAll (pys (xs.map f)) ≤ n
  | [] => by simp [pys, PyData.depthAll]
  | x :: xs => by
    have h1 := T.dp x
    have h2 := depth_map T xs
    simp only [List.map_cons, pys, PyData.depthAll]
    omega
theorem eqv_map (T : TyE f n) : ∀ xs ys : List α, PyData.eqvAll (pys (xs.map f)) (pys (ys.map f)) = decide (xs = ys)
  | [], [] => by simp [pys, PyData.eqvAll]
  | [], _ :: _ => by simp [pys, PyData.eqvAll]
  | _ :: _, [] => by simp [pys, PyData.eqvAll]
  | x :: xs, y :: ys => by
    simp only [List.map_cons, pys, PyData.eqvAll, T.eq, eqv_map T xs ys]
    rw [← Bool.decide_and]
    simp
theorem tye_lst (T : TyE f n) : TyE (fun l : List α => D.lst (l.map f)) (n + 1) :=
  ⟨fun x => by simpa only [isPy] using isPys_map T x, fun x => by have := depth_map T x; simp only [py, PyData.depth]; omega, fun x y => by simpa only [py, PyData.eqv] using eqv_map T x y⟩
theorem tye_tup (T : TyE f n) : TyE (fun l : List α => D.tup (l.map f)) (n + 1) :=
  ⟨fun x => by simpa only [isPy] using isPys_map T x, fun x => by have := depth_map T x; simp only [py, PyData.depth]; omega, fun x y => by simpa only [py, PyData.eqv] using eqv_map T x y⟩
theorem tye_2 (T : TyE f n) (U : TyE g m) : TyE (fun p : α × β => D.tup [f p.1, g p.2]) (max n m + 1) :=
  ⟨fun x => by simp [isPy, isPys, T.is, U.is], fun x => by have := T.dp x.1; have := U.dp x.2; simp only [py, pys, PyData.depth, PyData.depthAll]; omega,
   fun x y => by simp only [py, pys, PyData.eqv, PyData.eqvAll, T.eq, U.eq]; rw [Bool.and_true, ← Bool.decide_and]; simp [Prod.ext_iff]⟩
theorem tye_3 (T : TyE f n) (U : TyE g m) (V : TyE u k) : TyE (fun p : α × β × γ => D.tup [f p.1, g p.2.1, u p.2.2]) (max n (max m k) + 1) :=
  ⟨fun x => by simp [isPy, isPys, T.is, U.is, V.is], fun x => by have := T.dp x.1; have := U.dp x.2.1; have := V.dp x.2.2; simp only [py, pys, PyData.depth, PyData.depthAll]; omega,
   fun x y => by simp only [py, pys, PyData.eqv, PyData.eqvAll, T.eq, U.eq, V.eq]; rw [Bool.and_true, ← Bool.decide_and, ← Bool.decide_and]; simp [Prod.ext_iff]⟩
end
/-- two deep values compared -/
def deqG (a b : D) : Option Bool := if isPy a = true ∧ isPy b = true ∧ (py a).depth ≤ 64 ∧ (py b).depth ≤ 64 then some (PyData.eqv (py a) (py b)) else none
def dneG (a b : D) : Option Bool := (deqG a b).map not
section
variable {TL : List (Addr × Str)} {X : Cx} {cA : CA} {Wx : WX} {Γ : En} {h : SH} {ε β β1 β2 γ : Type} {he : ε → SH} {e a b c : Expr} {pos : Pos} {d da db va vb : D}
theorem shp {p : PyData} (h1 : p.canLay0 = true) (h2 : p.depth ≤ 64) : SeqAt.shaped p = true := by simp [SeqAt.shaped, h1, h2]
theorem oc_eqG (hu : X.A.units + 64 < cLine) (ha : Vw h da va) (hb : Vw h db vb) : OpR X (compareOp .Eq) (rOp TL X.K h da db (deqG va vb) fun z => .bl z) :=
  OpR.imp (op_eqD hu) fun x y H Q ⟨R, hR, rx, ry, z, ez, q⟩ => by
    unfold deqG at ez
    split at ez
    · rename_i c
      cases ez
      obtain ⟨h1, h2⟩ := ha.dp hR rx c.1
      obtain ⟨h3, h4⟩ := hb.dp hR ry c.2.1
      exact ⟨_, _, h1, h3, shp h2 c.2.2.1, shp h4 c.2.2.2, q _ H hR (Fr.refl h H) Rep.bl⟩
    · cases ez
theorem oc_neG (hu : X.A.units + 64 < cLine) (ha : Vw h da va) (hb : Vw h db vb) : OpR X (compareOp .NotEq) (rOp TL X.K h da db (dneG va vb) fun z => .bl z) :=
  OpR.imp (op_neD hu) fun x y H Q ⟨R, hR, rx, ry, z, ez, q⟩ => by
    unfold dneG deqG at ez
    split at ez
    · rename_i c
      cases ez
      obtain ⟨h1, h2⟩ := ha.dp hR rx c.1
      obtain ⟨h3, h4⟩ := hb.dp hR ry c.2.1
      exact ⟨_, _, h1, h3, shp h2 c.2.2.1, shp h4 c.2.2.2, q _ H hR (Fr.refl h H) Rep.bl⟩
    · cases ez
theorem oc_eq {α : Type} [DecidableEq α] {f : α → D} {n : Nat} (T : TyE f n) {x y : α} (hu : X.A.units + 64 < cLine) (ha : Vw h da (f x) := by exact Vw.self) (hb : Vw h db (f y) := by exact Vw.self) (hn : n ≤ 64 := by decide) :
    OpR X (compareOp .Eq) (rOp TL X.K h da db (some ()) fun _ => .bl (decide (x = y))) :=
  OpR.imp (oc_eqG hu ha hb) fun u v H Q ⟨R, hR, rx, ry, z, ez, q⟩ => ⟨R, hR, rx, ry, decide (x = y), by
    unfold deqG
    rw [if_pos ⟨T.is x, T.is y, Nat.le_trans (T.dp x) hn, Nat.le_trans (T.dp y) hn⟩, T.eq], q⟩
theorem oc_ne {α : Type} [DecidableEq α] {f : α → D} {n : Nat} (T : TyE f n) {x y : α} (hu : X.A.units + 64 < cLine) (ha : Vw h da (f x) := by exact Vw.self) (hb : Vw h db (f y) := by exact Vw.self) (hn : n ≤ 64 := by decide) :
    OpR X (compareOp .NotEq) (rOp TL X.K h da db (some ()) fun _ => .bl (!decide (x = y))) :=
  OpR.imp (oc_neG hu ha hb) fun u v H Q ⟨R, hR, rx, ry, z, ez, q⟩ => ⟨R, hR, rx, ry, !decide (x = y), by
    unfold dneG deqG
    rw [if_pos ⟨T.is x, T.is y, Nat.le_trans (T.dp x) hn, Nat.le_trans (T.dp y) hn⟩, T.eq] <;> rfl, q⟩
/-! ### in -/
end
end TH
set_option Elab.async false
set_option linter.all false
set_option maxRecDepth 100000
set_option maxHeartbeats 2000000
/-! TB4: displays, fields, subscripts, slices, tests, built-ins of one value. -/
namespace TH
open PySem PySem.Spec PyProof.Rows L2
theorem smol {n : Nat} (h : Nat.ble n 1000 = true) : n ≤ sizeLine := Nat.le_trans (Nat.le_of_ble_eq_true h) (by decide)
abbrev EAP (TL : List (Addr × Str)) (X : Cx) (es : List Expr) (Γ : En) (h : SH) (ds : List D) : Prop := PA X es fun σ H Q => ∃ R, ER X.K (own R h) Γ σ H ∧ HR TL X.K R h H ∧ ∀ vs H', HR TL X.K R h H' → Fr R h h H H' → Reps X.K (own R h) H' ds vs → Q vs H'
abbrev ETP (TL : List (Addr × Str)) (X : Cx) (e : Expr) (Γ : En) (h : SH) (b : Bool) : Prop := PT X e fun σ H Q => ∃ R, ER X.K (own R h) Γ σ H ∧ HR TL X.K R h H ∧ ∀ H', HR TL X.K R h H' → Fr R h h H H' → Q b H'
section
variable {TL : List (Addr × Str)} {X : Cx} {cA : CA} {Wx : WX} {Γ : En} {h : SH} {ε β β1 β2 γ : Type} {he : ε → SH} {e a b c : Expr} {es : List Expr} {pos : Pos} {d da db : D} {ds : List D}
/-! ### argument lists, displays -/
theorem eap_nil : EAP TL X [] Γ h [] := PAimp pa_nil fun σ H Q ⟨R, hE, hH, w⟩ => w [] H hH (Fr.refl h H) .nil
theorem eap_cons (p : EP TL X e Γ h d) (q : EAP TL X es Γ h ds) (hs : starEach (e :: es) X.env = (false, eval e X.env) :: starEach es X.env := by rfl) : EAP TL X (e :: es) Γ h (d :: ds) :=
  PAimp (pa_cons p q hs) fun σ H Q ⟨R, hE, hH, w⟩ => ⟨R, hE, hH, fun v H1 h1 f1 r1 => ⟨R, hE.fr f1, h1, fun vs H2 h2 f2 r2 => w _ H2 h2 (f1.trans f2) (.cons (r1.fr f2) r2)⟩⟩
theorem ea_eap (p : EAP TL X es Γ h ds) : EA TL X cA Wx es Γ h (.ok () : Res ε Unit) (fun _ => ds) (fun _ => h) he := PAimp p fun σ H Q ⟨R, hE, hH, w⟩ => ⟨R, hE, hH, w⟩
theorem ea_cons {ra : Res ε β1} {oa : β1 → D} {h1 : β1 → SH} {rb : β1 → Res ε β2} {ob : β1 → β2 → List D} {h2 : β1 → β2 → SH} (pk : β1 → β2 → β) {out : β → List D} {ho : β → SH}
    (p : EV TL X cA Wx e Γ h ra oa h1 he) (q : ∀ x, EA TL X cA Wx es Γ (h1 x) (rb x) (ob x) (h2 x) he)
    (e1 : ∀ x y, out (pk x y) = oa x :: ob x y := by intros; rfl) (e2 : ∀ x y, ho (pk x y) = h2 x y := by intros; rfl) (hs : starEach (e :: es) X.env = (false, eval e X.env) :: starEach es X.env := by rfl) :
    EA TL X cA Wx (e :: es) Γ h (ra.bind fun x => (rb x).bind fun y => .ok (pk x y)) out ho he :=
  PAimp (pa_cons p (PAex q) hs) fun σ H Q ⟨R, hE, hH, w⟩ => by
    refine ⟨R, hE, hH, Res.wp_mono ?_ (fun x e k => k) (Res.wp_bind.mp w)⟩
    intro x w1 v H1 hH1 f1 r1
    refine ⟨x, R, hE.fr f1, hH1, Res.wp_mono ?_ (fun x e k cls d H' a b c => k cls d H' a (f1.trans b) c) (Res.wp_bind.mp w1)⟩
    intro y w2 vs H2 hH2 f2 r2
    have w3 : ∀ v H', HR TL X.K R (ho (pk x y)) H' → Fr R h (ho (pk x y)) H H' → Reps X.K (own R (ho (pk x y))) H' (out (pk x y)) v → Q v H' := w2
    rw [e2, e1] at w3
    exact w3 _ H2 hH2 (f1.trans f2) (.cons (r1.fr f2) r2)
theorem ep_tup {k} (p : EAP TL X es Γ h ds) (hl : Nat.ble ds.length 1000 = true := by rfl) : EP TL X (.Tuple es k pos) Γ h (.tup ds) :=
  PEimp (pe_tup p) fun σ H Q ⟨R, hE, hH, w⟩ => ⟨R, hE, hH, fun vs H1 h1 f1 r1 => ⟨by rw [← r1.length]; exact smol hl, fun p hp => w _ _ (h1.fr0 (upd_keep hp)) (f1.trans (Fr.ext (upd_keep hp))) (Rep.newT h1 hp r1)⟩⟩
theorem ep_lst (p : EAP TL X es Γ h ds) (hl : Nat.ble ds.length 1000 = true := by rfl) : EP TL X (.List es pos) Γ h (.lst ds) :=
  PEimp (pe_lst p) fun σ H Q ⟨R, hE, hH, w⟩ => ⟨R, hE, hH, fun vs H1 h1 f1 r1 => ⟨by rw [← r1.length]; exact smol hl, fun p hp => w _ _ (h1.fr0 (upd_keep hp)) (f1.trans (Fr.ext (upd_keep hp))) (Rep.newL h1 hp r1)⟩⟩
theorem ev_tup {k} {r : Res ε β} {oa : β → List D} {out : β → D} {ho : β → SH} (p : EA TL X cA Wx es Γ h r oa ho he) (e1 : ∀ x, out x = .tup (oa x) := by intros; rfl) (hl : ∀ x, Nat.ble (oa x).length 1000 = true := by intros; rfl) : EV TL X cA Wx (.Tuple es k pos) Γ h r out ho he :=
  PEimp (pe_tup p) fun σ H Q ⟨R, hE, hH, w⟩ => ⟨R, hE, hH, Res.wp_mono (fun x k vs H1 h1 f1 r1 => ⟨by rw [← r1.length]; exact smol (hl x), fun p hp => k _ _ (h1.fr0 (upd_keep hp)) (f1.trans (Fr.ext (upd_keep hp))) (by rw [e1]; exact Rep.newT h1 hp r1)⟩) (fun x e k => k) w⟩
/-! ### fields -/
theorem lookup_of {K : PySem.W.Frag} {W : Own} {H : Hp} {ns : List Str} {vs : List D} {fs : List (Str × V)} {i : Nat} {f : Str} (nd : ns.Nodup) (hn : ns = fs.map (·.1)) (r : Reps K W H vs (fs.map (·.2))) (hf : ns[i]? = some f) (hd : vs[i]? = some d) :
    ∃ v, fs.lookup f = some v ∧ Rep K W H d v := by
  obtain ⟨x, e1, e2⟩ := r.get hd
  refine ⟨x, ?_, e2⟩
  subst hn
  rw [List.getElem?_map] at hf e1
  cases q : fs[i]? with
  | none => rw [q] at hf; cases hf
  | some z =>
    rw [q] at hf e1
    obtain ⟨f', x'⟩ := z
    cases hf
    cases e1
    clear hd r e2
    induction fs generalizing i with
    | nil => simp at q
    | cons y fs ih =>
      obtain ⟨g, y⟩ := y
      simp only [List.map_cons, List.nodup_cons] at nd
      cases i with
      | zero =>
        simp at q
        obtain ⟨rfl, rfl⟩ := q
        simp [List.lookup]
      | succ i =>
        have q' : fs[i]? = some (f', x') := by simpa using q
        have hm : f' ∈ fs.map (·.1) := List.mem_map.mpr ⟨_, List.mem_of_getElem? q', rfl⟩
        have ne : f' ≠ g := fun z => nd.1 (z ▸ hm)
        have nb : (f' == g) = false := by simpa using ne
        simp only [List.lookup, nb]
        exact ih nd.2 q'
/-- e.f of a cell -/
theorem ep_fld {C o : Addr} {ns : List Str} {vs : List D} {f : Str} (i : Nat) (p : EP TL X e Γ h (.ref o)) (m : (o, O.ins C ns vs) ∈ h) (c : Cls X.K C) (na : NoAttr X.K C f) (nd : ns.Nodup) (hf : ns[i]? = some f := by rfl) (hd : vs[i]? = some d := by rfl)
    (hb : attributeBase e f X.env (eval e X.env) = eval e X.env := by rfl) : EP TL X (.Attribute e f pos) Γ h d :=
  PEimp (pe_fld p hb) fun σ H Q ⟨R, hE, hH, w⟩ => ⟨R, hE, hH, fun v H1 h1 f1 r1 => by
    simp only [Rep] at r1
    obtain ⟨dx, fs, e1, en, r2⟩ := h1.at_ _ m
    obtain ⟨x, l, r3⟩ := lookup_of nd en r2 hf hd
    exact ⟨o, C, dx, fs, x, r1, e1, c, na, l, w x H1 h1 f1 r3⟩⟩
/-! ### subscripts -/
theorem atI_map {α : Type} (f : α → D) (l : List α) (i : Int) : atI (l.map f) i = (atI l i).map f := by
  unfold atI
  rw [List.length_map]
  cases ixN l.length i with
  | none => rfl
  | some j => show (l.map f)[j]? = (l[j]?).map f; rw [List.getElem?_map]
theorem Reps.atI {K : PySem.W.Frag} {W : Own} {H : Hp} {ds : List D} {xs : List V} {i : Int} {d : D} (r : Reps K W H ds xs) (e : atI ds i = some d) : ∃ x, L2.atI xs i = some x ∧ Rep K W H d x := by
  unfold L2.atI at e ⊢
  rw [← r.length]
  cases q : ixN ds.length i with
  | none => rw [q] at e; cases e
  | some j => rw [q] at e; exact r.get e
theorem IxR.imp {r r' : R2} (k : IxR X r) (h : ∀ x y H Q, r' x y H Q → r x y H Q) : IxR X r' := fun value slice pins s σ H x y v u Q I rx ry q hs => k value slice pins s σ H x y v u Q I rx ry (h x y H Q q) hs
/-- xs[i], a list or a list's cell -/
theorem ix_L {α : Type} {f : α → D} {l : List α} {i : Int} (v : Vw h da (.lst (l.map f)) := by exact Vw.self) : IxR X (rOp TL X.K h da (.int i) (atI l i) f) :=
  IxR.imp ix_list fun x y H Q ⟨R, hR, rx, ry, z, ez, q⟩ => by
    have e : atI (l.map f) i = some (f z) := by rw [atI_map, ez] <;> rfl
    rcases v with rfl | ⟨o, ds, rfl, m, ed⟩
    · obtain ⟨p, xs, rfl, sq, rs⟩ := SqL.of_rep rx
      obtain ⟨w, e1, e2⟩ := rs.atI e
      exact ⟨p, xs, i, w, rfl, ry.int_eq, sq, e1, q w H hR (Fr.refl h H) e2⟩
    · cases ed
      simp only [Rep] at rx
      obtain ⟨xs, e0, rs⟩ := hR.at_ _ m
      obtain ⟨w, e1, e2⟩ := rs.atI e
      exact ⟨o, xs, i, w, rx, ry.int_eq, .inl (.inl e0), e1, q w H hR (Fr.refl h H) e2⟩
/-! ### tests -/
theorem et_of {r : Res ε β} {oa : β → D} {out : β → Bool} {ho : β → SH} (p : EV TL X cA Wx e Γ h r oa ho he) (eb : ∀ x, oa x = .bl (out x) := by intros; rfl) (ht : ∀ whole, isTrue e X.env whole = (do let v ← whole; standAt e.pos; holding [v] (truthy v)) := by intro _; rfl) : ET TL X cA Wx e Γ h r out ho he :=
  PTimp (pt_val p ht) fun σ H Q ⟨R, hE, hH, w⟩ => ⟨R, hE, hH, Res.wp_mono (fun x w v H1 h1 f1 r1 => ⟨out x, by rw [eb] at r1; exact r1.bl_eq, w H1 h1 f1⟩) (fun _ _ k => k) w⟩
theorem et_etp {bb : Bool} (p : ETP TL X e Γ h bb) : ET TL X cA Wx e Γ h (.ok () : Res ε Unit) (fun _ => bb) (fun _ => h) he := PTimp p fun σ H Q ⟨R, hE, hH, w⟩ => ⟨R, hE, hH, w⟩
/-- comparisons -/
theorem etp_cmp {op : CmpOp} {bb : Bool} (ha : EP TL X a Γ h da) (hb : EP TL X b Γ h db) (hop : OpR X (compareOp op) (rOp TL X.K h da db (some ()) fun _ => .bl bb)) (hm : behindInMarks op b = false := by first | exact nomark _ (by decide) (by decide) | rfl | with_unfolding_all rfl) : ETP TL X (.Compare a [op] [b] pos) Γ h bb :=
  PTimp (pt_cmpR hop ha hb hm) fun σ H Q ⟨R, hE, hH, w⟩ => ⟨R, hE, hH, fun v H1 hH1 f1 r1 => ⟨R, hE.fr f1, hH1, fun u H2 hH2 f2 r2 => ⟨R, hH2, r1.fr f2, r2, (), rfl, fun v' H' a b c => ⟨bb, c.bl_eq, w H' a ((f1.trans f2).trans b)⟩⟩⟩⟩
theorem et_cmp {op : CmpOp} {ra : Res ε β1} {oa : β1 → D} {h1 : β1 → SH} {rb : β1 → Res ε β2} {ob : β1 → β2 → D} {h2 : β1 → β2 → SH} {rop : β1 → β2 → Option γ} {oo : β1 → β2 → γ → D} (pk : β1 → β2 → γ → β) {out : β → Bool} {ho : β → SH}
    (ha : EV TL X cA Wx a Γ h ra oa h1 he) (hb : ∀ x, EV TL X cA Wx b Γ (h1 x) (rb x) (ob x) (h2 x) he) (hop : ∀ x y, OpR X (compareOp op) (rOp TL X.K (h2 x y) (oa x) (ob x y) (rop x y) (oo x y)))
    (e1 : ∀ x y g, oo x y g = .bl (out (pk x y g)) := by intros; rfl) (e2 : ∀ x y g, ho (pk x y g) = h2 x y := by intros; rfl) (hm : behindInMarks op b = false := by first | exact nomark _ (by decide) (by decide) | rfl | with_unfolding_all rfl) :
    ET TL X cA Wx (.Compare a [op] [b] pos) Γ h (ra.bind fun x => (rb x).bind fun y => (Res.ofO (rop x y)).bind fun g => .ok (pk x y g)) out ho he :=
  PTimp (pt_cmpR (OpR.ex fun i : β1 × β2 => hop i.1 i.2) ha (PEex hb) hm) fun σ H Q ⟨R, hE, hH, w⟩ => by
    have q : tE TL X.K cA Wx Γ h (ra.bind fun x => (rb x).bind fun y => (Res.ofO (rop x y)).bind fun g => .ok (pk x y g)) (fun b => .bl (out b)) ho he σ H (fun x H' => ∃ k, x = .bl k ∧ Q k H') :=
      ⟨R, hE, hH, Res.wp_mono (fun b k v H' a c r => ⟨out b, r.bl_eq, k H' a c⟩) (fun _ _ k => k) w⟩
    exact two_read (oo := oo) (pk := pk) (out := fun b => .bl (out b)) (fun x y g => (e1 x y g).symm) e2 q
abbrev EWP (TL : List (Addr × Str)) (X : Cx) (e : Expr) (Γ : En) (h : SH) (b : Bool) : Prop := PW X e fun σ H Q => ∃ R, ER X.K (own R h) Γ σ H ∧ HR TL X.K R h H ∧ ∀ H', HR TL X.K R h H' → Fr R h h H H' → Q b H'
abbrev EW {ε β : Type} (TL : List (Addr × Str)) (X : Cx) (cA : CA) (Wx : WX) (e : Expr) (Γ : En) (h : SH) (r : Res ε β) (out : β → Bool) (ho : β → SH) (he : ε → SH) : Prop := PW X e (tT TL X.K cA Wx Γ h r out ho he)
theorem ewp_or1 {bb : Bool} (p : ETP TL X a Γ h bb) : EWP TL X (.BoolOp .Or [a] pos) Γ h bb := pw_or1 p
theorem ew_and1 {r : Res ε β} {out : β → Bool} {ho : β → SH} (p : ET TL X cA Wx a Γ h r out ho he) : EW TL X cA Wx (.BoolOp .And [a] pos) Γ h r out ho he := pw_and1 p
theorem ew_or1 {r : Res ε β} {out : β → Bool} {ho : β → SH} (p : ET TL X cA Wx a Γ h r out ho he) : EW TL X cA Wx (.BoolOp .Or [a] pos) Γ h r out ho he := pw_or1 p
theorem ewp_or {bb cc : Bool} (p : ETP TL X a Γ h bb) (q : EWP TL X (.BoolOp .Or (b :: es) pos) Γ h cc) : EWP TL X (.BoolOp .Or (a :: b :: es) pos) Γ h (bb || cc) :=
  PWimp (pw_or p q) fun σ H Q ⟨R, hE, hH, w⟩ => ⟨R, hE, hH, fun H1 h1 f1 => by
    cases bb with
    | true => exact w H1 h1 f1
    | false => exact ⟨R, hE.fr f1, h1, fun H2 h2 f2 => w H2 h2 (f1.trans f2)⟩⟩
theorem etp_w {bb : Bool} (p : EWP TL X e Γ h bb) : ETP TL X e Γ h bb := p.pt
theorem et_w {r : Res ε β} {out : β → Bool} {ho : β → SH} (p : EW TL X cA Wx e Γ h r out ho he) : ET TL X cA Wx e Γ h r out ho he := p.pt
/-- a and b, b looked at only where a holds -/
theorem ew_and {ra : Res ε β1} {oa : β1 → Bool} {h1 : β1 → SH} {rb : β1 → Res ε β2} {ob : β1 → β2 → Bool} {h2 : β1 → β2 → SH} (pF : β1 → β) (pT : β1 → β2 → β) {out : β → Bool} {ho : β → SH}
    (p : ET TL X cA Wx a Γ h ra oa h1 he) (q : ∀ x, EW TL X cA Wx (.BoolOp .And (b :: es) pos) Γ (h1 x) (rb x) (ob x) (h2 x) he)
    (e1 : ∀ x, out (pF x) = false := by intros; rfl) (e2 : ∀ x, ho (pF x) = h1 x := by intros; rfl) (e3 : ∀ x y, out (pT x y) = ob x y := by intros; rfl) (e4 : ∀ x y, ho (pT x y) = h2 x y := by intros; rfl) :
    EW TL X cA Wx (.BoolOp .And (a :: b :: es) pos) Γ h (ra.bind fun x => if oa x = true then (rb x).bind fun y => .ok (pT x y) else .ok (pF x)) out ho he :=
  PWimp (pw_and p (PWex q)) fun σ H Q ⟨R, hE, hH, w⟩ => by
    refine ⟨R, hE, hH, Res.wp_mono ?_ (fun x e k => k) (Res.wp_bind.mp w)⟩
    intro x w1 H1 hH1 f1
    cases eo : oa x with
    | true =>
      rw [eo, if_pos rfl] at w1
      rw [if_pos rfl]
      refine ⟨x, R, hE.fr f1, hH1, Res.wp_mono ?_ (fun x e k cls d H' a b c => k cls d H' a (f1.trans b) c) (Res.wp_bind.mp w1)⟩
      intro y w2 H2 hH2 f2
      have w3 : ∀ H', HR TL X.K R (ho (pT x y)) H' → Fr R h (ho (pT x y)) H H' → Q (out (pT x y)) H' := w2
      rw [e3, e4] at w3
      exact w3 H2 hH2 (f1.trans f2)
    | false =>
      rw [eo, if_neg Bool.false_ne_true] at w1
      rw [if_neg Bool.false_ne_true]
      have w3 : ∀ H', HR TL X.K R (ho (pF x)) H' → Fr R h (ho (pF x)) H H' → Q (out (pF x)) H' := w1
      rw [e1, e2] at w3
      exact w3 H1 hH1 f1
theorem ew_or {ra : Res ε β1} {oa : β1 → Bool} {h1 : β1 → SH} {rb : β1 → Res ε β2} {ob : β1 → β2 → Bool} {h2 : β1 → β2 → SH} (pT : β1 → β) (pF : β1 → β2 → β) {out : β → Bool} {ho : β → SH}
    (p : ET TL X cA Wx a Γ h ra oa h1 he) (q : ∀ x, EW TL X cA Wx (.BoolOp .Or (b :: es) pos) Γ (h1 x) (rb x) (ob x) (h2 x) he)
    (e1 : ∀ x, out (pT x) = true := by intros; rfl) (e2 : ∀ x, ho (pT x) = h1 x := by intros; rfl) (e3 : ∀ x y, out (pF x y) = ob x y := by intros; rfl) (e4 : ∀ x y, ho (pF x y) = h2 x y := by intros; rfl) :
    EW TL X cA Wx (.BoolOp .Or (a :: b :: es) pos) Γ h (ra.bind fun x => if oa x = true then .ok (pT x) else (rb x).bind fun y => .ok (pF x y)) out ho he :=
  PWimp (pw_or p (PWex q)) fun σ H Q ⟨R, hE, hH, w⟩ => by
    refine ⟨R, hE, hH, Res.wp_mono ?_ (fun x e k => k) (Res.wp_bind.mp w)⟩
    intro x w1 H1 hH1 f1
    cases eo : oa x with
    | false =>
      rw [eo, if_neg Bool.false_ne_true] at w1
      rw [if_neg Bool.false_ne_true]
      refine ⟨x, R, hE.fr f1, hH1, Res.wp_mono ?_ (fun x e k cls d H' a b c => k cls d H' a (f1.trans b) c) (Res.wp_bind.mp w1)⟩
      intro y w2 H2 hH2 f2
      have w3 : ∀ H', HR TL X.K R (ho (pF x y)) H' → Fr R h (ho (pF x y)) H H' → Q (out (pF x y)) H' := w2
      rw [e3, e4] at w3
      exact w3 H2 hH2 (f1.trans f2)
    | true =>
      rw [eo, if_pos rfl] at w1
      rw [if_pos rfl]
      have w3 : ∀ H', HR TL X.K R (ho (pT x)) H' → Fr R h (ho (pT x)) H H' → Q (out (pT x)) H' := w1
      rw [e1, e2] at w3
      exact w3 H1 hH1 f1
/-- a op b op' c, all plain -/
theorem etp_chain {op op' : CmpOp} {dc : D} {bb cc : Bool} (ha : EP TL X a Γ h da) (hb : EP TL X b Γ h db) (hc : EP TL X c Γ h dc) (ho : OpR X (compareOp op) (rOp TL X.K h da db (some ()) fun _ => .bl bb)) (ho' : OpR X (compareOp op') (rOp TL X.K h db dc (some ()) fun _ => .bl cc))
    (hm : lastMarks [op, op'] [b, c] = false := by first | rfl | with_unfolding_all rfl) : ETP TL X (.Compare a [op, op'] [b, c] pos) Γ h (bb && cc) :=
  PTimp (pt_chain ho ho' ha hb hc hm) fun σ H Q ⟨R, hE, hH, w⟩ => ⟨R, hE, hH, fun v H1 hH1 f1 r1 => ⟨R, hE.fr f1, hH1, fun u H2 hH2 f2 r2 => ⟨R, hH2, r1.fr f2, r2, (), rfl, fun v' H3 h3 f3 c3 => by
    refine ⟨bb, c3.bl_eq, ?_⟩
    have f123 := (f1.trans f2).trans f3
    cases bb with
    | false => exact ⟨false, rfl, w H3 h3 f123⟩
    | true => exact ⟨R, hE.fr f123, h3, fun x4 H4 h4 f4 r4 => ⟨R, h4, (r2.fr f3).fr f4, r4, (), rfl, fun v5 H5 h5 f5 c5 => ⟨cc, c5.bl_eq, w H5 h5 ((f123.trans f4).trans f5)⟩⟩⟩⟩⟩⟩
/-! ### if as a value; and, or, not as values -/
end
end TH
set_option Elab.async false
set_option linter.all false
set_option maxRecDepth 100000
set_option maxHeartbeats 2000000
/-! TB5: statements, targets, loops. -/
namespace TH
open PySem PySem.Spec PyProof.Rows L2
section
variable {ε β β' γ γ' ρ α S : Type}
/-- one after another -/
def Fl.go (k : β → Res ε (Fl β' γ ρ)) : Fl β γ ρ → Res ε (Fl β' γ ρ)
  | .nx b => k b
  | .bk c => .ok (.bk c)
  | .ct c => .ok (.ct c)
  | .rt v => .ok (.rt v)
def Res.sq (r : Res ε (Fl β γ ρ)) (k : β → Res ε (Fl β' γ ρ)) : Res ε (Fl β' γ ρ) := r.bind (Fl.go k)
@[simp] theorem Res.sq_nx {b : β} {k : β → Res ε (Fl β' γ ρ)} : Res.sq (.ok (.nx b)) k = k b := rfl
@[simp] theorem Res.sq_rt {v : ρ} {k : β → Res ε (Fl β' γ ρ)} : Res.sq (.ok (.rt v)) k = .ok (.rt v) := rfl
@[simp] theorem Res.sq_bk {v : γ} {k : β → Res ε (Fl β' γ ρ)} : Res.sq (.ok (.bk v)) k = .ok (.bk v) := rfl
@[simp] theorem Res.sq_ct {v : γ} {k : β → Res ε (Fl β' γ ρ)} : Res.sq (.ok (.ct v)) k = .ok (.ct v) := rfl
@[simp] theorem Res.sq_bad {k : β → Res ε (Fl β' γ ρ)} : Res.sq (.bad) k = .bad := rfl
@[simp] theorem Res.sq_err {x : Ex} {e : ε} {k : β → Res ε (Fl β' γ ρ)} : Res.sq (.err x e) k = .err x e := rfl
/-- a for -/
def forL (step : S → α → Res ε (Fl S S ρ)) : List α → S → Res ε (Fl S γ ρ)
  | [], s => .ok (.nx s)
  | x :: xs, s => (step s x).bind fun f => match f with
    | .nx s' => forL step xs s'
    | .ct s' => forL step xs s'
    | .bk s' => .ok (.nx s')
    | .rt v => .ok (.rt v)
/-- a def's end: what falls through hands back None -/
def Fl.val (f : β → ρ) : Fl β Empty ρ → ρ
  | .nx b => f b
  | .rt v => v
def Res.fin (f : β → ρ) (r : Res ε (Fl β Empty ρ)) : Res ε ρ := r.bind fun x => .ok (x.val f)
end
/-- Γ knows what Δ knows -/
def LeG : En → En → Prop
  | [], [] => True
  | _ :: Γ, none :: Δ => LeG Γ Δ
  | some d :: Γ, some e :: Δ => d = e ∧ LeG Γ Δ
  | _, _ => False
theorem LeG.refl : ∀ Γ : En, LeG Γ Γ
  | [] => trivial
  | none :: Γ => LeG.refl Γ
  | some _ :: Γ => ⟨rfl, LeG.refl Γ⟩
theorem LeG.at_ : ∀ {Γ Δ : En}, LeG Γ Δ → Γ.length = Δ.length ∧ ∀ (i : Nat) d, Δ[i]? = some (some d) → Γ[i]? = some (some d)
  | [], [], _ => ⟨rfl, fun i d e => e⟩
  | _ :: Γ, none :: Δ, h => by
    obtain ⟨h1, h2⟩ := LeG.at_ (Γ := Γ) (Δ := Δ) (by cases ‹Option D› <;> exact h)
    refine ⟨by simp [h1], fun i d e => ?_⟩
    cases i with
    | zero => simp at e
    | succ i => exact h2 i d (by simpa using e)
  | some d :: Γ, some e :: Δ, h => by
    obtain ⟨rfl, h⟩ := h
    obtain ⟨h1, h2⟩ := LeG.at_ (Γ := Γ) (Δ := Δ) h
    refine ⟨by simp [h1], fun i d e => ?_⟩
    cases i with
    | zero => exact e
    | succ i => exact h2 i d (by simpa using e)
  | [], _ :: _, h => h.elim
  | none :: _, some _ :: _, h => h.elim
  | _ :: _, [], h => by cases ‹Option D› <;> exact h.elim
section
variable {TL : List (Addr × Str)} {K : PySem.W.Frag} {R : Own} {W : Own} {h h' : SH} {H H' : Hp} {Γ Δ : En} {σ : L2.St}
theorem ER.le (l : LeG Γ Δ) (e : ER K W Γ σ H) : ER K W Δ σ H := ⟨l.at_.1.symm.trans e.len, fun i d hi => e.at_ i d (l.at_.2 i d hi)⟩
theorem ER.set {i : Nat} {d : D} {v : V} (e : ER K W Γ σ H) (r : Rep K W H d v) : ER K W (Γ.set i (some d)) (σ.set i (some v)) H := by
  refine ⟨by simpa using e.len, fun j x hj => ?_⟩
  by_cases q : i = j
  · subst q
    by_cases hi : i < Γ.length
    · rw [List.getElem?_set_self hi] at hj
      cases hj
      exact ⟨v, List.getElem?_set_self (by rw [← e.len]; exact hi), r⟩
    · rw [List.getElem?_eq_none (by simpa using hi)] at hj
      cases hj
  · rw [List.getElem?_set_ne q] at hj
    obtain ⟨w, a, b⟩ := e.at_ j x hj
    exact ⟨w, by rw [List.getElem?_set_ne q]; exact a, b⟩
/-- fewer cells: the others stay as they are -/
theorem drop_own (s : List.Sublist h' h) : ∀ p, own R h' p → own R h p := fun p z => z.elim .inl fun z => .inr (by
  obtain ⟨q, hq, e⟩ := List.mem_map.mp z
  exact List.mem_map.mpr ⟨q, s.subset hq, e⟩)
theorem Rep.drop {d : D} {v : V} (s : List.Sublist h' h) (r : Rep K (own R h) H d v) : Rep K (own R h') H d v := Rep.keep (fun p o n e nt => ⟨fun z => n (drop_own s p z), o, e, Sim.refl o⟩) d v r
theorem Reps.drop' {ds : List D} {vs : List V} (s : List.Sublist h' h) (r : Reps K (own R h) H ds vs) : Reps K (own R h') H ds vs := Reps.keep (fun p o n e nt => ⟨fun z => n (drop_own s p z), o, e, Sim.refl o⟩) ds vs r
theorem Fr.drop (s : List.Sublist h' h) : Fr R h h' H H := fun p o n e nt => ⟨fun z => n (by
  obtain ⟨q, hq, e⟩ := List.mem_map.mp z
  exact List.mem_map.mpr ⟨q, s.subset hq, e⟩), o, e, Sim.refl o, fun _ => rfl⟩
theorem ORep.drop {a : Addr} {o : O} (s : List.Sublist h' h) (x : ORep K (own R h) H a o) : ORep K (own R h') H a o := by
  cases o with
  | lst ds => obtain ⟨xs, e, r⟩ := x; exact ⟨xs, e, r.drop' s⟩
  | dic lk tk ks vs =>
    cases lk with
    | none => obtain ⟨xs, e, r, n⟩ := x; exact ⟨xs, e, r.drop' s, n⟩
    | some u => obtain ⟨xs, e, r, n⟩ := x; exact ⟨xs, e, r.drop' s, n⟩
  | ins C ns vs => obtain ⟨dx, fs, e, en, r⟩ := x; exact ⟨dx, fs, e, en, r.drop' s⟩
  | dice => exact x
  | tupN ds => obtain ⟨xs, ob, e, n, r⟩ := x; exact ⟨xs, ob, e, n, r.drop' s⟩
theorem HR.drop (s : List.Sublist h' h) (hr : HR TL K R h H) : HR TL K R h' H :=
  ⟨hr.nd.sublist (s.map _), fun p hp => ⟨(hr.ap p hp).1, fun z => (hr.ap p hp).2 (by
    obtain ⟨q, hq, e⟩ := List.mem_map.mp z
    exact List.mem_map.mpr ⟨q, s.subset hq, e⟩)⟩, fun q hq => (hr.at_ q (s.subset hq)).drop s, hr.tb⟩
theorem ER.drop (s : List.Sublist h' h) (e : ER K (own R h) Γ σ H) : ER K (own R h') Γ σ H := ⟨e.len, fun i d hi => let ⟨v, a, b⟩ := e.at_ i d hi; ⟨v, a, b.drop s⟩⟩
end
abbrev S1 {ε β γ ρ : Type} (TL : List (Addr × Str)) (X : Cx) (cA : CA) (E : XK) (st : Stmt) (Γ : En) (h : SH) (r : Res ε (Fl β γ ρ)) (oN : β → En × SH → Prop) (oJ : γ → En × SH) (oR : ρ → D × SH → Prop) (he : ε → SH) : Prop :=
  PS X st (tS TL X.K cA E Γ h r oN oJ oR he)
section
variable {TL : List (Addr × Str)} {X : Cx} {cA : CA} {E : XK} {Γ Δ : En} {h : SH} {ε β β1 β2 β' γ γ' ρ α S : Type} {he : ε → SH} {e a b c tg : Expr} {es : List Expr} {pos : Pos} {d : D} {ds : List D} {st : Stmt} {rest A B : List Stmt}
  {oJ : γ → En × SH} {oR : ρ → D × SH → Prop} {oN : β → En × SH → Prop}
/-! ### the end of a block, one statement after another -/
theorem ss_nil {b : β} {Γ' : En} {h' : SH} (eo : oN b (Γ', h') := by rfl) (lg : LeG Γ Γ') (lh : List.Sublist h' h := by exact List.Sublist.refl _) : SS TL X cA E [] Γ h (.ok (.nx b) : Res ε (Fl β γ ρ)) oN oJ oR he :=
  PSsimp pss_nil fun Dn σ H ⟨R, hE, hH, w⟩ => by
    have w2 : ∀ S, oN b S → ∀ σ' H', ER X.K (own R S.2) S.1 σ' H' → HR TL X.K R S.2 H' → Fr R h S.2 H H' → Dn.nx σ' H' := w
    exact w2 _ eo σ H (ER.le lg (hE.drop lh)) (hH.drop lh) (Fr.drop lh)
/-- how the reading of a block goes on behind another state -/
theorem tS_step {TL : List (Addr × Str)} {K : PySem.W.Frag} {R : Own} {h1 : SH} {H H1 : Hp} {σ1 : L2.St} {Γ1 : En} {r : Res ε (Fl β γ ρ)} {Dn : Ends} (hE : ER K (own R h1) Γ1 σ1 H1) (hH : HR TL K R h1 H1) (f : Fr R h h1 H H1)
    (w : r.wp (fun f => match f with
      | .nx b => ∀ S, oN b S → ∀ σ' H', ER K (own R S.2) S.1 σ' H' → HR TL K R S.2 H' → Fr R h S.2 H H' → Dn.nx σ' H'
      | .bk c => ∀ σ' H', ER K (own R (oJ c).2) (oJ c).1 σ' H' → HR TL K R (oJ c).2 H' → Fr R h (oJ c).2 H H' → Dn.bk σ' H'
      | .ct c => ∀ σ' H', ER K (own R (oJ c).2) (oJ c).1 σ' H' → HR TL K R (oJ c).2 H' → Fr R h (oJ c).2 H H' → Dn.ct σ' H'
      | .rt v => ∀ S, oR v S → ∀ x H', HR TL K R S.2 H' → Fr R h S.2 H H' → Rep K (own R S.2) H' S.1 x → Dn.rt x H')
      (fun x e => ∀ cls d H', HR TL K R (he e) H' → Fr R h (he e) H H' → XR cA x cls d H' → E cls d H')) : tS TL K cA E Γ1 h1 r oN oJ oR he Dn σ1 H1 := by
  refine ⟨R, hE, hH, Res.wp_mono (fun x k => ?_) (fun x e k cls d H' a b c => k cls d H' a (f.trans b) c) w⟩
  cases x with
  | nx b => exact fun S e σ' H' a b c => k S e σ' H' a b (f.trans c)
  | bk c => exact fun σ' H' a b c => k σ' H' a b (f.trans c)
  | ct c => exact fun σ' H' a b c => k σ' H' a b (f.trans c)
  | rt v => exact fun S e x H' a b c => k S e x H' a (f.trans b) c
theorem ss_cons {oN1 : β1 → En × SH} {r : Res ε (Fl β1 γ ρ)} {k : β1 → Res ε (Fl β γ ρ)} (p : S1 TL X cA E st Γ h r (fun b S => S = oN1 b) oJ oR he) (q : ∀ b, SS TL X cA E rest (oN1 b).1 (oN1 b).2 (k b) oN oJ oR he) : SS TL X cA E (st :: rest) Γ h (r.sq k) oN oJ oR he :=
  PSsimp (pss_cons p (PSsex q)) fun Dn σ H ⟨R, hE, hH, w⟩ => by
    refine ⟨R, hE, hH, Res.wp_mono (fun x k' => ?_) (fun x e k => k) (Res.wp_bind.mp w)⟩
    cases x with
    | nx b => exact fun S e σ' H' a c f => by subst e; exact ⟨b, tS_step a c f k'⟩
    | bk c => exact k'
    | ct c => exact k'
    | rt v => exact k'
theorem ss_one (p : S1 TL X cA E st Γ h r oN oJ oR he) : SS TL X cA E [st] Γ h r oN oJ oR he := pss_one p
/-- a result of an expression, then the rest -/
theorem ss_do {re : Res ε α} {k : α → Res ε (Fl β γ ρ)} {t : (St' : L2.St → Hp → Prop) → TS} {Γ1 : α → En} {h1 : α → SH}
    (p : PS X st fun Dn σ H => ∃ R, ER X.K (own R h) Γ σ H ∧ HR TL X.K R h H ∧ re.wp (fun x => ∀ σ' H', ER X.K (own R (h1 x)) (Γ1 x) σ' H' → HR TL X.K R (h1 x) H' → Fr R h (h1 x) H H' → Dn.nx σ' H') (fun x e => ∀ cls d H', HR TL X.K R (he e) H' → Fr R h (he e) H H' → XR cA x cls d H' → E cls d H'))
    (q : ∀ x, SS TL X cA E rest (Γ1 x) (h1 x) (k x) oN oJ oR he) : SS TL X cA E (st :: rest) Γ h (re.bind k) oN oJ oR he :=
  PSsimp (pss_cons p (PSsex q)) fun Dn σ H ⟨R, hE, hH, w⟩ => ⟨R, hE, hH, Res.wp_mono (fun x k' σ' H' a c f => ⟨x, tS_step a c f k'⟩) (fun x e k => k) (Res.wp_bind.mp w)⟩
/-! ### assignments -/
theorem ss_set (i : Nat) {x : Str} {p' : Pos} {re : Res ε α} {out : α → D} {ho : α → SH} {Γ1 : α → En} {k : α → Res ε (Fl β γ ρ)} (p : EV TL X cA (WK E) e Γ h re out ho he) (q : ∀ x, SS TL X cA E rest (Γ1 x) (ho x) (k x) oN oJ oR he)
    (eΓ : ∀ x, Γ1 x = Γ.set i (some (out x)) := by intros; rfl) (hN : X.N.Nodup) (hi : X.N[i]? = some x := by rfl) (hx : Loc X.env.scope x := by first | exact Or.inl rfl | exact Or.inr rfl)
    (hs : swapsWith e (some (.Name x p')) pos.line X.env = pure false := by rfl) (hf : X.fn x = true ∨ X.env.scope.names.lookup x = some .local := by first | exact .inl rfl | exact .inr rfl) : SS TL X cA E (.Assign [.Name x p'] e pos :: rest) Γ h (re.bind k) oN oJ oR he :=
  ss_do (t := fun _ => tNever) (PSimp (ps_set hN hi hx p hs hf) fun Dn σ H ⟨R, hE, hH, w⟩ => ⟨R, hE, hH, Res.wp_mono (fun x k' v H' a b c => k' _ H' (by rw [eΓ]; exact (hE.fr b).set c) a b) (fun x e k => k) w⟩) q
theorem ss_setP (i : Nat) {x : Str} {p' : Pos} {Γ1 : En} {r : Res ε (Fl β γ ρ)} (p : EP TL X e Γ h d) (q : SS TL X cA E rest Γ1 h r oN oJ oR he)
    (hN : X.N.Nodup) (eΓ : Γ1 = Γ.set i (some d) := by rfl) (hi : X.N[i]? = some x := by rfl) (hx : Loc X.env.scope x := by first | exact Or.inl rfl | exact Or.inr rfl)
    (hs : swapsWith e (some (.Name x p')) pos.line X.env = pure false := by rfl) (hf : X.fn x = true ∨ X.env.scope.names.lookup x = some .local := by first | exact .inl rfl | exact .inr rfl) : SS TL X cA E (.Assign [.Name x p'] e pos :: rest) Γ h r oN oJ oR he :=
  PSsimp (pss_cons (ps_set hN hi hx p hs hf) q) fun Dn σ H ⟨R, hE, hH, w⟩ => ⟨R, hE, hH, fun v H' a b c => tS_step (by rw [eΓ]; exact (hE.fr b).set c) a b w⟩
/-! ### targets -/
def tG (TL : List (Addr × Str)) (K : PySem.W.Frag) (Γ : En) (h : SH) (d : D) (Γ' : En) : TG := fun v σ H Q => ∃ R, ER K (own R h) Γ σ H ∧ HR TL K R h H ∧ Rep K (own R h) H d v ∧ ∀ σ' H', ER K (own R h) Γ' σ' H' → HR TL K R h H' → Fr R h h H H' → Q σ' H'
def tGs (TL : List (Addr × Str)) (K : PySem.W.Frag) (Γ : En) (h : SH) (ds : List D) (Γ' : En) : TGs := fun vs σ H Q => ∃ R, ER K (own R h) Γ σ H ∧ HR TL K R h H ∧ Reps K (own R h) H ds vs ∧ ∀ σ' H', ER K (own R h) Γ' σ' H' → HR TL K R h H' → Fr R h h H H' → Q σ' H'
abbrev EG (TL : List (Addr × Str)) (X : Cx) (tg : Expr) (Γ : En) (h : SH) (d : D) (Γ' : En) : Prop := PG X tg (tG TL X.K Γ h d Γ')
abbrev EGs (TL : List (Addr × Str)) (X : Cx) (tgs : List Expr) (Γ : En) (h : SH) (ds : List D) (Γ' : En) : Prop := PGs X tgs (tGs TL X.K Γ h ds Γ')
theorem PGimp {t t' : TG} (p : PG X tg t) (k : ∀ v σ H Q, t' v σ H Q → t v σ H Q) : PG X tg t' := ⟨fun pins s σ H v u Q I r q => p.run pins s σ H v u Q I r (k v σ H Q q)⟩
theorem PGsimp {tgs : List Expr} {t t' : TGs} (p : PGs X tgs t) (k : ∀ v σ H Q, t' v σ H Q → t v σ H Q) : PGs X tgs t' := ⟨fun pins s σ H v u Q I r q => p.run pins s σ H v u Q I r (k v σ H Q q)⟩
theorem PGex {ι : Type} {t : ι → TG} (p : ∀ i, PG X tg (t i)) : PG X tg fun v σ H Q => ∃ i, t i v σ H Q := ⟨fun pins s σ H v u Q I r ⟨i, q⟩ => (p i).run pins s σ H v u Q I r q⟩
theorem eg_name (i : Nat) {x : Str} {Γ' : En} (hN : X.N.Nodup) (eΓ : Γ' = Γ.set i (some d) := by rfl) (hi : X.N[i]? = some x := by rfl) (hx : Loc X.env.scope x := by first | exact Or.inl rfl | exact Or.inr rfl)
    (hf : X.fn x = true ∨ X.env.scope.names.lookup x = some .local := by first | exact .inl rfl | exact .inr rfl) : EG TL X (.Name x pos) Γ h d Γ' :=
  PGimp (pg_name hN hi hx hf) fun v σ H Q ⟨R, hE, hH, r, w⟩ => w _ H (by rw [eΓ]; exact hE.set r) hH (Fr.refl h H)
theorem egs_nil : EGs TL X [] Γ h [] Γ := PGsimp pgs_nil fun v σ H Q ⟨R, hE, hH, r, w⟩ => ⟨by simpa only [Reps] using r, w _ H hE hH (Fr.refl h H)⟩
theorem egs_cons {Γ1 Γ2 : En} (p : EG TL X e Γ h d Γ1) (q : EGs TL X es Γ1 h ds Γ2) (hs : (assignEach (e :: es) X.env).map (·.2) = assign e X.env :: (assignEach es X.env).map (·.2) := by rfl) : EGs TL X (e :: es) Γ h (d :: ds) Γ2 :=
  PGsimp (pgs_cons p q hs) fun v σ H Q ⟨R, hE, hH, r, w⟩ => by
    simp only [Reps] at r
    obtain ⟨x, t, e, r1, r2⟩ := r
    exact ⟨x, t, e, R, hE, hH, r1, fun σ1 H1 a b f => ⟨R, a, b, r2.fr f, fun σ2 H2 a2 b2 f2 => w σ2 H2 a2 b2 (f.trans f2)⟩⟩
theorem eg_tup {k : Nat} {Γ' : En} (hc : X.calm = true) (p : EGs TL X es Γ h ds Γ') (hn : (assignEach es X.env).length = ds.length := by rfl) (hst : (assignEach es X.env).findIdx? (·.1) = none := by rfl) : EG TL X (.Tuple es k pos) Γ h (.tup ds) Γ' :=
  PGimp (pg_tup (n := ds.length) hc p hn hst) fun v σ H Q ⟨R, hE, hH, r, w⟩ => by
    obtain ⟨a, xs, e, sq, rs⟩ := SqT.of_rep r
    exact ⟨a, xs, e, sq, rs.length.symm, R, hE, hH, rs, w⟩
/-! ### return, if -/
theorem s1_ret {re : Res ε α} {out : α → D} {ho : α → SH} (pk : α → ρ) (p : EV TL X cA (WK E) e Γ h re out ho he) (e1 : ∀ x, oR (pk x) (out x, ho x) := by intros; rfl) : S1 TL X cA E (.Return (some e) pos) Γ h (re.bind fun x => .ok (.rt (pk x)) : Res ε (Fl β γ ρ)) oN oJ oR he :=
  PSimp (ps_ret p) fun Dn σ H ⟨R, hE, hH, w⟩ => ⟨R, hE, hH, Res.wp_mono (fun x k' v H' a b c => by
    have k2 : ∀ S, oR (pk x) S → ∀ y H', HR TL X.K R S.2 H' → Fr R h S.2 H H' → Rep X.K (own R S.2) H' S.1 y → Dn.rt y H' := k'
    exact k2 _ (e1 x) v H' a b c) (fun x e k => k) (Res.wp_bind.mp w)⟩
theorem s1_retP {v : ρ} (p : EP TL X e Γ h d) (e1 : oR v (d, h) := by rfl) : S1 TL X cA E (.Return (some e) pos) Γ h (.ok (.rt v) : Res ε (Fl β γ ρ)) oN oJ oR he :=
  PSimp (ps_ret p) fun Dn σ H ⟨R, hE, hH, w⟩ => ⟨R, hE, hH, fun v' H' a b c => by
    have k2 : ∀ S, oR v S → ∀ y H', HR TL X.K R S.2 H' → Fr R h S.2 H H' → Rep X.K (own R S.2) H' S.1 y → Dn.rt y H' := w
    exact k2 _ e1 v' H' a b c⟩
theorem s1_if {rc : Res ε α} {oc : α → Bool} {hc : α → SH} {rA rB : α → Res ε (Fl β γ ρ)} (pc : ET TL X cA (WK E) c Γ h rc oc hc he) (pA : ∀ x, SS TL X cA E A Γ (hc x) (rA x) oN oJ oR he) (pB : ∀ x, SS TL X cA E B Γ (hc x) (rB x) oN oJ oR he) :
    S1 TL X cA E (.If c A B pos) Γ h (rc.bind fun x => if oc x = true then rA x else rB x) oN oJ oR he :=
  PSimp (ps_if pc (PSsex pA) (PSsex pB)) fun Dn σ H ⟨R, hE, hH, w⟩ => ⟨R, hE, hH, Res.wp_mono (fun x w1 H1 h1 f1 => by
    cases eo : oc x with
    | true => rw [if_pos rfl]; rw [eo, if_pos rfl] at w1; exact ⟨x, tS_step (hE.fr f1) h1 f1 w1⟩
    | false => rw [if_neg Bool.false_ne_true]; rw [eo, if_neg Bool.false_ne_true] at w1; exact ⟨x, tS_step (hE.fr f1) h1 f1 w1⟩) (fun _ _ k => k) (Res.wp_bind.mp w)⟩
/-- if c: A, A never falling through -/
theorem ss_ifx {rc : Res ε α} {oc : α → Bool} {hc : α → SH} {rA rB : α → Res ε (Fl β γ ρ)} (pc : ET TL X cA (WK E) c Γ h rc oc hc he) (pA : ∀ x, SS TL X cA E A Γ (hc x) (rA x) (fun _ _ => False) oJ oR he) (pB : ∀ x, SS TL X cA E rest Γ (hc x) (rB x) oN oJ oR he) :
    SS TL X cA E (.If c A [] pos :: rest) Γ h (rc.bind fun x => if oc x = true then rA x else rB x) oN oJ oR he :=
  PSsimp (pss_cons (ps_if pc (PSsex pA) pss_nil) (PSsex pB)) fun Dn σ H ⟨R, hE, hH, w⟩ => ⟨R, hE, hH, Res.wp_mono (fun x w1 H1 h1 f1 => by
    cases eo : oc x with
    | true =>
      rw [if_pos rfl]; rw [eo, if_pos rfl] at w1
      refine ⟨x, tS_step (hE.fr f1) h1 f1 (Res.wp_mono (fun y k => ?_) (fun _ _ k => k) w1)⟩
      cases y with
      | nx b => exact fun S e => e.elim
      | bk c => exact k
      | ct c => exact k
      | rt v => exact k
    | false => rw [if_neg Bool.false_ne_true]; rw [eo, if_neg Bool.false_ne_true] at w1; exact ⟨x, tS_step (hE.fr f1) h1 f1 w1⟩) (fun _ _ k => k) (Res.wp_bind.mp w)⟩
/-! ### for -/
def DW (TL : List (Addr × Str)) (K : PySem.W.Frag) (R : Own) (J : It) (ds : List D) (h1 : SH) (H1 : Hp) (kp : SH → Prop) : Prop :=
  ds.length ≤ sizeLine ∧ ∀ R' : Own, (∀ p, R p → R' p) → (∀ p, R' p → R p ∨ H1 p = none) → ∀ (i : Nat) (hs : SH) (H : Hp), kp hs → HR TL K R' hs H → Fr R' h1 hs H1 H → (i < ds.length → J.go i H) ∧ (ds.length ≤ i → J.stop i H) ∧
    ∀ x H' d, J.yld i H x H' → ds[i]? = some d → HR TL K R' hs H' ∧ Fr R' hs hs H H' ∧ Rep K (own R' hs) H' d x
/-- what is owned more is new -/
theorem Reps.more {K : PySem.W.Frag} {R R' : Own} {h : SH} {H : Hp} {ds : List D} {xs : List V} (n : ∀ p, R' p → R p ∨ H p = none) (r : Reps K (own R h) H ds xs) : Reps K (own R' h) H ds xs :=
  Reps.keep (fun p o q e _ => ⟨fun z => z.elim (fun z => (n p z).elim (fun z => q (.inl z)) fun z => by rw [z] at e; cases e) fun z => q (.inr z), o, e, Sim.refl o⟩) _ _ r
def tI (TL : List (Addr × Str)) (K : PySem.W.Frag) (cA : CA) (Wx : WX) (Γ : En) (h : SH) (r : Res ε β) (out : β → List D) (ho : β → SH) (he : ε → SH) (kp : β → SH → Prop) : TI := fun σ H Rr =>
  ∃ R, ER K (own R h) Γ σ H ∧ HR TL K R h H ∧ r.wp (fun b => ∀ J H1, HR TL K R (ho b) H1 → Fr R h (ho b) H H1 → DW TL K R J (out b) (ho b) H1 (kp b) → Rr J H1)
    (fun x e => ∀ cls d H', HR TL K R (he e) H' → Fr R h (he e) H H' → XR cA x cls d H' → Wx cls d σ H')
abbrev EI {ε β : Type} (TL : List (Addr × Str)) (X : Cx) (cA : CA) (Wx : WX) (tg e : Expr) (Γ : En) (h : SH) (r : Res ε β) (out : β → List D) (ho : β → SH) (he : ε → SH) (kp : β → SH → Prop) : Prop := PI X tg e (tI TL X.K cA Wx Γ h r out ho he kp)
theorem PIimp {t t' : TI} (p : PI X tg e t) (k : ∀ σ H R, t' σ H R → t σ H R) : PI X tg e t' := ⟨fun pins s σ H R I q => p.run pins s σ H R I (k σ H R q)⟩
theorem s1_for {f : α → D} {re : Res ε β} {xs : β → List α} {out : β → List D} {ho : β → SH} {kp : β → SH → Prop} {Γs : S → En} {hs : S → SH} {Γb : S → α → En} {step : S → α → Res ε (Fl S S ρ)} {body : List Stmt} (s0 : β → S)
    (pi : EI TL X cA (WK E) tg e Γ h re out ho he kp) (g : ∀ s x, EG TL X tg (Γs s) (hs s) (f x) (Γb s x)) (pb : ∀ s x, SS TL X cA E body (Γb s x) (hs s) (step s x) (fun s S => S = (Γs s, hs s)) (fun s => (Γs s, hs s)) oR he)
    (hp : PassesOwn (model X.prog X.w) X.A X.env X.xe) (hc : X.calm = true) (ex : ∀ b, out b = (xs b).map f := by intros; rfl) (l0 : ∀ b, LeG Γ (Γs (s0 b))) (lh : ∀ b, List.Sublist (hs (s0 b)) (ho b) := by intros; exact List.Sublist.refl _) (ekp : ∀ b s, kp b (hs s) := by intros; trivial) (hfs : ∀ x, foldedSetIterable e X.env x = pure x := by intro _; rfl) :
    S1 TL X cA E (.For tg e body [] pos) Γ h (re.bind fun b => forL step (xs b) (s0 b) : Res ε (Fl S γ ρ)) (fun s S => S = (Γs s, hs s)) oJ oR he :=
  PSimp (ps_for hp hc pi (PGex fun i : S × α => g i.1 i.2) (PSsex fun i : S × α => pb i.1 i.2) hfs) fun Dn σ H ⟨R, hE, hH, w⟩ => by
    refine ⟨R, hE, hH, Res.wp_mono (fun b w1 J H1 h1 f1 dw => ?_) (fun _ _ k => k) (Res.wp_bind.mp w)⟩
    have lx : (out b).length = (xs b).length := by rw [ex, List.length_map]
    let PP : Fl S γ ρ → Prop := fun f => match f with
      | .nx s => ∀ σ' H', ER X.K (own R (hs s)) (Γs s) σ' H' → HR TL X.K R (hs s) H' → Fr R h (hs s) H H' → Dn.nx σ' H'
      | .bk c => ∀ σ' H', ER X.K (own R (oJ c).2) (oJ c).1 σ' H' → HR TL X.K R (oJ c).2 H' → Fr R h (oJ c).2 H H' → Dn.bk σ' H'
      | .ct c => ∀ σ' H', ER X.K (own R (oJ c).2) (oJ c).1 σ' H' → HR TL X.K R (oJ c).2 H' → Fr R h (oJ c).2 H H' → Dn.ct σ' H'
      | .rt v => ∀ S, oR v S → ∀ x H', HR TL X.K R S.2 H' → Fr R h S.2 H H' → Rep X.K (own R S.2) H' S.1 x → Dn.rt x H'
    let EE : Ex → ε → Prop := fun x e => ∀ cls d H', HR TL X.K R (he e) H' → Fr R h (he e) H H' → XR cA x cls d H' → E cls d H'
    have w2 : (forL step (xs b) (s0 b) : Res ε (Fl S γ ρ)).wp PP EE := Res.wp_mono (fun z k => by
      cases z with
      | nx s => exact k _ rfl
      | bk c => exact k
      | ct c => exact k
      | rt v => exact k) (fun _ _ k => k) w1
    refine ⟨fun i m σ' H' => m = (xs b).length - i ∧ i ≤ (xs b).length ∧ ∃ s, ER X.K (own R (hs s)) (Γs s) σ' H' ∧ HR TL X.K R (hs s) H' ∧ Fr R (ho b) (hs s) H1 H' ∧ (forL step ((xs b).drop i) s : Res ε (Fl S γ ρ)).wp PP EE,
      ⟨_, rfl, Nat.zero_le _, s0 b, ER.le (l0 b) ((hE.fr f1).drop (lh b)), h1.drop (lh b), Fr.drop (lh b), by rw [List.drop_zero]; exact w2⟩, ?_⟩
    rintro i m σ' H' ⟨rfl, hi, s, e1, e2, e3, e4⟩
    obtain ⟨d1, d2, d3⟩ := dw.2 R (fun _ z => z) (fun _ z => .inl z) i (hs s) H' (ekp b s) e2 e3
    by_cases hlt : i < (xs b).length
    · refine .inr ⟨d1 (by omega), fun σ'' H'' => i + 1 ≤ (xs b).length ∧ ∃ s, ER X.K (own R (hs s)) (Γs s) σ'' H'' ∧ HR TL X.K R (hs s) H'' ∧ Fr R (ho b) (hs s) H1 H'' ∧ (forL step ((xs b).drop (i + 1)) s : Res ε (Fl S γ ρ)).wp PP EE,
        fun σ'' H'' ⟨q1, q2⟩ => ⟨(xs b).length - (i + 1), by omega, rfl, q1, q2⟩, fun x H'' y => ?_⟩
      have hx : (xs b)[i]? = some (xs b)[i] := List.getElem?_eq_getElem hlt
      have hd : (out b)[i]? = some (f (xs b)[i]) := by rw [ex, List.getElem?_map, hx] <;> rfl
      obtain ⟨g1, g2, g3⟩ := d3 x H'' _ y hd
      refine ⟨(s, (xs b)[i]), R, e1.fr g2, g1, g3, fun σ2 H2 a2 b2 f2 => ⟨(s, (xs b)[i]), R, a2, b2, ?_⟩⟩
      have hdr : (xs b).drop i = (xs b)[i] :: (xs b).drop (i + 1) := List.drop_eq_getElem_cons hlt
      rw [hdr] at e4
      have f3 : Fr R (ho b) (hs s) H1 H2 := e3.trans (g2.trans f2)
      refine Res.wp_mono (fun z k => ?_) (fun x e k cls d H3 a3 b3 c3 => k cls d H3 a3 ((f1.trans f3).trans b3) c3) (Res.wp_bind.mp e4)
      cases z with
      | nx s' => exact fun S e σ3 H3 a3 b3 c3 => by subst e; exact ⟨hlt, s', a3, b3, f3.trans c3, k⟩
      | ct s' => exact fun σ3 H3 a3 b3 c3 => ⟨hlt, s', a3, b3, f3.trans c3, k⟩
      | bk s' => exact fun σ3 H3 a3 b3 c3 => k σ3 H3 a3 b3 ((f1.trans f3).trans c3)
      | rt v => exact fun S e y H3 a3 b3 c3 => k S e y H3 a3 ((f1.trans f3).trans b3) c3
    · refine .inl ⟨d2 (by omega), ?_⟩
      have hdr : (xs b).drop i = [] := List.drop_eq_nil_of_le (by omega)
      rw [hdr] at e4
      exact e4 σ' H' e1 e2 (f1.trans e3)
/-! ### while -/
end
end TH
set_option Elab.async false
set_option linter.all false
set_option maxRecDepth 100000
set_option maxHeartbeats 2000000
/-! TB6: sources of loops, defs and their promises, calls, objects made, fields stored, exceptions raised. -/
namespace TH
open PySem PySem.Spec PyProof.Rows L2
/-! ### heaps in parts -/
section
variable {TL : List (Addr × Str)} {K : PySem.W.Frag} {R W W' : Own} {h h' hin hout rest : SH} {H H' : Hp}
theorem ORep.imp (k : ∀ p, ¬ W p → ¬ W' p) {a : Addr} {o : O} (x : ORep K W H a o) : ORep K W' H a o := by
  have kk : ∀ p o, ¬ W p → H p = some o → NT o → ¬ W' p ∧ ∃ o', H p = some o' ∧ Sim o o' := fun p o n e _ => ⟨k p n, o, e, Sim.refl o⟩
  cases o with
  | lst ds => obtain ⟨xs, e, r⟩ := x; exact ⟨xs, e, Reps.keep kk _ _ r⟩
  | dic lk tk ks vs =>
    cases lk with
    | none => obtain ⟨xs, e, r, n⟩ := x; exact ⟨xs, e, Reps.keep kk _ _ r, n⟩
    | some u => obtain ⟨xs, e, r, n⟩ := x; exact ⟨xs, e, Reps.keep kk _ _ r, n⟩
  | ins C ns vs => obtain ⟨dx, fs, e, en, r⟩ := x; exact ⟨dx, fs, e, en, Reps.keep kk _ _ r⟩
  | dice => exact x
  | tupN ds => obtain ⟨xs, ob, e, n, r⟩ := x; exact ⟨xs, ob, e, n, Reps.keep kk _ _ r⟩
theorem dom_app {p : Addr} : dom (h ++ h') p ↔ dom h p ∨ dom h' p := by simp [dom, List.map_append, List.mem_append]
theorem dom_perm (q : List.Perm h h') {p : Addr} : dom h p ↔ dom h' p := (q.map _).mem_iff
theorem own_perm (q : List.Perm h h') {p : Addr} : own R h p ↔ own R h' p := or_congr Iff.rfl (dom_perm q)
theorem HR.perm (q : List.Perm h h') (hr : HR TL K R h H) : HR TL K R h' H :=
  ⟨(q.map _).nodup_iff.mp hr.nd, fun p hp => ⟨(hr.ap p hp).1, fun z => (hr.ap p hp).2 ((dom_perm q).mpr z)⟩, fun z hz => (hr.at_ z (q.mem_iff.mpr hz)).imp fun p n z => n ((own_perm q).mpr z), hr.tb⟩
theorem Reps.perm (q : List.Perm h h') {ds : List D} {xs : List V} (r : Reps K (own R h) H ds xs) : Reps K (own R h') H ds xs := Reps.keep (fun p o n e nt => ⟨fun z => n ((own_perm q).mpr z), o, e, Sim.refl o⟩) _ _ r
theorem Rep.perm (q : List.Perm h h') {d : D} {x : V} (r : Rep K (own R h) H d x) : Rep K (own R h') H d x := Rep.keep (fun p o n e nt => ⟨fun z => n ((own_perm q).mpr z), o, e, Sim.refl o⟩) _ _ r
theorem Fr.perm {h1 h1' h2 h2' : SH} (q1 : List.Perm h1 h1') (q2 : List.Perm h2 h2') (f : Fr R h1 h2 H H') : Fr R h1' h2' H H' := fun p o n e nt => by
  obtain ⟨a, b⟩ := f p o (fun z => n ((dom_perm q1).mp z)) e nt
  exact ⟨fun z => a ((dom_perm q2).mpr z), b⟩
/-- R and the cells of rest -/
def Rw (R : Own) (rest : SH) : Own := fun p => R p ∨ dom rest p
theorem own_split {p : Addr} : own (Rw R rest) hin p ↔ own R (hin ++ rest) p := by
  unfold own Rw
  rw [dom_app]
  exact ⟨fun z => z.elim (fun z => z.elim .inl fun z => .inr (.inr z)) fun z => .inr (.inl z), fun z => z.elim (fun z => .inl (.inl z)) fun z => z.elim .inr fun z => .inl (.inr z)⟩
theorem ORep.there {a : Addr} {o : O} (x : ORep K W H a o) : ∃ u, H a = some u ∧ ∀ ps, u ≠ .tbl ps := by
  have rd : ∀ {u : HO}, (∀ ps, u ≠ .tbl ps) → Rd H a u → ∃ u, H a = some u ∧ ∀ ps, u ≠ .tbl ps := fun {u} hu r => r.elim (fun z => ⟨u, z, hu⟩) fun ⟨ob, z⟩ => ⟨.frz ob u, z, fun ps q => by cases q⟩
  have dk : ∀ {tk ks xs}, DK H a tk ks xs → ∃ u, H a = some u ∧ ∀ ps, u ≠ .tbl ps := fun {tk ks xs} e => by
    rcases e with ⟨kv, q, _⟩ | ⟨kv, q, _⟩
    · exact rd (fun ps z => by cases z) q
    · exact rd (fun ps z => by cases z) q
  cases o with
  | lst ds => obtain ⟨xs, e, _⟩ := x; exact ⟨_, e, fun ps z => by cases z⟩
  | dic lk tk ks vs =>
    cases lk with
    | none => obtain ⟨xs, e, _⟩ := x; exact dk e
    | some u => obtain ⟨xs, e, _⟩ := x; exact dk e
  | ins C ns vs => obtain ⟨dx, fs, e, _⟩ := x; exact ⟨_, e, fun ps z => by cases z⟩
  | dice => obtain ⟨x, y, z, e, _⟩ := x; exact ⟨_, e, fun ps z => by cases z⟩
  | tupN ds => obtain ⟨xs, ob, e, n, r⟩ := x; exact ⟨_, e, fun ps z => by cases z⟩
theorem ORep.thereU {a : Addr} {o : O} (x : ORep K W H a o) : ∃ u, H a = some u ∧ NU u := by
  have rd : ∀ {u : HO}, NU u → Rd H a u → ∃ u, H a = some u ∧ NU u := fun {u} hu r => r.elim (fun z => ⟨u, z, hu⟩) fun ⟨ob, z⟩ => ⟨.frz ob u, z, nu_of⟩
  have dk : ∀ {tk ks xs}, DK H a tk ks xs → ∃ u, H a = some u ∧ NU u := fun {tk ks xs} e => by
    rcases e with ⟨kv, q, _⟩ | ⟨kv, q, _⟩
    · exact rd nu_of q
    · exact rd nu_of q
  cases o with
  | lst ds => obtain ⟨xs, e, _⟩ := x; exact ⟨_, e, nu_of⟩
  | dic lk tk ks vs =>
    cases lk with
    | none => obtain ⟨xs, e, _⟩ := x; exact dk e
    | some u => obtain ⟨xs, e, _⟩ := x; exact dk e
  | ins C ns vs => obtain ⟨dx, fs, e, _⟩ := x; exact ⟨_, e, nu_of⟩
  | dice => obtain ⟨x, y, z, e, _⟩ := x; exact ⟨_, e, nu_of⟩
  | tupN ds => obtain ⟨xs, ob, e, n, r⟩ := x; exact ⟨_, e, nu_of⟩
theorem HR.split (hr : HR TL K R (hin ++ rest) H) : HR TL K (Rw R rest) hin H := by
  have nd : (hin.map (·.1) ++ rest.map (·.1)).Nodup := by rw [← List.map_append]; exact hr.nd
  rw [List.nodup_append] at nd
  obtain ⟨n1, n2, n3⟩ := nd
  refine ⟨n1, fun p hp => ?_, fun q hq => (hr.at_ q (List.mem_append_left _ hq)).imp fun p n z => n (own_split.mp z), hr.tb⟩
  rcases hp with hp | hp
  · exact ⟨(hr.ap p hp).1, fun z => (hr.ap p hp).2 (dom_app.mpr (.inl z))⟩
  · refine ⟨?_, fun z => n3 p z p hp rfl⟩
    obtain ⟨q, hq, e⟩ := List.mem_map.mp hp
    rw [← e]
    exact (hr.at_ q (List.mem_append_right _ hq)).thereU
theorem HR.join (hr : HR TL K R (hin ++ rest) H) (ho : HR TL K (Rw R rest) hout H') (f : Fr (Rw R rest) hin hout H H') : HR TL K R (hout ++ rest) H' ∧ Fr R (hin ++ rest) (hout ++ rest) H H' := by
  have nd : (hin.map (·.1) ++ rest.map (·.1)).Nodup := by rw [← List.map_append]; exact hr.nd
  rw [List.nodup_append] at nd
  obtain ⟨n1, n2, n3⟩ := nd
  have fr : Fr R (hin ++ rest) (hout ++ rest) H H' := fun p o n e nt => by
    have np : ¬ dom hin p ∧ ¬ dom rest p := ⟨fun z => n (dom_app.mpr (.inl z)), fun z => n (dom_app.mpr (.inr z))⟩
    obtain ⟨a, o', b, c, d⟩ := f p o np.1 e nt
    exact ⟨fun z => (dom_app.mp z).elim a np.2, o', b, c, fun z => d (.inl z)⟩
  refine ⟨⟨?_, fun p hp => ?_, fun q hq => ?_, ho.tb⟩, fr⟩
  · rw [List.map_append, List.nodup_append]
    exact ⟨ho.nd, n2, fun a ha b hb e => (ho.ap a (.inr (by rw [e]; exact hb))).2 ha⟩
  · obtain ⟨⟨o, e, n⟩, q⟩ := ho.ap p (.inl hp)
    exact ⟨⟨o, e, n⟩, fun z => (dom_app.mp z).elim q fun z => (hr.ap p hp).2 (dom_app.mpr (.inr z))⟩
  · rcases List.mem_append.mp hq with hq | hq
    · exact (ho.at_ q hq).imp fun p n z => n (own_split.mpr z)
    · have x := hr.at_ q (List.mem_append_right _ hq)
      obtain ⟨u, eu, nu⟩ := x.there
      have hd : dom rest q.1 := List.mem_map.mpr ⟨q, hq, rfl⟩
      have hn : ¬ dom hin q.1 := fun z => n3 q.1 z q.1 hd rfl
      obtain ⟨_, o', e', _, eq⟩ := f q.1 u hn eu nu
      have eH : H' q.1 = H q.1 := by rw [e', eq (.inr hd), eu]
      have kk := keeps_fr (R := R) fr
      obtain ⟨a, o⟩ := q
      have eH : H' a = H a := eH
      cases o with
      | lst ds => obtain ⟨xs, e, r⟩ := x; exact ⟨xs, eH.trans e, Reps.keep kk _ _ r⟩
      | dic lk tk ks vs =>
        have dk : ∀ {tk ks xs}, DK H a tk ks xs → DK H' a tk ks xs := fun {tk ks xs} e => e.sim fun o ho _ => ⟨o, eH.trans ho, Sim.refl o⟩
        cases lk with
        | none => obtain ⟨xs, e, r, n⟩ := x; exact ⟨xs, dk e, Reps.keep kk _ _ r, fun ob u z => n ob u (eH.symm.trans z)⟩
        | some u => obtain ⟨xs, e, r, n, m⟩ := x; exact ⟨xs, dk e, Reps.keep kk _ _ r, eH.trans n, m⟩
      | ins C ns vs => obtain ⟨dx, fs, e, en, r⟩ := x; exact ⟨dx, fs, eH.trans e, en, Reps.keep kk _ _ r⟩
      | dice => obtain ⟨x, y, z, e, r⟩ := x; exact ⟨x, y, z, eH.trans e, r⟩
      | tupN ds => obtain ⟨xs, ob, e, n, r⟩ := x; exact ⟨xs, ob, eH.trans e, n, Reps.keep kk _ _ r⟩
end
abbrev q0 : Addr × O := (0, .dice)
/-- the j-th cell -/
abbrev gD (h : SH) (j : Nat) : Addr × O := h.getD j q0
theorem range_gD (h : SH) : (List.range h.length).map (gD h) = h := by
  apply List.ext_getElem?
  intro i
  rw [List.getElem?_map]
  by_cases hi : i < h.length
  · rw [List.getElem?_range hi]
    show some (h.getD i q0) = h[i]?
    rw [List.getD_eq_getElem?_getD, List.getElem?_eq_getElem hi] <;> rfl
  · rw [List.getElem?_eq_none (by simpa using hi), List.getElem?_eq_none (by simpa using hi)] <;> rfl
/-- the cells of h at is are hin, those at rs the rest -/
theorem perm_of {h hin : SH} {n : Nat} {is rs : List Nat} (pm : (List.range n).Perm (is ++ rs)) (en : h.length = n) (eh : is.map (gD h) = hin) : h.Perm (hin ++ rs.map (gD h)) := by
  have e := range_gD h
  rw [en] at e
  have q := pm.map (gD h)
  rw [e, List.map_append, eh] at q
  exact q
/-! ### promises -/
section
variable {ι ε β : Type}
def spM (TL : List (Addr × Str)) (K : PySem.W.Frag) (cA : CA) (args : ι → List D) (hin : ι → SH) (r : ι → Res ε β) (po : ι → β → D × SH → Prop) (he : ι → ε → SH) : Sp := fun vs H Q E =>
  ∃ i R, HR TL K R (hin i) H ∧ Reps K (own R (hin i)) H (args i) vs ∧
    (r i).wp (fun b => ∀ S, po i b S → ∀ v H', HR TL K R S.2 H' → Fr R (hin i) S.2 H H' → Rep K (own R S.2) H' S.1 v → Q v H')
      (fun x e => ∀ cls d H', HR TL K R (he i e) H' → Fr R (hin i) (he i e) H H' → XR cA x cls d H' → E cls d H')
end
/-- a promise used, in the midst of other cells -/
theorem spM_use {TL : List (Addr × Str)} {K : PySem.W.Frag} {cA : CA} {ι ε β : Type} {args : ι → List D} {hin : ι → SH} {r : ι → Res ε β} {po : ι → β → D × SH → Prop} {he : ι → ε → SH} {i : ι} {h1 : SH} {R : Own} {H1 : Hp} {vs : List V} {Q : VK} {E : XK}
    {n : Nat} {is rs : List Nat} (pm : (List.range n).Perm (is ++ rs)) (en : h1.length = n) (eh : is.map (gD h1) = hin i) (hr : HR TL K R h1 H1) (ra : Reps K (own R h1) H1 (args i) vs)
    (w : (r i).wp (fun b => ∀ S, po i b S → ∀ v H', HR TL K R (S.2 ++ rs.map (gD h1)) H' → Fr R h1 (S.2 ++ rs.map (gD h1)) H1 H' → Rep K (own R (S.2 ++ rs.map (gD h1))) H' S.1 v → Q v H')
      (fun x e => ∀ cls d H', HR TL K R (he i e ++ rs.map (gD h1)) H' → Fr R h1 (he i e ++ rs.map (gD h1)) H1 H' → XR cA x cls d H' → E cls d H')) : spM TL K cA args hin r po he vs H1 Q E := by
  have pp := perm_of pm en eh
  have hr2 := hr.perm pp
  refine ⟨i, Rw R (rs.map (gD h1)), hr2.split, Reps.keep (fun p o n e nt => ⟨fun z => n ((own_perm pp).mpr (own_split.mp z)), o, e, Sim.refl o⟩) _ _ ra, Res.wp_mono (fun b k S hS v H' a f c => ?_) (fun x e k cls d H' a f c => ?_) w⟩
  · obtain ⟨j1, j2⟩ := hr2.join a f
    exact k S hS v H' j1 (Fr.perm pp.symm (List.Perm.refl _) j2) (Rep.keep (fun p o n e nt => ⟨fun z => n (own_split.mpr z), o, e, Sim.refl o⟩) _ _ c)
  · obtain ⟨j1, j2⟩ := hr2.join a f
    exact k cls d H' j1 (Fr.perm pp.symm (List.Perm.refl _) j2) c
/-! ### defs -/
section
variable {P : Program} {w : World} {K : PySem.W.Frag} {mg : Str → Option Value} {base : Heap} {cA : CA}
theorem er_start {W : Own} {H : Hp} {N : List Str} {ds : List D} {vs : List V} (r : Reps K W H ds vs) : ER K W (ds.map some ++ List.replicate (N.length - ds.length) none) (L2.start N vs) H := by
  have hl := r.length
  refine ⟨by unfold L2.start; simp [hl], fun i d hi => ?_⟩
  by_cases hlt : i < ds.length
  · rw [List.getElem?_append_left (by simpa using hlt), List.getElem?_map] at hi
    cases e : ds[i]? with
    | none => rw [e] at hi; cases hi
    | some d' =>
      rw [e] at hi
      cases hi
      obtain ⟨x, e1, e2⟩ := r.get e
      refine ⟨x, ?_, e2⟩
      unfold L2.start
      rw [List.getElem?_append_left (by simpa [← hl] using hlt), List.getElem?_map, e1] <;> rfl
  · rw [List.getElem?_append_right (by simpa using hlt), List.getElem?_replicate] at hi
    split at hi <;> cases hi
end
/-- a def of the module, as it may be called -/
def GF (X : Cx) (x : Str) (k : Nat) (ps : List Str) (sp : Sp) : Prop := ∃ f fd, FnOk X.prog X.w X.K X.mg X.base (L2.CX X.prog X.w) k f fd ps sp ∧ X.mg x = some (.ref f) ∧ PySem.W.keepIn X.K (.ref f) = true ∧ Binds X.K fd ps []
/-- a method -/
def MF (X : Cx) (C : Addr) (m : Str) (k : Nat) (ps : List Str) (sp : Sp) : Prop := Cls X.K C ∧ ∃ f fd, FnOk X.prog X.w X.K X.mg X.base (L2.CX X.prog X.w) k f fd ps sp ∧ Meth X.K C m f ∧ Binds X.K fd ps []
/-- a class that is made -/
def CF (X : Cx) (x : Str) (C : Addr) (k : Nat) (ps : List Str) (sp : Sp) : Prop := X.mg x = some (.ref C) ∧ ∃ f fd, FnOk X.prog X.w X.K X.mg X.base (L2.CX X.prog X.w) k f fd ps sp ∧ Mk X.K C f ∧ Binds X.K fd ps []
end TH
set_option Elab.async false
set_option linter.all false
set_option maxRecDepth 100000
set_option maxHeartbeats 2000000
/-! TB7: sources of loops, calls, objects made, fields stored, exceptions raised. -/
namespace TH
open PySem PySem.Spec PyProof.Rows L2
section
variable {TL : List (Addr × Str)} {X : Cx} {cA : CA} {Wx : WX} {E : XK} {Γ : En} {h : SH} {ε ε' β β' β1 α α' ι γ ρ : Type} {he : ε → SH} {e a b o tg : Expr} {es : List Expr} {pos p apos : Pos} {d : D} {x m : Str} {k : Nat} {ps : List Str} {C : Addr}
/-! ### what a for walks -/
/-- a sequence is not too long -/
theorem pe_len {t : TE} (p : PE X e t) : PE X e fun σ H Q => t σ H fun v H' => (∀ a xs, v = .ref a → (SqL X.K H' a xs ∨ SqT X.K H' a xs) → xs.length ≤ sizeLine) → Q v H' :=
  ⟨fun pins s σ H Q I q => thn (p.run pins s σ H _ I q) fun u s' ⟨v, H', I', r, k⟩ => ⟨v, H', I', r, k fun a xs _ z => by
    rcases z with z | z
    · obtain ⟨its, rv, _, hz⟩ := I'.list z
      exact hz
    · obtain ⟨its, rv, _, hz⟩ := I'.tuple z
      exact hz⟩⟩
theorem dw_list {TL : List (Addr × Str)} {K : PySem.W.Frag} {R : Own} {h1 : SH} {H1 : Hp} {q : Addr} {xs : List V} {ds : List D} (nw : ¬ own R h1 q) (sq : H1 q = some (.lst xs)) (rs : Reps K (own R h1) H1 ds xs) (hz : ds.length ≤ sizeLine) : DW TL K R (Itl K q) ds h1 H1 fun _ => True := by
  refine ⟨hz, ?_⟩
  intro R' hR hR2 i hs H _ hr f
  have rs' := (rs.more hR2).fr f
  have hl := rs.length
  have sq' : SqL K H q xs := by
    obtain ⟨_, o', e', s, _⟩ := f q _ (fun z => nw (.inr z)) sq nt_of
    have eo : o' = .lst xs := by
      rcases s with z | ⟨z, _⟩
      · exact z
      · cases z
    exact .inl (.inl (by rw [e', eo]))
  refine ⟨fun hi => ⟨xs, xs[i]'(by omega), sq', List.getElem?_eq_getElem (by omega)⟩, fun hi => ⟨xs, sq', by omega⟩, fun x H' d ⟨e, y⟩ hd => ?_⟩
  subst e
  obtain ⟨z, e1, e2⟩ := rs'.get hd
  rw [y xs sq'] at e1
  cases e1
  exact ⟨hr, Fr.refl _ _, e2⟩
theorem dw_tup {TL : List (Addr × Str)} {K : PySem.W.Frag} {R : Own} {h1 : SH} {H1 : Hp} {q : Addr} {xs : List V} {ds : List D} (sq : (¬ own R h1 q ∧ H1 q = some (.tup xs)) ∨ KT K q xs) (rs : Reps K (own R h1) H1 ds xs) (hz : ds.length ≤ sizeLine) : DW TL K R (Itt K q) ds h1 H1 fun _ => True := by
  refine ⟨hz, ?_⟩
  intro R' hR hR2 i hs H _ hr f
  have rs' := (rs.more hR2).fr f
  have hl := rs.length
  have sq' : SqT K H q xs := by
    rcases sq with ⟨nw, sq⟩ | sq
    · exact .inl (Rd.sim (by intro _ z; cases z) (.inl sq) fun o ho nt => (keeps_fr f q o (fun z => z.elim (fun z => (hR2 q z).elim (fun z => nw (.inl z)) fun z => by rw [z] at ho; cases ho) fun z => nw (.inr z)) ho nt).2)
    · exact .inr sq
  refine ⟨fun hi => ⟨xs, xs[i]'(by omega), sq', List.getElem?_eq_getElem (by omega)⟩, fun hi => ⟨xs, sq', by omega⟩, fun x H' d ⟨e, y⟩ hd => ?_⟩
  subst e
  obtain ⟨z, e1, e2⟩ := rs'.get hd
  rw [y xs sq'] at e1
  cases e1
  exact ⟨hr, Fr.refl _ _, e2⟩
theorem ei_lst {r : Res ε β} {oa : β → D} {out : β → List D} {ho : β → SH} (q : EV TL X cA Wx e Γ h r oa ho he) (ea : ∀ b, oa b = .lst (out b) := by intros; rfl) : EI TL X cA Wx tg e Γ h r out ho he fun _ _ => True :=
  PIimp (pi_list (pe_len q)) fun σ H Rr ⟨R, hE, hH, w⟩ => ⟨R, hE, hH, Res.wp_mono (fun b k v H1 h1 f1 r1 hz => by
    rw [ea] at r1
    simp only [Rep] at r1
    obtain ⟨a, xs, rfl, nw, sq, rs⟩ := r1
    have sq2 : SqL X.K H1 a xs := .inl (.inl sq)
    exact ⟨a, rfl, ⟨xs, sq2⟩, k _ H1 h1 f1 (dw_list nw sq rs (by rw [rs.length]; exact hz a xs rfl (.inl sq2)))⟩) (fun _ _ k => k) w⟩
theorem ei_tup {r : Res ε β} {oa : β → D} {out : β → List D} {ho : β → SH} (q : EV TL X cA Wx e Γ h r oa ho he) (ea : ∀ b, oa b = .tup (out b) := by intros; rfl) : EI TL X cA Wx tg e Γ h r out ho he fun _ _ => True :=
  PIimp (pi_tup (pe_len q)) fun σ H Rr ⟨R, hE, hH, w⟩ => ⟨R, hE, hH, Res.wp_mono (fun b k v H1 h1 f1 r1 hz => by
    rw [ea] at r1
    simp only [Rep] at r1
    obtain ⟨a, xs, rfl, sq, rs⟩ := r1
    have sq2 : SqT X.K H1 a xs := sq.elim (fun z => .inl (.inl z.2)) .inr
    exact ⟨a, rfl, ⟨xs, sq2⟩, k _ H1 h1 f1 (dw_tup sq rs (by rw [rs.length]; exact hz a xs rfl (.inr sq2)))⟩) (fun _ _ k => k) w⟩
/-- 0, 1, .. n - 1 -/
def rangeI (lo : Int) (n : Nat) : List Int := (List.range n).map fun i : Nat => lo + (i : Int)
theorem rangeI_get {lo : Int} {n i : Nat} {d : Int} (h : (rangeI lo n)[i]? = some d) : d = lo + (i : Int) ∧ i < n := by
  unfold rangeI at h
  rw [List.getElem?_map] at h
  by_cases hi : i < n
  · rw [List.getElem?_range hi] at h
    cases h
    exact ⟨rfl, hi⟩
  · rw [List.getElem?_eq_none (by simpa using hi)] at h
    cases h
theorem dw_range {TL : List (Addr × Str)} {K : PySem.W.Frag} {R : Own} {h1 : SH} {H1 : Hp} {lo : Int} {n : Nat} (hz : n ≤ sizeLine) : DW TL K R (Itr lo n) ((rangeI lo n).map D.int) h1 H1 fun _ => True := by
  refine ⟨by simpa [rangeI] using hz, ?_⟩
  intro R' hR hR2 i hs H _ hr f
  have hl : ((rangeI lo n).map D.int).length = n := by simp [rangeI]
  refine ⟨fun hi => by rw [hl] at hi; exact hi, fun hi => by rw [hl] at hi; exact hi, fun x H' d ⟨e, y⟩ hd => ?_⟩
  subst e y
  rw [List.getElem?_map] at hd
  cases q : (rangeI lo n)[i]? with
  | none => rw [q] at hd; cases hd
  | some z =>
    rw [q] at hd
    cases hd
    rw [(rangeI_get q).1]
    exact ⟨hr, Fr.refl _ _, by simp [Rep]⟩
def rng62 (i : Int) : Prop := -(2 ^ 62) ≤ i ∧ i ≤ 1000000
theorem rng62_lt {i : Int} (h : rng62 i) : i < 2 ^ 62 := by have := h.2; omega
theorem rng62_sz {i : Int} (h : rng62 i) : i.toNat ≤ sizeLine := by
  have := h.2
  have z : 1000000 ≤ sizeLine := by decide
  omega
instance : DecidablePred rng62 := fun i => by unfold rng62; infer_instance
theorem ei_range1 {r : Res ε β} {n : β → Int} {oa : β → D} {ho : β → SH} (pk : β → β') {ho' : β' → SH} {out : β' → List D} (q : EV TL X cA Wx a Γ h r oa ho he) (ea : ∀ b, oa b = .int (n b) := by intros; rfl) (hg : Gl X "range") (hm : X.mg "range" = none)
    (e1 : ∀ b, out (pk b) = (rangeI 0 (n b).toNat).map D.int := by intros; rfl) (e2 : ∀ b, ho' (pk b) = ho b := by intros; rfl) (hs : starEach [a] X.env = (false, eval a X.env) :: starEach [] X.env := by rfl) :
    EI TL X cA Wx tg (.Call (.Name "range" p) [a] [] pos) Γ h (r.bind fun b => (Res.guard (rng62 (n b))).bind fun _ => .ok (pk b)) out ho' he fun _ _ => True :=
  PIimp (pi_range1 hg hm (pa_cons q pa_nil hs) hs) fun σ H Rr ⟨R, hE, hH, w⟩ => ⟨R, hE, hH, Res.wp_mono (fun b k v H1 h1 f1 r1 => by
    rw [ea] at r1
    obtain ⟨g1, g2⟩ := Res.wp_guard.mp (Res.wp_bind.mp k)
    have k3 : ∀ J H1, HR TL X.K R (ho' (pk b)) H1 → Fr R h (ho' (pk b)) H H1 → DW TL X.K R J (out (pk b)) (ho' (pk b)) H1 (fun _ => True) → Rr J H1 := g2
    rw [e1, e2] at k3
    exact ⟨n b, by rw [r1.int_eq], g1.1, rng62_lt g1, k3 _ H1 h1 f1 (dw_range (rng62_sz g1))⟩) (fun _ _ k => k) (Res.wp_bind.mp w)⟩
/-! ### calls -/
/-- a part of it, in another order -/
def SubP (a b : SH) : Prop := ∃ l, List.Sublist a l ∧ List.Perm l b
theorem subP_of {he h' hef rest : SH} {n : Nat} {is rs : List Nat} (pm : (List.range n).Perm (is ++ rs)) (en : h'.length = n) (eh : is.map (gD h') = hef) (er : rs.map (gD h') = rest) (s : List.Sublist he h') : SubP he (hef ++ rest) := ⟨h', s, by rw [← er]; exact perm_of pm en eh⟩
theorem call_use {TL : List (Addr × Str)} {K : PySem.W.Frag} {args : ι → List D} {hin : ι → SH} {rf : ι → Res ε' β'} {of : ι → β' → D} {hf : ι → β' → SH} {hef : ι → ε' → SH} {i : ι} {h1 : SH} {R : Own} {H0 H1 : Hp} {vs : List V} {Q : VK} {E : XK} {n : Nat} {is rs : List Nat} (pm : (List.range n).Perm (is ++ rs)) (en : h1.length = n) (eh : is.map (gD h1) = hin i)
    (pk : β' → β) {out : β → D} {ho : β → SH} (g : ε' → ε) (hr : HR TL K R h1 H1) (f1 : Fr R h h1 H0 H1) (ra : Reps K (own R h1) H1 (args i) vs) (e1 : ∀ b, out (pk b) = of i b) (e2 : ∀ b, (ho (pk b)).length = n) (e3 : ∀ b, is.map (gD (ho (pk b))) = hf i b) (e4 : ∀ b, rs.map (gD (ho (pk b))) = rs.map (gD h1))
    (e5 : ∀ x, SubP (he (g x)) (hef i x ++ rs.map (gD h1)))
    (w : (((rf i).mapE g).bind fun b => .ok (pk b) : Res ε β).wp (fun b => ∀ v H', HR TL K R (ho b) H' → Fr R h (ho b) H0 H' → Rep K (own R (ho b)) H' (out b) v → Q v H')
      (fun x e => ∀ cls d H', HR TL K R (he e) H' → Fr R h (he e) H0 H' → XR cA x cls d H' → E cls d H')) :
    spM TL K cA args hin rf (fun i b S => S = (of i b, hf i b)) hef vs H1 Q E := by
  refine spM_use pm en eh hr ra (Res.wp_mono (fun b k S hS v H' a f c => ?_) (fun x e k cls d H' a f c => ?_) (Res.wp_mapE.mp (Res.wp_bind.mp w)))
  · subst hS
    have pp : (ho (pk b)).Perm (hf i b ++ rs.map (gD h1)) := by rw [← e4]; exact perm_of pm (e2 b) (e3 b)
    have k : ∀ v H', HR TL K R (ho (pk b)) H' → Fr R h (ho (pk b)) H0 H' → Rep K (own R (ho (pk b))) H' (out (pk b)) v → Q v H' := k
    exact k v H' (a.perm pp.symm) (f1.trans (Fr.perm (List.Perm.refl _) pp.symm f)) (by rw [e1]; exact c.perm pp.symm)
  · obtain ⟨l, s1, s2⟩ := e5 e
    exact k cls d H' ((a.perm s2.symm).drop s1) (f1.trans ((Fr.perm (List.Perm.refl _) s2.symm f).trans (Fr.drop s1))) c
/-- exceptions of it are not wanted -/
theorem call_useN {TL : List (Addr × Str)} {K : PySem.W.Frag} {args : ι → List D} {hin : ι → SH} {rf : ι → Res ε' β'} {of : ι → β' → D} {hf : ι → β' → SH} {hef : ι → ε' → SH} {i : ι} {h1 : SH} {R : Own} {H0 H1 : Hp} {vs : List V} {Q : VK} {E : XK} {n : Nat} {is rs : List Nat} (pm : (List.range n).Perm (is ++ rs)) (en : h1.length = n) (eh : is.map (gD h1) = hin i)
    (pk : β' → β) {out : β → D} {ho : β → SH} (hr : HR TL K R h1 H1) (f1 : Fr R h h1 H0 H1) (ra : Reps K (own R h1) H1 (args i) vs) (e1 : ∀ b, out (pk b) = of i b) (e2 : ∀ b, (ho (pk b)).length = n) (e3 : ∀ b, is.map (gD (ho (pk b))) = hf i b) (e4 : ∀ b, rs.map (gD (ho (pk b))) = rs.map (gD h1))
    {Ez : Ex → ε → Prop} (w : ((rf i).noE.bind fun b => .ok (pk b) : Res ε β).wp (fun b => ∀ v H', HR TL K R (ho b) H' → Fr R h (ho b) H0 H' → Rep K (own R (ho b)) H' (out b) v → Q v H') Ez) :
    spM TL K cA args hin rf (fun i b S => S = (of i b, hf i b)) hef vs H1 Q E := by
  refine spM_use pm en eh hr ra (Res.wp_mono (fun b k S hS v H' a f c => ?_) (fun x e k => k.elim) (Res.wp_noE.mp (Res.wp_bind.mp w)))
  subst hS
  have pp : (ho (pk b)).Perm (hf i b ++ rs.map (gD h1)) := by rw [← e4]; exact perm_of pm (e2 b) (e3 b)
  have k : ∀ v H', HR TL K R (ho (pk b)) H' → Fr R h (ho (pk b)) H0 H' → Rep K (own R (ho (pk b))) H' (out (pk b)) v → Q v H' := k
  exact k v H' (a.perm pp.symm) (f1.trans (Fr.perm (List.Perm.refl _) pp.symm f)) (by rw [e1]; exact c.perm pp.symm)
section
variable {args : ι → List D} {hin : ι → SH} {rf : ι → Res ε' β'} {of : ι → β' → D} {hf : ι → β' → SH} {hef : ι → ε' → SH}
/-- x(e, ..), exceptions passed on -/
theorem ev_call (G : GF X x k ps (spM TL X.K cA args hin rf (fun i b S => S = (of i b, hf i b)) hef)) (hr : Room k X.A) (hg : Gl X x) (tk : Takes X Wx) {ra : Res ε α} {oa : α → List D} {ha : α → SH} (pa : EA TL X cA Wx (e :: es) Γ h ra oa ha he)
    (ix : α → ι) (n : Nat) (is rs : List Nat) (pk : α → β' → β) (g : α → ε' → ε) {out : β → D} {ho : β → SH} (e5 : ∀ y x, SubP (he (g y x)) (hef (ix y) x ++ rs.map (gD (ha y))))
    (ei : ∀ y, oa y = args (ix y) := by intros; rfl) (en : ∀ y, (ha y).length = n := by intros; rfl) (eh : ∀ y, is.map (gD (ha y)) = hin (ix y) := by intros; rfl)
    (e1 : ∀ y b, out (pk y b) = of (ix y) b := by intros; rfl) (e2 : ∀ y b, (ho (pk y b)).length = n := by intros; rfl) (e3 : ∀ y b, is.map (gD (ho (pk y b))) = hf (ix y) b := by intros; rfl) (e4 : ∀ y b, rs.map (gD (ho (pk y b))) = rs.map (gD (ha y)) := by intros; rfl)
    (pm : (List.range n).Perm (is ++ rs) := by decide) (hdb : (x == ("__debug__" : Str)) = false := by decide) (hst : starEach (e :: es) X.env = (false, eval e X.env) :: starEach es X.env := by rfl) (hpl : (backTo pos (starEach es X.env)).any (·.1) = false := by rfl) :
    EV TL X cA Wx (.Call (.Name x p) (e :: es) [] pos) Γ h (ra.bind fun y => ((rf (ix y)).mapE (g y)).bind fun b => .ok (pk y b)) out ho he := by
  obtain ⟨f, fd, F, hm, hk, hb⟩ := G
  exact PEimp (pe_callS F hr hg hm hk hb (fun σ => passAt tk σ) pa hdb hst hpl) fun σ H Q ⟨R, hE, hH, w⟩ => ⟨R, hE, hH, Res.wp_mono (fun y k vs H1 h1 f1 r1 =>
    call_use pm (en y) (eh y) (pk y) (g y) h1 f1 (by rw [← ei]; exact r1) (e1 y) (e2 y) (e3 y) (e4 y) (e5 y) k) (fun _ _ k => k) (Res.wp_bind.mp w)⟩
/-- x(e, ..), exceptions not wanted -/
theorem ev_callN (G : GF X x k ps (spM TL X.K cA args hin rf (fun i b S => S = (of i b, hf i b)) hef)) (hr : Room k X.A) (hg : Gl X x) (tk : Takes X Wx) {ra : Res ε α} {oa : α → List D} {ha : α → SH} (pa : EA TL X cA Wx (e :: es) Γ h ra oa ha he)
    (ix : α → ι) (n : Nat) (is rs : List Nat) (pk : α → β' → β) {out : β → D} {ho : β → SH}
    (ei : ∀ y, oa y = args (ix y) := by intros; rfl) (en : ∀ y, (ha y).length = n := by intros; rfl) (eh : ∀ y, is.map (gD (ha y)) = hin (ix y) := by intros; rfl)
    (e1 : ∀ y b, out (pk y b) = of (ix y) b := by intros; rfl) (e2 : ∀ y b, (ho (pk y b)).length = n := by intros; rfl) (e3 : ∀ y b, is.map (gD (ho (pk y b))) = hf (ix y) b := by intros; rfl) (e4 : ∀ y b, rs.map (gD (ho (pk y b))) = rs.map (gD (ha y)) := by intros; rfl)
    (pm : (List.range n).Perm (is ++ rs) := by decide) (hdb : (x == ("__debug__" : Str)) = false := by decide) (hst : starEach (e :: es) X.env = (false, eval e X.env) :: starEach es X.env := by rfl) (hpl : (backTo pos (starEach es X.env)).any (·.1) = false := by rfl) :
    EV TL X cA Wx (.Call (.Name x p) (e :: es) [] pos) Γ h (ra.bind fun y => ((rf (ix y)).noE).bind fun b => .ok (pk y b)) out ho he := by
  obtain ⟨f, fd, F, hm, hk, hb⟩ := G
  exact PEimp (pe_callS F hr hg hm hk hb (fun σ => passAt tk σ) pa hdb hst hpl) fun σ H Q ⟨R, hE, hH, w⟩ => ⟨R, hE, hH, Res.wp_mono (fun y k vs H1 h1 f1 r1 =>
    call_useN pm (en y) (eh y) (pk y) h1 f1 (by rw [← ei]; exact r1) (e1 y) (e2 y) (e3 y) (e4 y) k) (fun _ _ k => k) (Res.wp_bind.mp w)⟩
end
end
/-! ### methods -/
section
variable {X : Cx} {k : Nat} {f C : Addr} {fd : FuncData} {ps : List Str} {sp : Sp} {E : L2.St → XK} {x m : Str} {p pos apos : Pos} {e o : Expr} {es : List Expr} {ta : TE} {t : TA}
def tMethS (C : Addr) (m : Str) (sp : Sp) (E : L2.St → XK) (ta : TE) (t : TA) : TE := fun σ H Q => ta σ H fun x H1 => ∃ a dx fs, x = .ref a ∧ H1 a = some (.ins C dx fs) ∧ fs.lookup m = none ∧ t σ H1 fun vs H2 => sp (x :: vs) H2 Q (E σ)
theorem pe_methS {pl : Sem Bool} (he : PE X o ta) (c : Cls X.K C) (hm : Meth X.K C m f) (F : FnOk X.prog X.w X.K X.mg X.base (L2.CX X.prog X.w) k f fd ps sp) (hr : Room k X.A) (hb : Binds X.K fd ps []) (hx : ∀ σ, PassesAt (L2.CX X.prog X.w) X σ (E σ)) (ha : PA X (e :: es) t)
    (hst : starEach (e :: es) X.env = (false, eval e X.env) :: starEach es X.env := by rfl) (hpl : (backTo pos (starEach es X.env)).any (·.1) = false := by rfl)
    (ht : eval (.Call (.Attribute o m apos) (e :: es) [] pos) X.env = (do
      let ov ← eval o X.env
      standAt apos.atName
      let (f, first) ← holding [ov] (getMethod ov m pl)
      callWith pos f first (backTo pos (starEach (e :: es) X.env)) (backToKw pos (keywordEach [] X.env))) := by rfl) :
    PE X (.Call (.Attribute o m apos) (e :: es) [] pos) (tMethS C m sp E ta t) := by
  refine ⟨fun pins s σ H Q I h => ?_⟩
  refine PySem.W.methodCall_KW (pl := pl) (thn (he.run pins s σ H _ I h) fun u s1 ⟨x, H1, I1, rx, a, dx, fs, ex, ea, l, q⟩ => ?_) ht
  subst ex
  obtain rfl : u = Value.ref a := rx
  refine getmeth_ok I1 ea c hm l ?_
  refine PySem.W.callWith_K (first := [.ref a]) (h₀ := X.base) I.ok.mod.kin hm.kp (thn (ha.run pos pins s1 σ H1 _ I1 q) fun us s2 ⟨vs, H2, I2, r, q2⟩ => ⟨I2.kIn, ?_⟩) hst hpl
  exact run_fnS (us := .ref a :: us) (vs := .ref a :: vs) F hr hb (hx σ) I2 (.cons rfl r) q2
theorem pe_methS0 {pl : Sem Bool} (he : PE X o ta) (c : Cls X.K C) (hm : Meth X.K C m f) (F : FnOk X.prog X.w X.K X.mg X.base (L2.CX X.prog X.w) k f fd ps sp) (hr : Room k X.A) (hb : Binds X.K fd ps []) (hx : ∀ σ, PassesAt (L2.CX X.prog X.w) X σ (E σ))
    (ht : eval (.Call (.Attribute o m apos) [] [] pos) X.env = (do
      let ov ← eval o X.env
      standAt apos.atName
      let (f, first) ← holding [ov] (getMethod ov m pl)
      callWith pos f first (backTo pos (starEach [] X.env)) (backToKw pos (keywordEach [] X.env))) := by rfl) :
    PE X (.Call (.Attribute o m apos) [] [] pos) (tMethS C m sp E ta tNil) := by
  refine ⟨fun pins s σ H Q I h => ?_⟩
  refine PySem.W.methodCall_KW (pl := pl) (thn (he.run pins s σ H _ I h) fun u s1 ⟨x, H1, I1, rx, a, dx, fs, ex, ea, l, q⟩ => ?_) ht
  subst ex
  obtain rfl : u = Value.ref a := rx
  refine getmeth_ok I1 ea c hm l ?_
  exact PySem.W.callWith_K0 (first := [.ref a]) I1.kIn hm.kp (run_fnS (us := [.ref a]) (vs := [.ref a]) F hr hb (hx σ) I1 (.cons rfl .nil) q)
/-- C(..) -/
def tMakeS (C : Addr) (sp : Sp) (E : L2.St → XK) (t : TA) : TE := fun σ H Q => t σ H fun vs H1 => ∀ x dx, H1 x = none → H1 dx = none → dx ≠ x →
  sp (.ref x :: vs) (upd (upd H1 dx (.own x)) x (.ins C dx [])) (fun v H2 => v = .non ∧ Q (.ref x) H2) (E σ)
theorem run_makeS {pins : List (Addr × Obj)} {σ : L2.St} {H : Hp} {s : Shared} {Q : VK} {us : List Value} {vs : List V} (M : Mk X.K C f) (F : FnOk X.prog X.w X.K X.mg X.base (L2.CX X.prog X.w) k f fd ps sp) (hr : Room (k + 1) X.A) (hb : Binds X.K fd ps [])
    (hx : PassesAt (L2.CX X.prog X.w) X σ (E σ)) (I : Inv X pins σ H s) (r : Vals vs us)
    (h : ∀ x dx, H x = none → H dx = none → dx ≠ x → sp (.ref x :: vs) (upd (upd H dx (.own x)) x (.ins C dx [])) (fun v H2 => v = .non ∧ Q (.ref x) H2) (E σ)) :
    wpAny (model X.prog X.w) X.A (call (.ref C) us) (L2.EP X pins σ Q) X.xe s := by
  have hq := h (s.heap.objs.size + 1) s.heap.objs.size (I.hok.fresh (Nat.le_succ _)) (I.hok.fresh (Nat.le_refl _)) (Nat.ne_of_lt (Nat.lt_succ_self _))
  have I2 := Inv.made (C := C) I
  have r2 : Vals (V.ref (s.heap.objs.size + 1) :: vs) (Value.ref (s.heap.objs.size + 1) :: us) := .cons rfl r
  have hl : (Value.ref (s.heap.objs.size + 1) :: us).length = ps.length := by
    have e := r2.length
    rw [F.len _ _ _ _ hq] at e
    exact e.symm
  have b := hb _ (Value.ref (s.heap.objs.size + 1) :: us) I2.kIn (by rw [List.append_nil]; exact hl)
  rw [List.append_nil] at b
  refine wpAny_call (make_map (f := f) I.kIn M.makes M.init (beq_iff_eq.mp M.fn) (codeAny_mono (F.run _ X.stack _ _ ⟨Value.ref (s.heap.objs.size + 1) :: us, []⟩ (Value.ref (s.heap.objs.size + 1) :: us) _ _ (E σ) (hr.make C us [])
    (I2.env0.make C us []) b r2 hq) fun r s' hq' => ?_))
  cases r with
  | error e => exact hx pins _ _ e s' I2 hq'
  | ok fl =>
    cases fl with
    | ret u =>
      obtain ⟨v, H', I3, rv, ev, q3⟩ := I2.after hq'
      subst ev
      exact ⟨rv, ⟨V.ref (s.heap.objs.size + 1), H', I3, rfl, q3⟩⟩
    | next => exact False.elim hq'
    | brk => exact False.elim hq'
    | cont => exact False.elim hq'
theorem pe_makeS (M : Mk X.K C f) (F : FnOk X.prog X.w X.K X.mg X.base (L2.CX X.prog X.w) k f fd ps sp) (hr : Room (k + 1) X.A) (hg : Gl X x) (hm : X.mg x = some (.ref C)) (hb : Binds X.K fd ps []) (hx : ∀ σ, PassesAt (L2.CX X.prog X.w) X σ (E σ))
    (ha : PA X (e :: es) t) (hdb : (x == ("__debug__" : Str)) = false := by decide) (he : starEach (e :: es) X.env = (false, eval e X.env) :: starEach es X.env := by rfl) (hpl : (backTo pos (starEach es X.env)).any (·.1) = false := by rfl) :
    PE X (.Call (.Name x p) (e :: es) [] pos) (tMakeS C sp E t) := by
  refine ⟨fun pins s σ H Q I h => ?_⟩
  refine wpAny_Call_Name_kw (ld_glob I hg hm ?_ hdb)
  refine PySem.W.callWith_K (h₀ := X.base) I.ok.mod.kin M.kp (thn (ha.run pos pins s σ H _ I h) fun us s1 ⟨vs, H1, I1, r, q⟩ => ⟨I1.kIn, ?_⟩) he hpl
  exact run_makeS M F hr hb (hx σ) I1 r q
theorem pe_makeS0 (M : Mk X.K C f) (F : FnOk X.prog X.w X.K X.mg X.base (L2.CX X.prog X.w) k f fd ps sp) (hr : Room (k + 1) X.A) (hg : Gl X x) (hm : X.mg x = some (.ref C)) (hb : Binds X.K fd ps []) (hx : ∀ σ, PassesAt (L2.CX X.prog X.w) X σ (E σ))
    (hdb : (x == ("__debug__" : Str)) = false := by decide) : PE X (.Call (.Name x p) [] [] pos) (tMakeS C sp E tNil) := by
  refine ⟨fun pins s σ H Q I h => ?_⟩
  refine wpAny_Call_Name_kw (ld_glob I hg hm ?_ hdb)
  exact PySem.W.callWith_K0 I.kIn M.kp (run_makeS (us := []) M F hr hb (hx σ) I .nil h)
end
end TH
set_option Elab.async false
set_option linter.all false
set_option maxRecDepth 100000
set_option maxHeartbeats 2000000
/-! TB8: new cells; methods, objects made, fields stored, exceptions raised. -/
namespace TH
open PySem PySem.Spec PyProof.Rows L2
section
variable {ε β γ : Type}
def tN (TL : List (Addr × Str)) (K : PySem.W.Frag) (cA : CA) (Wx : WX) (Γ : En) (h : SH) (r : Res ε β) (po : β → D → SH → Prop) (he : ε → SH) : TE := fun σ H Q =>
  ∃ R, ER K (own R h) Γ σ H ∧ HR TL K R h H ∧
    r.wp (fun b => ∀ d h', po b d h' → ∀ v H', HR TL K R h' H' → Fr R h h' H H' → Rep K (own R h') H' d v → Q v H')
      (fun x e => ∀ cls d H', HR TL K R (he e) H' → Fr R h (he e) H H' → XR cA x cls d H' → Wx cls d σ H')
def tAN (TL : List (Addr × Str)) (K : PySem.W.Frag) (cA : CA) (Wx : WX) (Γ : En) (h : SH) (r : Res ε β) (po : β → List D → SH → Prop) (he : ε → SH) : TA := fun σ H Q =>
  ∃ R, ER K (own R h) Γ σ H ∧ HR TL K R h H ∧
    r.wp (fun b => ∀ d h', po b d h' → ∀ v H', HR TL K R h' H' → Fr R h h' H H' → Reps K (own R h') H' d v → Q v H')
      (fun x e => ∀ cls d H', HR TL K R (he e) H' → Fr R h (he e) H H' → XR cA x cls d H' → Wx cls d σ H')
end
/-- an expression that may leave new cells -/
abbrev EN {ε β : Type} (TL : List (Addr × Str)) (X : Cx) (cA : CA) (Wx : WX) (e : Expr) (Γ : En) (h : SH) (r : Res ε β) (po : β → D → SH → Prop) (he : ε → SH) : Prop := PE X e (tN TL X.K cA Wx Γ h r po he)
abbrev EAN {ε β : Type} (TL : List (Addr × Str)) (X : Cx) (cA : CA) (Wx : WX) (es : List Expr) (Γ : En) (h : SH) (r : Res ε β) (po : β → List D → SH → Prop) (he : ε → SH) : Prop := PA X es (tAN TL X.K cA Wx Γ h r po he)
/-- a new cell at the end -/
abbrev NC {β : Type} (o : β → O) (h : β → SH) : β → D → SH → Prop := fun b d h' => ∃ a, d = .ref a ∧ h' = h b ++ [(a, o b)]
section
variable {TL : List (Addr × Str)} {K : PySem.W.Frag} {R : Own} {h : SH} {H : Hp}
/-- a new object is a new cell -/
theorem HR.new {p : Addr} {u : HO} {o : O} (hr : HR TL K R h H) (hp : H p = none) (ox : ORep K (own R (h ++ [(p, o)])) (upd H p u) p o) (hu : ∀ ps, u ≠ .tbl ps) : HR TL K R (h ++ [(p, o)]) (upd H p u) ∧ Fr R h (h ++ [(p, o)]) H (upd H p u) := by
  have np := hr.notown hp
  have f : Fr R h (h ++ [(p, o)]) H (upd H p u) := fun q v n e nt => by
    have ne := ne_of_none e hp
    refine ⟨fun z => (dom_app.mp z).elim n fun z => ne (by simpa [dom] using z), v, by rw [upd_ne ne]; exact e, Sim.refl v, fun _ => rfl⟩
  refine ⟨⟨?_, fun q hq => ?_, fun q hq => ?_, hr.tb.ext (upd_keep hp)⟩, f⟩
  · rw [List.map_append, List.nodup_append]
    refine ⟨hr.nd, by simp, fun a ha b hb e => np (.inr ?_)⟩
    have hb' : b = p := by simpa using hb
    rw [← hb', ← e]
    exact ha
  · obtain ⟨⟨v, e, n⟩, q2⟩ := hr.ap q hq
    have ne := ne_of_none e hp
    exact ⟨⟨v, by rw [upd_ne ne]; exact e, n⟩, fun z => (dom_app.mp z).elim q2 fun z => ne (by simpa [dom] using z)⟩
  · rcases List.mem_append.mp hq with hq | hq
    · have x := hr.at_ q hq
      obtain ⟨v, e, _⟩ := x.there
      have ne := ne_of_none e hp
      have eH : upd H p u q.1 = H q.1 := upd_ne ne
      have kk := keeps_fr (R := R) f
      obtain ⟨a, o'⟩ := q
      have eH : upd H p u a = H a := eH
      cases o' with
      | lst ds => obtain ⟨xs, e, r⟩ := x; exact ⟨xs, eH.trans e, Reps.keep kk _ _ r⟩
      | dic lk tk ks vs =>
        have dk : ∀ {tk ks xs}, DK H a tk ks xs → DK (upd H p u) a tk ks xs := fun {tk ks xs} e => e.sim fun o ho _ => ⟨o, eH.trans ho, Sim.refl o⟩
        cases lk with
        | none => obtain ⟨xs, e, r, n⟩ := x; exact ⟨xs, dk e, Reps.keep kk _ _ r, fun ob u z => n ob u (eH.symm.trans z)⟩
        | some u => obtain ⟨xs, e, r, n, m⟩ := x; exact ⟨xs, dk e, Reps.keep kk _ _ r, eH.trans n, m⟩
      | ins C ns vs => obtain ⟨dx, fs, e, en, r⟩ := x; exact ⟨dx, fs, eH.trans e, en, Reps.keep kk _ _ r⟩
      | dice => obtain ⟨x, y, z, e, r⟩ := x; exact ⟨x, y, z, eH.trans e, r⟩
      | tupN ds => obtain ⟨xs, ob, e, n, r⟩ := x; exact ⟨xs, ob, eH.trans e, n, Reps.keep kk _ _ r⟩
    · have e : q = (p, o) := by simpa using hq
      subst e
      exact ox
end
section
variable {TL : List (Addr × Str)} {X : Cx} {cA : CA} {Wx : WX} {E : XK} {Γ : En} {h : SH} {ε ε' β β' β1 β2 α α' ι γ ρ : Type} {he : ε → SH} {e a b c o tg : Expr} {es : List Expr} {pos p apos : Pos} {d : D} {ds : List D} {x m : Str} {k : Nat} {ps : List Str} {C : Addr} {rest : List Stmt} {oN : β → En × SH → Prop} {oJ : γ → En × SH} {oR : ρ → D × SH → Prop}
theorem en_ev {r : Res ε β} {out : β → D} {ho : β → SH} (q : EV TL X cA Wx e Γ h r out ho he) : EN TL X cA Wx e Γ h r (fun b d h' => d = out b ∧ h' = ho b) he :=
  PEimp q fun σ H Q ⟨R, hE, hH, w⟩ => ⟨R, hE, hH, Res.wp_mono (fun b k v H' a f c => k _ _ ⟨rfl, rfl⟩ v H' a f c) (fun _ _ k => k) w⟩
theorem ean_nil : EAN TL X cA Wx [] Γ h (.ok () : Res ε Unit) (fun _ ds h' => ds = [] ∧ h' = h) he := PAimp pa_nil fun σ H Q ⟨R, hE, hH, w⟩ => w [] h ⟨rfl, rfl⟩ [] H hH (Fr.refl h H) .nil
theorem ean_cons {ra : Res ε β1} {pa : β1 → D → SH → Prop} {rb : β1 → Res ε β2} {pb : β1 → D → SH → β2 → List D → SH → Prop} (pk : β1 → β2 → β) {po : β → List D → SH → Prop}
    (q : EN TL X cA Wx e Γ h ra pa he) (q2 : ∀ x d1 h1, pa x d1 h1 → EAN TL X cA Wx es Γ h1 (rb x) (pb x d1 h1) he) (e1 : ∀ x d1 h1 y ds h2, pa x d1 h1 → pb x d1 h1 y ds h2 → po (pk x y) (d1 :: ds) h2)
    (hs : starEach (e :: es) X.env = (false, eval e X.env) :: starEach es X.env := by rfl) : EAN TL X cA Wx (e :: es) Γ h (ra.bind fun x => (rb x).bind fun y => .ok (pk x y)) po he :=
  PAimp (pa_cons q (PAex fun i : { i : β1 × D × SH // pa i.1 i.2.1 i.2.2 } => q2 i.1.1 i.1.2.1 i.1.2.2 i.2) hs) fun σ H Q ⟨R, hE, hH, w⟩ => by
    refine ⟨R, hE, hH, Res.wp_mono ?_ (fun x e k => k) (Res.wp_bind.mp w)⟩
    intro x w1 d1 h1 p1 v H1 hH1 f1 r1
    refine ⟨⟨(x, d1, h1), p1⟩, R, hE.fr f1, hH1, Res.wp_mono ?_ (fun x e k cls d H' a b c => k cls d H' a (f1.trans b) c) (Res.wp_bind.mp w1)⟩
    intro y w2 ds h2 p2 vs H2 hH2 f2 r2
    have w3 : ∀ d h', po (pk x y) d h' → ∀ v H', HR TL X.K R h' H' → Fr R h h' H H' → Reps X.K (own R h') H' d v → Q v H' := w2
    exact w3 _ _ (e1 x d1 h1 y ds h2 p1 p2) _ H2 hH2 (f1.trans f2) (.cons (r1.fr f2) r2)
/-! ### assignments of what may be new -/
/-! ### methods -/
def IsIns (h : SH) (d : D) (C : Addr) (m : Str) : Prop := (∃ ns vs, d = .obj C ns vs ∧ m ∉ ns) ∨ ∃ a ns vs, d = .ref a ∧ (a, O.ins C ns vs) ∈ h ∧ m ∉ ns
theorem lookup_none {fs : List (Str × V)} {m : Str} (h : m ∉ fs.map (·.1)) : fs.lookup m = none := by
  induction fs with
  | nil => rfl
  | cons y fs ih =>
    obtain ⟨g, y⟩ := y
    simp only [List.map_cons, List.mem_cons, not_or] at h
    have nb : (m == g) = false := by simpa using h.1
    simp only [List.lookup, nb]
    exact ih h.2
theorem IsIns.use {TL : List (Addr × Str)} {K : PySem.W.Frag} {R : Own} {H : Hp} {v : V} (i : IsIns h d C m) (hr : HR TL K R h H) (r : Rep K (own R h) H d v) : ∃ a dx fs, v = .ref a ∧ H a = some (.ins C dx fs) ∧ fs.lookup m = none := by
  rcases i with ⟨ns, vs, rfl, n⟩ | ⟨a, ns, vs, rfl, mem, n⟩
  · simp only [Rep] at r
    obtain ⟨p, dx, fs, e, _, e2, en, _⟩ := r
    exact ⟨p, dx, fs, e, e2, lookup_none (by rw [← en]; exact n)⟩
  · simp only [Rep] at r
    obtain ⟨dx, fs, e2, en, _⟩ := hr.at_ _ mem
    exact ⟨a, dx, fs, r, e2, lookup_none (by rw [← en]; exact n)⟩
section
variable {args : ι → List D} {hin : ι → SH} {rf : ι → Res ε' β'} {of : ι → β' → D} {hf : ι → β' → SH} {hef : ι → ε' → SH}
theorem ev_meth0 {pl : Sem Bool} (M : MF X C m k ps (spM TL X.K cA args hin rf (fun i b S => S = (of i b, hf i b)) hef)) (hr : Room k X.A) (tk : Takes X Wx) {r0 : Res ε β1} {o0 : β1 → D} {h0 : β1 → SH} (po : EV TL X cA Wx o Γ h r0 o0 h0 he) (hi : ∀ z, IsIns (h0 z) (o0 z) C m)
    (ix : β1 → ι) (n : Nat) (is rs : List Nat) (pk : β1 → β' → β) (g : β1 → ε' → ε) {out : β → D} {ho : β → SH} (e5 : ∀ z x, SubP (he (g z x)) (hef (ix z) x ++ rs.map (gD (h0 z))))
    (ei : ∀ z, [o0 z] = args (ix z) := by intros; rfl) (en : ∀ z, (h0 z).length = n := by intros; rfl) (eh : ∀ z, is.map (gD (h0 z)) = hin (ix z) := by intros; rfl)
    (e1 : ∀ z b, out (pk z b) = of (ix z) b := by intros; rfl) (e2 : ∀ z b, (ho (pk z b)).length = n := by intros; rfl) (e3 : ∀ z b, is.map (gD (ho (pk z b))) = hf (ix z) b := by intros; rfl) (e4 : ∀ z b, rs.map (gD (ho (pk z b))) = rs.map (gD (h0 z)) := by intros; rfl)
    (pm : (List.range n).Perm (is ++ rs) := by decide)
    (ht : eval (.Call (.Attribute o m apos) [] [] pos) X.env = (do
      let ov ← eval o X.env
      standAt apos.atName
      let (f, first) ← holding [ov] (getMethod ov m pl)
      callWith pos f first (backTo pos (starEach [] X.env)) (backToKw pos (keywordEach [] X.env))) := by rfl) :
    EV TL X cA Wx (.Call (.Attribute o m apos) [] [] pos) Γ h (r0.bind fun z => ((rf (ix z)).mapE (g z)).bind fun b => .ok (pk z b)) out ho he := by
  obtain ⟨c, f, fd, F, hm, hb⟩ := M
  exact PEimp (pe_methS0 (pl := pl) po c hm F hr hb (fun σ => passAt tk σ) ht) fun σ H Q ⟨R, hE, hH, w⟩ => ⟨R, hE, hH, Res.wp_mono (fun z w1 v H1 h1 f1 r1 => by
    obtain ⟨q, dx, fs, ev, eq, l⟩ := (hi z).use h1 r1
    exact ⟨q, dx, fs, ev, eq, l, call_use pm (en z) (eh z) (pk z) (g z) h1 f1 (by rw [← ei]; exact .cons r1 .nil) (e1 z) (e2 z) (e3 z) (e4 z) (e5 z) w1⟩) (fun _ _ k => k) (Res.wp_bind.mp w)⟩
theorem ev_meth0N {pl : Sem Bool} (M : MF X C m k ps (spM TL X.K cA args hin rf (fun i b S => S = (of i b, hf i b)) hef)) (hr : Room k X.A) (tk : Takes X Wx) {r0 : Res ε β1} {o0 : β1 → D} {h0 : β1 → SH} (po : EV TL X cA Wx o Γ h r0 o0 h0 he) (hi : ∀ z, IsIns (h0 z) (o0 z) C m)
    (ix : β1 → ι) (n : Nat) (is rs : List Nat) (pk : β1 → β' → β) {out : β → D} {ho : β → SH}
    (ei : ∀ z, [o0 z] = args (ix z) := by intros; rfl) (en : ∀ z, (h0 z).length = n := by intros; rfl) (eh : ∀ z, is.map (gD (h0 z)) = hin (ix z) := by intros; rfl)
    (e1 : ∀ z b, out (pk z b) = of (ix z) b := by intros; rfl) (e2 : ∀ z b, (ho (pk z b)).length = n := by intros; rfl) (e3 : ∀ z b, is.map (gD (ho (pk z b))) = hf (ix z) b := by intros; rfl) (e4 : ∀ z b, rs.map (gD (ho (pk z b))) = rs.map (gD (h0 z)) := by intros; rfl)
    (pm : (List.range n).Perm (is ++ rs) := by decide)
    (ht : eval (.Call (.Attribute o m apos) [] [] pos) X.env = (do
      let ov ← eval o X.env
      standAt apos.atName
      let (f, first) ← holding [ov] (getMethod ov m pl)
      callWith pos f first (backTo pos (starEach [] X.env)) (backToKw pos (keywordEach [] X.env))) := by rfl) :
    EV TL X cA Wx (.Call (.Attribute o m apos) [] [] pos) Γ h (r0.bind fun z => ((rf (ix z)).noE).bind fun b => .ok (pk z b)) out ho he := by
  obtain ⟨c, f, fd, F, hm, hb⟩ := M
  exact PEimp (pe_methS0 (pl := pl) po c hm F hr hb (fun σ => passAt tk σ) ht) fun σ H Q ⟨R, hE, hH, w⟩ => ⟨R, hE, hH, Res.wp_mono (fun z w1 v H1 h1 f1 r1 => by
    obtain ⟨q, dx, fs, ev, eq, l⟩ := (hi z).use h1 r1
    exact ⟨q, dx, fs, ev, eq, l, call_useN pm (en z) (eh z) (pk z) h1 f1 (by rw [← ei]; exact .cons r1 .nil) (e1 z) (e2 z) (e3 z) (e4 z) w1⟩) (fun _ _ k => k) (Res.wp_bind.mp w)⟩
end
end
end TH
set_option Elab.async false
set_option linter.all false
set_option maxRecDepth 100000
set_option maxHeartbeats 2000000
/-! TB9: cells written; fields; objects made; exceptions raised; told. -/
namespace TH
open PySem PySem.Spec PyProof.Rows L2
section
variable {TL : List (Addr × Str)} {K : PySem.W.Frag} {R W W' : Own} {h : SH} {H H' : Hp}
theorem dom_set {j : Nat} {a : Addr} {o o' : O} (hj : h[j]? = some (a, o)) : (h.set j (a, o')).map (·.1) = h.map (·.1) := by
  rw [List.map_set]
  apply List.ext_getElem?
  intro i
  by_cases e : j = i
  · subst e
    have hl : j < h.length := (List.getElem?_eq_some_iff.mp hj).1
    rw [List.getElem?_set_self (by simpa using hl), List.getElem?_map, hj] <;> rfl
  · rw [List.getElem?_set_ne e]
theorem own_set {j : Nat} {a : Addr} {o o' : O} (hj : h[j]? = some (a, o)) {p : Addr} : own R (h.set j (a, o')) p ↔ own R h p := by
  unfold own dom
  rw [dom_set hj]
/-- not a table, not of one's own description -/
def plainO : HO → Bool
  | .tbl _ => false
  | .ext _ => false
  | _ => true
theorem tabs_put {a : Addr} {u u' : HO} (t : LamX.Tabs TL H) (ea : H a = some u) (pu : plainO u = true) : LamX.Tabs TL (upd H a u') := fun p hp => by
  obtain ⟨ps, e, tr, k⟩ := t p hp
  have ne : p.1 ≠ a := fun z => by
    rw [z, ea] at e
    cases e
    cases pu
  refine ⟨ps, by rw [upd_ne ne]; exact e, tr, fun pos cv hc => ?_⟩
  obtain ⟨c, e1, e2⟩ := k pos cv hc
  have ne2 : c ≠ a := fun z => by
    rw [z, ea] at e2
    have : u = LamX.CodeO a p.2 := Option.some.inj e2
    rw [this] at pu
    cases pu
  exact ⟨c, e1, by rw [upd_ne ne2]; exact e2⟩
theorem HR.put {j : Nat} {a : Addr} {o o' : O} {u u' : HO} (hr : HR TL K R h H) (hj : h[j]? = some (a, o)) (ea : H a = some u) (pu : plainO u = true) (pu' : plainO u' = true) (ox : ORep K (own R h) (upd H a u') a o') :
    HR TL K R (h.set j (a, o')) (upd H a u') ∧ Fr R h (h.set j (a, o')) H (upd H a u') := by
  have ma : (a, o) ∈ h := List.mem_of_getElem? hj
  have da : dom h a := List.mem_map.mpr ⟨_, ma, rfl⟩
  have f : Fr R h (h.set j (a, o')) H (upd H a u') := fun q v n e nt => by
    have ne : q ≠ a := fun z => n (z ▸ da)
    exact ⟨fun z => n (by unfold dom at z; rw [dom_set hj] at z; exact z), v, by rw [upd_ne ne]; exact e, Sim.refl v, fun _ => rfl⟩
  refine ⟨⟨by rw [dom_set hj]; exact hr.nd, fun q hq => ?_, fun q hq => ?_, tabs_put hr.tb ea pu⟩, f⟩
  · obtain ⟨⟨v, e, n⟩, q2⟩ := hr.ap q hq
    have ne : q ≠ a := fun z => q2 (z ▸ da)
    exact ⟨⟨v, by rw [upd_ne ne]; exact e, n⟩, fun z => q2 (by unfold dom at z; rw [dom_set hj] at z; exact z)⟩
  · obtain ⟨i, hi⟩ := List.getElem?_of_mem hq
    by_cases e : j = i
    · subst e
      have hl : j < h.length := (List.getElem?_eq_some_iff.mp hj).1
      rw [List.getElem?_set_self hl] at hi
      cases hi
      exact ox.imp fun p n z => n ((own_set hj).mp z)
    · rw [List.getElem?_set_ne e] at hi
      have x := hr.at_ q (List.mem_of_getElem? hi)
      have ne : q.1 ≠ a := fun z => by
        have nd := hr.nd
        have h1 : (h.map (·.1))[i]? = some q.1 := by rw [List.getElem?_map, hi] <;> rfl
        have h2 : (h.map (·.1))[j]? = some q.1 := by rw [List.getElem?_map, hj, z] <;> rfl
        obtain ⟨l1, g1⟩ := List.getElem?_eq_some_iff.mp h1
        obtain ⟨l2, g2⟩ := List.getElem?_eq_some_iff.mp h2
        exact e ((List.getElem_inj nd).mp (g2.trans g1.symm))
      have eH : upd H a u' q.1 = H q.1 := upd_ne ne
      have kk := keeps_fr (R := R) f
      obtain ⟨b, ob⟩ := q
      have eH : upd H a u' b = H b := eH
      cases ob with
      | lst ds => obtain ⟨xs, e, r⟩ := x; exact ⟨xs, eH.trans e, Reps.keep kk _ _ r⟩
      | dic lk tk ks vs =>
        have dk : ∀ {tk ks xs}, DK H b tk ks xs → DK (upd H a u') b tk ks xs := fun {tk ks xs} e => e.sim fun o ho _ => ⟨o, eH.trans ho, Sim.refl o⟩
        cases lk with
        | none => obtain ⟨xs, e, r, n⟩ := x; exact ⟨xs, dk e, Reps.keep kk _ _ r, fun ob u z => n ob u (eH.symm.trans z)⟩
        | some u => obtain ⟨xs, e, r, n, m⟩ := x; exact ⟨xs, dk e, Reps.keep kk _ _ r, eH.trans n, m⟩
      | ins C ns vs => obtain ⟨dx, fs, e, en, r⟩ := x; exact ⟨dx, fs, eH.trans e, en, Reps.keep kk _ _ r⟩
      | dice => obtain ⟨x, y, z, e, r⟩ := x; exact ⟨x, y, z, eH.trans e, r⟩
      | tupN ds => obtain ⟨xs, ob, e, n, r⟩ := x; exact ⟨xs, ob, eH.trans e, n, Reps.keep kk _ _ r⟩
/-- what a cell holds, seen from behind its own change -/
theorem Reps.put {a : Addr} {u' : HO} {ds : List D} {xs : List V} (r : Reps K (own R h) H ds xs) (da : dom h a) : Reps K (own R h) (upd H a u') ds xs :=
  Reps.keep (fun q v n e nt => ⟨n, v, by rw [upd_ne (fun z => n (.inr (by rw [z]; exact da)))]; exact e, Sim.refl v⟩) _ _ r
theorem Rep.put {a : Addr} {u' : HO} {d : D} {x : V} (r : Rep K (own R h) H d x) (da : dom h a) : Rep K (own R h) (upd H a u') d x :=
  Rep.keep (fun q v n e nt => ⟨n, v, by rw [upd_ne (fun z => n (.inr (by rw [z]; exact da)))]; exact e, Sim.refl v⟩) _ _ r
theorem dom_of {j : Nat} {a : Addr} {o : O} (hj : h[j]? = some (a, o)) : dom h a := List.mem_map.mpr ⟨_, List.mem_of_getElem? hj, rfl⟩
/-- a field put -/
def PutN (f : Str) (d : D) (ns : List Str) (vs : List D) (ns' : List Str) (vs' : List D) : Prop := (∃ i, ns[i]? = some f ∧ ns.Nodup ∧ ns' = ns ∧ vs' = vs.set i d) ∨ (f ∉ ns ∧ ns' = ns ++ [f] ∧ vs' = vs ++ [d])
theorem PutN.new {f : Str} {d : D} {ns ns' : List Str} {vs vs' : List D} (hf : f ∉ ns) (e1 : ns' = ns ++ [f] := by rfl) (e2 : vs' = vs ++ [d] := by rfl) : PutN f d ns vs ns' vs' := .inr ⟨hf, e1, e2⟩
theorem putF_new {f : Str} {y : V} : ∀ {fs : List (Str × V)}, f ∉ fs.map (·.1) → putF f y fs = fs ++ [(f, y)]
  | [], _ => rfl
  | (g, x) :: r, h => by
    simp only [List.map_cons, List.mem_cons, not_or] at h
    show (if g = f then (g, y) :: r else (g, x) :: putF f y r) = _
    rw [if_neg (Ne.symm h.1), putF_new h.2] <;> rfl
theorem putF_old {f : Str} {y : V} : ∀ {fs : List (Str × V)} {i : Nat}, (fs.map (·.1)).Nodup → (fs.map (·.1))[i]? = some f → putF f y fs = fs.set i (f, y)
  | [], i, _, h => by simp at h
  | (g, x) :: r, 0, _, h => by
    have e : g = f := by simpa using h
    show (if g = f then (g, y) :: r else (g, x) :: putF f y r) = (f, y) :: r
    rw [if_pos e, e]
  | (g, x) :: r, i + 1, nd, h => by
    simp only [List.map_cons, List.nodup_cons] at nd
    have h' : (r.map (·.1))[i]? = some f := by simpa using h
    have ne : g ≠ f := fun z => nd.1 (z ▸ List.mem_of_getElem? h')
    show (if g = f then (g, y) :: r else (g, x) :: putF f y r) = (g, x) :: r.set i (f, y)
    rw [if_neg ne, putF_old nd.2 h']
theorem Reps.set : ∀ {ds : List D} {xs : List V} {i : Nat} {d : D} {x : V}, Reps K W H ds xs → Rep K W H d x → Reps K W H (ds.set i d) (xs.set i x)
  | [], _, _, _, _, r, _ => by simp only [Reps] at r; subst r; simp [Reps]
  | a :: ds, _, 0, d, x, r, q => by
    simp only [Reps] at r
    obtain ⟨y, t, rfl, r1, r2⟩ := r
    exact .cons q r2
  | a :: ds, _, i + 1, d, x, r, q => by
    simp only [Reps] at r
    obtain ⟨y, t, rfl, r1, r2⟩ := r
    exact .cons r1 (Reps.set r2 q)
theorem PutN.rep {f : Str} {d : D} {ns ns' : List Str} {vs vs' : List D} {fs : List (Str × V)} {y : V} (p : PutN f d ns vs ns' vs') (en : ns = fs.map (·.1)) (r : Reps K W H vs (fs.map (·.2))) (q : Rep K W H d y) : ns' = (putF f y fs).map (·.1) ∧ Reps K W H vs' ((putF f y fs).map (·.2)) := by
  rcases p with ⟨i, hf, nd, rfl, rfl⟩ | ⟨hf, rfl, rfl⟩
  · subst en
    rw [putF_old nd hf]
    refine ⟨?_, by rw [List.map_set]; exact r.set q⟩
    rw [List.map_set]
    apply List.ext_getElem?
    intro k
    by_cases e : i = k
    · subst e
      have hl : i < (fs.map (·.1)).length := (List.getElem?_eq_some_iff.mp hf).1
      rw [List.getElem?_set_self hl, hf]
    · rw [List.getElem?_set_ne e]
  · subst en
    rw [putF_new hf, List.map_append, List.map_append]
    exact ⟨rfl, r.app (.cons q .nil)⟩
end
section
variable {TL : List (Addr × Str)} {X : Cx} {cA : CA} {Wx : WX} {E : XK} {Γ : En} {h : SH} {ε ε' β β' β1 β2 α α' ι γ ρ : Type} {he : ε → SH} {e a b c o tg : Expr} {es : List Expr} {pos p apos : Pos} {d : D} {ds : List D} {x m f : Str} {k : Nat} {ps : List Str} {C : Addr} {rest : List Stmt} {oN : β → En × SH → Prop} {oJ : γ → En × SH} {oR : ρ → D × SH → Prop}
/-! ### o.f = value -/
theorem ss_fld {p' : Pos} {q : Addr} {re : Res ε α} {out : α → D} {ho : α → SH} {kk : α → Res ε (Fl β γ ρ)} {ns ns' : List Str} {vs vs' : α → List D} {h2 : α → SH} (j : Nat) (pv : EV TL X cA (WK E) e Γ h re out ho he) (pt : ∀ x, EP TL X o Γ (ho x) (.ref q)) (put : ∀ x, PutN f (out x) ns (vs x) ns' (vs' x))
    (pr : ∀ x, SS TL X cA E rest Γ (h2 x) (kk x) oN oJ oR he) (c : Cls X.K C) (na : NoAttr X.K C f) (hj : ∀ x, (ho x)[j]? = some (q, .ins C ns (vs x)) := by intros; rfl) (e2 : ∀ x, h2 x = (ho x).set j (q, .ins C ns' (vs' x)) := by intros; rfl) (hl : Nat.ble ns.length 900 = true := by rfl)
    (hs : swapsWith e (some (.Attribute o f p')) pos.line X.env = pure false := by rfl) : SS TL X cA E (.Assign [.Attribute o f p'] e pos :: rest) Γ h (re.bind kk) oN oJ oR he :=
  PSsimp (pss_cons (ps_fld (PEex pt) pv hs) (PSsex pr)) fun Dn σ H ⟨R, hE, hH, w⟩ => ⟨R, hE, hH, Res.wp_mono (fun x k' v H1 h1 f1 r1 => ⟨x, R, hE.fr f1, h1, fun u H2 h2' f2 r2 => by
    simp only [Rep] at r2
    obtain ⟨dx, fs, e1, en, r3⟩ := h2'.at_ _ (List.mem_of_getElem? (hj x))
    have e1 : H2 q = some (.ins C dx fs) := e1
    have da := dom_of (hj x)
    obtain ⟨g1, g2⟩ := (put x).rep en (r3.put (u' := .ins C dx (putF f v fs)) da) ((r1.fr f2).put (u' := .ins C dx (putF f v fs)) da)
    obtain ⟨hr3, f3⟩ := h2'.put (hj x) e1 rfl rfl (o' := .ins C ns' (vs' x)) ⟨dx, _, upd_same, g1, g2⟩
    have lf : fs.length < 1000 := by
      have := congrArg List.length en
      rw [List.length_map] at this
      have := Nat.le_of_ble_eq_true hl
      omega
    refine ⟨q, C, dx, fs, r2, e1, c, na, lf, x, ?_⟩
    rw [← e2] at hr3 f3
    exact tS_step ((hE.fr (f1.trans f2)).fr f3) hr3 ((f1.trans f2).trans f3) k'⟩) (fun _ _ k => k) (Res.wp_bind.mp w)⟩
/-- .. where the value is a new cell -/
theorem ss_fldN {p' : Pos} {q : Addr} {re : Res ε α} {oo : α → O} {ho : α → SH} {kk : α → Res ε (Fl β γ ρ)} {ns ns' : List Str} {vs : α → List D} {vs' : α → Addr → List D} {h2 : α → Addr → SH} (j : Nat) (pv : EN TL X cA (WK E) e Γ h re (NC oo ho) he) (pt : ∀ x n, EP TL X o Γ (ho x ++ [(n, oo x)]) (.ref q)) (put : ∀ x n, PutN f (.ref n) ns (vs x) ns' (vs' x n))
    (pr : ∀ x n, SS TL X cA E rest Γ (h2 x n) (kk x) oN oJ oR he) (c : Cls X.K C) (na : NoAttr X.K C f) (hj : ∀ x n, (ho x ++ [(n, oo x)])[j]? = some (q, .ins C ns (vs x)) := by intros; rfl) (e2 : ∀ x n, h2 x n = (ho x ++ [(n, oo x)]).set j (q, .ins C ns' (vs' x n)) := by intros; rfl) (hl : Nat.ble ns.length 900 = true := by rfl)
    (hs : swapsWith e (some (.Attribute o f p')) pos.line X.env = pure false := by rfl) : SS TL X cA E (.Assign [.Attribute o f p'] e pos :: rest) Γ h (re.bind kk) oN oJ oR he :=
  PSsimp (pss_cons (ps_fld (PEex fun i : α × Addr => pt i.1 i.2) pv hs) (PSsex fun i : α × Addr => pr i.1 i.2)) fun Dn σ H ⟨R, hE, hH, w⟩ => ⟨R, hE, hH, Res.wp_mono (fun x k' d h' ⟨n, ed, eh⟩ v H1 h1 f1 r1 => by
    subst ed eh
    refine ⟨(x, n), R, hE.fr f1, h1, fun u H2 h2' f2 r2 => ?_⟩
    simp only [Rep] at r2
    obtain ⟨dx, fs, e1, en, r3⟩ := h2'.at_ _ (List.mem_of_getElem? (hj x n))
    have e1 : H2 q = some (.ins C dx fs) := e1
    have da := dom_of (hj x n)
    obtain ⟨g1, g2⟩ := (put x n).rep en (r3.put (u' := .ins C dx (putF f v fs)) da) ((r1.fr f2).put (u' := .ins C dx (putF f v fs)) da)
    obtain ⟨hr3, f3⟩ := h2'.put (hj x n) e1 rfl rfl (o' := .ins C ns' (vs' x n)) ⟨dx, _, upd_same, g1, g2⟩
    have lf : fs.length < 1000 := by
      have := congrArg List.length en
      rw [List.length_map] at this
      have := Nat.le_of_ble_eq_true hl
      omega
    refine ⟨q, C, dx, fs, r2, e1, c, na, lf, (x, n), ?_⟩
    rw [← e2] at hr3 f3
    exact tS_step ((hE.fr (f1.trans f2)).fr f3) hr3 ((f1.trans f2).trans f3) k') (fun _ _ k => k) (Res.wp_bind.mp w)⟩
/-! ### raise -/
/-- what must be known of an exception's class -/
structure ExOk (X : Cx) (x : Str) (C : Addr) : Prop where
  q : PySem.W.excIn X.K C He.veBase "ValueError.__new__" = true
  g : X.mg x = some (.ref C)
  k : PySem.W.keepIn X.K (.ref C) = true
  r : Raises X (.ref C)
def Ex.noRow : Ex → Bool
  | .text _ => false
  | _ => true
theorem XR.of {xx : Ex} {cls : Value} {dd : Option Addr} {H : Hp} (h : xx.noRow = true) (hc : cls = .ref (cA xx)) (hd : dd = none) : XR cA xx cls dd H := by
  refine ⟨hc, ?_⟩
  cases xx <;> first | exact hd | cases h
theorem s1_raise {xx : Ex} {e0 : ε} {ds : List D} (hc : X.calm = true) (tk : Takes X (WK E)) (O : ExOk X x (cA xx)) (pa : EAP TL X (e :: es) Γ h ds) (hg : Gl X x) (hn : xx.noRow = true := by rfl) (hl : Nat.ble ds.length 1000 = true := by rfl) (hs : List.Sublist (he e0) h := by exact List.Sublist.refl _) (hdb : (x == ("__debug__" : Str)) = false := by decide)
    (hst : starEach (e :: es) X.env = (false, eval e X.env) :: starEach es X.env := by rfl) (hpl : (backTo apos (starEach es X.env)).any (·.1) = false := by rfl) :
    S1 TL X cA E (.Raise (some (.Call (.Name x p) (e :: es) [] apos)) none pos) Γ h (.err xx e0 : Res ε (Fl β γ ρ)) oN oJ oR he :=
  PSimp (ps_raise hc tk (pmk_ownA PySem.F.excBase_ValueError O.q O.g O.k O.r hg pa hdb hst hpl)) fun Dn σ H ⟨R, hE, hH, w⟩ =>
    ⟨R, hE, hH, fun vs H1 h1 f1 r1 => ⟨by rw [← r1.length]; exact smol hl, w _ _ H1 (h1.drop hs) (f1.trans (Fr.drop hs)) (XR.of hn rfl rfl)⟩⟩
/-! ### objects made -/
theorem CF.noE {args : ι → List D} {hin : ι → SH} {rf : ι → Res ε' β'} {po : ι → β' → D × SH → Prop} {hef : ι → ε' → SH} (G : CF X x C k ps (spM TL X.K cA args hin rf po hef)) : CF X x C k ps (spM TL X.K cA args hin (fun i => (rf i).noE (ε' := Empty)) po fun _ e => e.elim) := by
  obtain ⟨g, f, fd, F, M, b⟩ := G
  refine ⟨g, f, fd, ⟨fun vs H Q E ⟨i, R, a, b, c⟩ => F.len vs H Q (fun _ _ _ => False) ⟨i, R, a, b, Res.wp_mono (fun _ k => k) (fun _ _ k => k.elim) (Res.wp_noE.mp c)⟩, fun A outer s H as us vs Q E h1 h2 h3 h4 ⟨i, R, a, b, c⟩ => F.run A outer s H as us vs Q E h1 h2 h3 h4 ⟨i, R, a, b, Res.wp_mono (fun _ k => k) (fun _ _ k => k.elim) (Res.wp_noE.mp c)⟩⟩, M, b⟩
section
variable {args : ι → List D} {hin : ι → SH} {rf : ι → Res ε' β'} {po : ι → β' → D × SH → Prop} {hef : ι → ε' → SH}
/-- C(e, ..): new cells at the end -/
theorem mk_use {h1 : SH} {R : Own} {H0 H1 : Hp} {vs : List V} {ds : List D} {Q : VK} {r1 : Res ε' β'} {pk : β' → β} {g : ε' → ε} {po' : β → D → SH → Prop} (ix : Addr → ι) (hr : HR TL X.K R h1 H1) (f1 : Fr R h h1 H0 H1) (ra : Reps X.K (own R h1) H1 ds vs) (ei : ∀ n, .ref n :: ds = args (ix n)) (eh : ∀ n, hin (ix n) = [(n, .ins C [] [])]) (er : ∀ n, rf (ix n) = r1)
    (e1 : ∀ n b S, po (ix n) b S → S.1 = .non ∧ po' (pk b) (.ref n) (h1 ++ S.2)) (e5 : ∀ n x, hef (ix n) x = []) (e6 : ∀ x, List.Sublist (he (g x)) h1)
    (w : ((r1.mapE g).bind fun b => .ok (pk b) : Res ε β).wp (fun b => ∀ d h', po' b d h' → ∀ v H', HR TL X.K R h' H' → Fr R h h' H0 H' → Rep X.K (own R h') H' d v → Q v H')
      (fun x e => ∀ cls d H', HR TL X.K R (he e) H' → Fr R h (he e) H0 H' → XR cA x cls d H' → E cls d H'))
    {y dx : Addr} (ny : H1 y = none) (nd : H1 dx = none) (ne : dx ≠ y) : spM TL X.K cA args hin rf po hef (.ref y :: vs) (upd (upd H1 dx (.own y)) y (.ins C dx [])) (fun v H2 => v = .non ∧ Q (.ref y) H2) E := by
  have k1 : ∀ b u, H1 b = some u → upd H1 dx (.own y) b = some u := upd_keep nd
  have ny' : upd H1 dx (.own y) y = none := by rw [upd_ne (Ne.symm ne)]; exact ny
  have hr1 := hr.fr0 k1
  obtain ⟨hr2, f2⟩ := hr1.new ny' (u := .ins C dx []) (o := .ins C [] []) ⟨dx, [], upd_same, rfl, by simp [Reps]⟩ (fun ps z => by cases z)
  have pp : (h1 ++ [(y, O.ins C [] [])]).Perm ([(y, O.ins C [] [])] ++ h1) := List.perm_append_comm
  have hr3 := hr2.perm pp
  have f12 : Fr R h (h1 ++ [(y, O.ins C [] [])]) H0 (upd (upd H1 dx (.own y)) y (.ins C dx [])) := (f1.trans (Fr.ext k1)).trans f2
  refine ⟨ix y, Rw R h1, by rw [eh]; exact hr3.split, ?_, ?_⟩
  · rw [← ei, eh]
    refine .cons (by simp [Rep]) (Reps.keep (fun q o n e nt => ⟨fun z => n ?_, o, upd_keep ny' q o (k1 q o e), Sim.refl o⟩) _ _ ra)
    rcases own_split.mp z with z | z
    · exact .inl z
    · rcases dom_app.mp z with z | z
      · have e2 : q = y := by simpa [dom] using z
        rw [e2, ny] at e
        cases e
      · exact .inr z
  · rw [er]
    refine Res.wp_mono (fun b k S hS v H' a f c => ?_) (fun x e k cls d H' a f c => ?_) (Res.wp_mapE.mp (Res.wp_bind.mp w))
    · obtain ⟨q1, q2⟩ := e1 y b S hS
      rw [q1] at c
      have ev : v = .non := by simpa only [Rep] using c
      rw [eh] at f
      obtain ⟨j1, j2⟩ := hr3.join a f
      have pp2 : (S.2 ++ h1).Perm (h1 ++ S.2) := List.perm_append_comm
      have k : ∀ d h', po' (pk b) d h' → ∀ v H', HR TL X.K R h' H' → Fr R h h' H0 H' → Rep X.K (own R h') H' d v → Q v H' := k
      exact ⟨ev, k _ _ q2 _ H' (j1.perm pp2) (f12.trans (Fr.perm pp.symm pp2 j2)) (by simp [Rep])⟩
    · rw [e5] at a f
      rw [eh] at f
      obtain ⟨j1, j2⟩ := hr3.join a f
      have j2' : Fr R (h1 ++ [(y, O.ins C [] [])]) h1 (upd (upd H1 dx (.own y)) y (.ins C dx [])) H' := Fr.perm pp.symm (List.Perm.refl _) j2
      exact k cls d H' (HR.drop (h := h1) (e6 e) j1) ((f12.trans j2').trans (Fr.drop (e6 e))) c
theorem en_mk (G : CF X x C k ps (spM TL X.K cA args hin rf po hef)) (hr : Room (k + 1) X.A) (hg : Gl X x) (tk : Takes X Wx) {ra : Res ε α} {oa : α → List D} {ha : α → SH} (pa : EA TL X cA Wx (e :: es) Γ h ra oa ha he) (ix : Addr → α → ι) {r1 : α → Res ε' β'} (pk : α → β' → β) (g : α → ε' → ε) {po' : β → D → SH → Prop}
    (e1 : ∀ y n b S, po (ix n y) b S → S.1 = .non ∧ po' (pk y b) (.ref n) (ha y ++ S.2)) (ei : ∀ n y, .ref n :: oa y = args (ix n y) := by intros; rfl) (eh : ∀ n y, hin (ix n y) = [(n, .ins C [] [])] := by intros; rfl) (er : ∀ n y, rf (ix n y) = r1 y := by intros; rfl)
    (e5 : ∀ y n x, hef (ix n y) x = [] := by intros; rfl) (e6 : ∀ y x, List.Sublist (he (g y x)) (ha y) := by intros; exact List.Sublist.refl _) (hdb : (x == ("__debug__" : Str)) = false := by decide) (hst : starEach (e :: es) X.env = (false, eval e X.env) :: starEach es X.env := by rfl) (hpl : (backTo pos (starEach es X.env)).any (·.1) = false := by rfl) :
    EN TL X cA Wx (.Call (.Name x p) (e :: es) [] pos) Γ h (ra.bind fun y => ((r1 y).mapE (g y)).bind fun b => .ok (pk y b)) po' he := by
  obtain ⟨hm, f, fd, F, M, hb⟩ := G
  exact PEimp (pe_makeS M F hr hg hm hb (fun σ => passAt tk σ) pa hdb hst hpl) fun σ H Q ⟨R, hE, hH, w⟩ => ⟨R, hE, hH, Res.wp_mono (fun y k vs H1 h1 f1 r1 z dx nz nd ne =>
    mk_use (fun n => ix n y) h1 f1 r1 (fun n => ei n y) (fun n => eh n y) (fun n => er n y) (fun n b S => e1 y n b S) (fun n x => e5 y n x) (e6 y) k nz nd ne) (fun _ _ k => k) (Res.wp_bind.mp w)⟩
theorem en_mk0 (G : CF X x C k ps (spM TL X.K cA args hin rf po hef)) (hr : Room (k + 1) X.A) (hg : Gl X x) (tk : Takes X Wx) (ix : Addr → ι) {r1 : Res ε' β'} (pk : β' → β) (g : ε' → ε) {po' : β → D → SH → Prop}
    (e1 : ∀ n b S, po (ix n) b S → S.1 = .non ∧ po' (pk b) (.ref n) (h ++ S.2)) (ei : ∀ n, [.ref n] = args (ix n) := by intros; rfl) (eh : ∀ n, hin (ix n) = [(n, .ins C [] [])] := by intros; rfl) (er : ∀ n, rf (ix n) = r1 := by intros; rfl)
    (e5 : ∀ n x, hef (ix n) x = [] := by intros; rfl) (e6 : ∀ x, List.Sublist (he (g x)) h := by intros; exact List.Sublist.refl _) (hdb : (x == ("__debug__" : Str)) = false := by decide) :
    EN TL X cA Wx (.Call (.Name x p) [] [] pos) Γ h ((r1.mapE g).bind fun b => .ok (pk b)) po' he := by
  obtain ⟨hm, f, fd, F, M, hb⟩ := G
  exact PEimp (pe_makeS0 M F hr hg hm hb (fun σ => passAt tk σ) hdb) fun σ H Q ⟨R, hE, hH, w⟩ => fun z dx nz nd ne =>
    mk_use ix hH (Fr.refl h H) .nil ei eh er e1 e5 e6 w nz nd ne
end
end
end TH
set_option Elab.async false
set_option linter.all false
set_option maxRecDepth 100000
set_option maxHeartbeats 2000000
/-! TB10: generator expressions handed to any, all, sum: the element of any form. -/
namespace TH
open PySem PySem.Spec PyProof.Rows L2 GenW
/-- the names of a generator expression: its own (their places in N), captured ones -/
structure GxOk (N : List Str) (sc scope : Scope) (own : List (Str × Nat)) : Prop where
  kind : scope.kind = .function
  co : scope.isCoroutine = false
  ix : ∀ p ∈ own, N[p.2]? = some p.1
  free : ∀ y ∈ scope.names, y.2 = .free → sc.names.lookup y.1 = some .cell ∨ sc.names.lookup y.1 = some .free
  own : ∀ y ∈ scope.names, y.2 = .local → y.1 ∈ own.map (·.1) ∨ y.1 ∉ N
  cell : ∀ y ∈ scope.names, y.2 ≠ .cell
  dot : scope.names.lookup (".0" : Str) = some NameKind.local
def gxB (N : List Str) (sc scope : Scope) (own : List (Str × Nat)) : Bool :=
  decide (scope.kind = .function) && !scope.isCoroutine && (own.all fun p => decide (N[p.2]? = some p.1)) && (scope.names.all fun y => (!decide (y.2 = .free) || decide (sc.names.lookup y.1 = some .cell) || decide (sc.names.lookup y.1 = some .free)) && (!decide (y.2 = .local) || decide (y.1 ∈ own.map (·.1)) || decide (y.1 ∉ N)) && !decide (y.2 = .cell)) && decide (scope.names.lookup (".0" : Str) = some NameKind.local)
theorem gx_by {N : List Str} {sc scope : Scope} {own : List (Str × Nat)} (h : gxB N sc scope own = true) : GxOk N sc scope own := by
  unfold gxB at h
  simp only [Bool.and_eq_true, Bool.or_eq_true, Bool.not_eq_true', decide_eq_true_eq, decide_eq_false_iff_not, List.all_eq_true] at h
  obtain ⟨⟨⟨⟨h1, h2⟩, h3⟩, h4⟩, h5⟩ := h
  refine ⟨h1, h2, h3, fun y hy e => ?_, fun y hy e => ?_, fun y hy => (h4 y hy).2, h5⟩
  · rcases (h4 y hy).1.1 with (z | z) | z
    · exact absurd e z
    · exact .inl z
    · exact .inr z
  · rcases (h4 y hy).1.2 with (z | z) | z
    · exact absurd e z
    · exact .inl z
    · exact .inr z
/-- the context of the element, run at A; s: the state ahead of the generator's frame -/
def gxCx (X : Cx) (A : Around) (s : Shared) (H : Hp) (env : Env) (fp : List Addr) : Cx where
  prog := X.prog
  w := X.w
  K := X.K
  mg := X.mg
  base := X.base
  A := A.deeper env
  N := X.N
  s_0 := s
  H_0 := H
  env := env
  outer := X.stack
  stack := env :: X.stack
  ex := fp
  fn := fun _ => false
  calm := true
  pn := []
  xe := fun _ _ => False
abbrev gxEnv (X : Cx) (scope : Scope) (C : Addr) (code : Value) : Env := genEnv scope (cloFrom X.env.cells scope.names []) C code builtinsNs X.env
section
variable {X : Cx} {pins : List (Addr × Obj)} {σ : L2.St} {H : Hp} {s : Shared}
theorem gx_start {A : Around} {scope : Scope} {own : List (Str × Nat)} {fp : List Addr} {code : Value} {h1 : Heap} {G : Array GenState} {tk : Nat} {m0 : Str → Option Value} (I : Inv X pins σ H s) (ok : GxOk X.N X.env.scope scope own) (hN : X.N.Nodup) (hfp : ∀ b ∈ fp, FpOk X pins H b ∧ b < s.heap.objs.size) (hd : A.handled = none) (hfr : A.frames = some X.stack)
    (hns : h1.Ns s.heap.objs.size m0) (kp : ∀ b o, s.heap.get? b = some o → h1.get? b = some o) (hg : AllBare G) :
    Inv (gxCx X A s H (gxEnv X scope s.heap.objs.size code) fp) [] (wipe σ (own.map (·.2))) H { s with heap := h1, gens := G, toks := tk } := by
  have hfree : ∀ y ∈ scope.names, y.2 = .free → ∃ c, X.env.cells.lookup y.1 = some c := fun y hy e => by
    rcases ok.free y hy e with k | k
    · exact I.ok.has _ (.inl k)
    · exact I.ok.has _ (.inr k)
  have cm : ∀ {y c}, (cloFrom X.env.cells scope.names []).lookup y = some c → X.env.cells.lookup y = some c ∧ c < s.heap.objs.size := fun {y c} e => by
    rcases cloFrom_mem (PySem.mem_of_lookup e) with hm | ⟨h1, h2⟩
    · cases hm
    · obtain ⟨c1, hc⟩ := hfree _ h1 rfl
      have hc : X.env.cells.lookup y = some c1 := hc
      have e2 : c = c1 := by
        rw [h2, hc] <;> rfl
      obtain ⟨w, z⟩ := I.cell _ _ hc
      rw [e2]
      exact ⟨hc, z.lt⟩
  have look : ∀ {y}, scope.names.lookup y = some .free → ∃ c, (cloFrom X.env.cells scope.names []).lookup y = some c := fun {y} hl => by
    have hy : (y, NameKind.free) ∈ scope.names := PySem.mem_of_lookup hl
    exact mem_lookup (cloFrom_has (cells := X.env.cells) (acc := []) hy)
  have eL : (gxEnv X scope s.heap.objs.size code).locals = s.heap.objs.size := rfl
  have eC : (gxEnv X scope s.heap.objs.size code).cells = cloFrom X.env.cells scope.names [] := rfl
  have eS : (gxEnv X scope s.heap.objs.size code).scope = scope := rfl
  refine ⟨⟨I.ok.mod, ok.kind, I.ok.glob, rfl, Nat.le_refl _, fun y z c e1 e2 => I.ok.inj y z c (cm e1).1 (cm e2).1, fun y hy => ?_, fun y c z _ => ?_, fun _ => hd, Around.frames_deeper hfr, .inr ⟨rfl, rfl⟩, fun b hb => ⟨?_, fun y c e z => ?_⟩, I.bs, Nat.le_trans I.ok.bsz I.sz, fun b o e hb => ?_, fun b hb z => ?_, I.stack, I.stkFree⟩,
    rfl, hg, Un.kept kp, ⟨m0, hns, fun i y av e1 e2 e3 => ?_⟩, fun y c e => ?_, ?_, fun y c e => ?_, fun p hp => absurd (show p ∈ ([] : List (Addr × Obj)) ++ [] from hp) (by simp), I.hok.kept kp, by rw [wipe_length]; exact I.len⟩
  · have hy : scope.names.lookup y = some .cell ∨ scope.names.lookup y = some .free := hy
    rcases hy with hy | hy
    · exact absurd rfl (ok.cell _ (PySem.mem_of_lookup hy))
    · exact look hy
  · have z : false = true := z
    cases z
  · exact Nat.ne_of_lt (hfp b hb).2
  · exact (hfp b hb).1.2.2.2.2.1 y c (cm e).1 z
  · rcases (hfp b hb).1.2.2.2.1 with z | z
    · exact I.ok.noex b o e z
    · exact absurd (Nat.lt_of_lt_of_le (Heap.lt_size e) (Nat.le_trans I.ok.bsz z)) (Nat.lt_irrefl _)
  · rcases List.mem_cons.mp (I.stkSub b z) with z | z
    · exact (hfp b hb).1.2.1 z
    · exact (hfp b hb).1.2.2.1 z
  · obtain ⟨e2, hne⟩ := wipe_some e2
    have e3 : Vis scope y := e3
    have hfr : scope.names.lookup y = some .free := by
      rcases e3 with e3 | e3 | e3
      · rcases ok.own _ (PySem.mem_of_lookup e3) rfl with e' | e'
        · obtain ⟨p, hp, hpy⟩ := List.mem_map.mp e'
          have e4 := ok.ix p hp
          have : p.1 = y := hpy
          rw [this] at e4
          exact absurd (List.mem_map.mpr ⟨p, hp, nodup_ix hN e4 e1⟩) hne
        · exact absurd (List.mem_of_getElem? e1) e'
      · exact absurd rfl (ok.cell _ (PySem.mem_of_lookup e3))
      · exact e3
    obtain ⟨m, hn, hl⟩ := I.loc
    have hvis : Vis X.env.scope y := (ok.free _ (PySem.mem_of_lookup hfr) rfl).elim (fun k => .inr (.inl k)) (fun k => .inr (.inr k))
    obtain ⟨w, r, q⟩ := hl i y av e1 e2 hvis
    obtain ⟨c, h1⟩ := look hfr
    have h2 := (cm h1).1
    refine ⟨w, r, .inr ⟨.inr hfr, c, h1, ?_⟩⟩
    rcases q with ⟨k, _⟩ | ⟨_, c', e', z⟩
    · have k : X.env.scope.names.lookup y = some .local := k
      rcases ok.free _ (PySem.mem_of_lookup hfr) rfl with k' | k' <;> rw [show X.env.scope.names.lookup y = _ from k'] at k <;> cases k
    · rw [h2] at e'; cases e'
      exact z.keeps kp
  · obtain ⟨w, z⟩ := I.cell y c (cm e).1
    exact ⟨w, z.keeps kp⟩
  · exact I.hok.fresh (Nat.le_refl _)
  · exact I.freeC y c (cm e).1
end
/-! ### the around of a generator expression's code -/
theorem over_gx {A : Around} {elt : Expr} {gs : List Comprehension} {scope : Scope} {pos : Pos} {it : Value} {env : Env} : A.over (.compLoop (.GeneratorExp elt gs scope pos) 0 it .none env) [] = A.deeper env := by
  first
    | rfl
    | (obtain ⟨hd, d, fr, gs, u⟩ := A; simp [Around.over, Around.deeper, marksOver, frameCount, unitsOf, envsOf, guardsOf, pushEnvs, pushGuards, Code.envs, Code.env?, Code.isFrame, Code.guards, Code.isGuard, Code.weight, Code.frames, Code.isCreation, Code.isCaller, Code.cUnits])
/-! ### the protocol -/
section
variable (X : Cx) (A : Around) (s4 : Shared) (H4 : Hp) (env : Env) (fp : List Addr) (tn : Nat → Heap → Prop) (a S : Addr) (go : Obj) {γ : Type} (Rc : γ → Obj → Prop) (W : γ → Nat → Nat → Hp → Prop) (Nx : γ → Nat → Nat → V → Hp → Prop) (Fi : γ → Hp → Prop) (σ0 : L2.St)
abbrev gpin (a S : Addr) (go so : Obj) : List (Addr × Obj) := [(a, go), (S, so)]
/-- at turn i, m turns at most are left, c: what the consumer holds -/
def GxI (c : γ) (i m : Nat) (H : Hp) (s : Shared) : Prop := ∃ so, Rc c so ∧ Inv (gxCx X A s4 H4 env fp) (gpin a S go so) σ0 H s ∧ tn i s.heap ∧ (∀ b ∈ fp, H b = none) ∧ W c i m H
def GxY : Protocol := fun n s₀ v s kap => ∃ c so y H i m, s₀.heap.get? S = some so ∧ Rc c so ∧ Inv (gxCx X A s4 H4 env fp) (gpin a S go so) σ0 H s ∧ tn (i + 1) s.heap ∧ (∀ b ∈ fp, H b = none) ∧ RelV y v ∧ Nx c i m y H ∧ m ≤ n + 1 ∧
  ∀ c' m' H' s', m' < m → GxI X A s4 H4 env fp tn a S go Rc W σ0 c' (i + 1) m' H' s' → kap (.send .none) s'
def GxE (s₀ s : Shared) : Prop := ∃ c so H, s₀.heap.get? S = some so ∧ Rc c so ∧ Inv (gxCx X A s4 H4 env fp) (gpin a S go so) σ0 H s ∧ Fi c H
end
section
variable {X : Cx} {A : Around} {s4 : Shared} {H4 : Hp} {env : Env} {fp : List Addr} {tn : Nat → Heap → Prop} {a S it : Addr} {go : Obj} {γ : Type} {Rc : γ → Obj → Prop} {W : γ → Nat → Nat → Hp → Prop} {Nx : γ → Nat → Nat → V → Hp → Prop} {Fi : γ → Hp → Prop} {σ0 : L2.St}
  {tg elt iter : Expr} {ifs : List Expr} {scope : Scope} {gpos : Pos} {J : It} {g : TG} {tt : TT} {te : TE} {vs : List Nat}
/-- what the consumer's turn is to be -/
def GxT (J : It) (g : TG) (tt : TT) (te : TE) (vs : List Nat) (σ0 : L2.St) {γ : Type} (W : γ → Nat → Nat → Hp → Prop) (Nx : γ → Nat → Nat → V → Hp → Prop) (Fi : γ → Hp → Prop) : Prop := ∀ c i m H, W c i m H →
  (J.stop i H ∧ Fi c H) ∨ (J.go i H ∧ 0 < m ∧ ∀ x H', J.yld i H x H' → g x σ0 H' fun σ2 H2 => wipe σ2 vs = σ0 ∧ tt σ2 H2 fun b H3 =>
    if b = true then te σ2 H3 fun y H4 => Nx c i m y H4 else ∃ m', m' < m ∧ W c (i + 1) m' H3)
theorem gx_loop (T : Turn X.prog X.w X.K tg J fp it tn) (haf : a ∉ fp) (hSf : S ∉ fp) (hco : env.scope.isCoroutine = false) (hgo : ∀ v, go.data ≠ .cell v) (hW : GxT J g tt te vs σ0 W Nx Fi)
    (pg : PG (gxCx X A s4 H4 env fp) tg g) (pt : PTs (gxCx X A s4 H4 env fp) ifs tt) (pe : PE (gxCx X A s4 H4 env fp) elt te) :
    ∀ (m n : Nat) (c : γ) (i : Nat) (H : Hp) (s s₀ : Shared) (so : Obj), m ≤ n → s₀.heap.get? S = some so → Rc c so → Inv (gxCx X A s4 H4 env fp) (gpin a S go so) σ0 H s → tn i s.heap → (∀ b ∈ fp, H b = none) → W c i m H →
      Seg (model X.prog X.w) A (fun n s₀ r s1 => r = .ok .next ∧ GxE X A s4 H4 env fp a S go Rc Fi σ0 s₀ s1) (GxY X A s4 H4 env fp tn a S go Rc W Nx σ0) n s₀
        (.compLoop (.GeneratorExp elt [⟨tg, iter, ifs, 0⟩] scope gpos) 0 (.ref it) .none env) ((model X.prog X.w).den (.compLoop (.GeneratorExp elt [⟨tg, iter, ifs, 0⟩] scope gpos) 0 (.ref it) .none env)) [] s := by
  intro m
  induction m using Nat.strongRecOn with
  | ind m ih =>
    intro n c i H s s₀ so hmn h0 hR I st nf w
    have stat : ∀ {σ' : L2.St} {H' : Hp} {s' : Shared} {so : Obj}, Inv (gxCx X A s4 H4 env fp) (gpin a S go so) σ' H' s' → (∀ b ∈ fp, H' b = none) → ∀ b ∈ fp, FpOk (gxCx X A s4 H4 env fp) (gpin a S go so) H' b := fun {σ' H' s' so} I' hn b hb =>
      ⟨hn b hb, (I'.ok.exf b hb).1, I'.ok.exfs b hb, .inl hb, fun x c e => (I'.ok.exf b hb).2 x c e, fun p hp => by
        rcases List.mem_cons.mp (show p ∈ gpin a S go so from hp) with z | z
        · rw [z]; exact fun e => haf (by rw [show a = b from e]; exact hb)
        · rw [List.mem_singleton.mp z]; exact fun e => hSf (by rw [show S = b from e]; exact hb)⟩
    have ov : A.over (.compLoop (.GeneratorExp elt [⟨tg, iter, ifs, 0⟩] scope gpos) 0 (.ref it) .none env) [] = (gxCx X A s4 H4 env fp).A := over_gx
    show Seg _ A _ _ _ s₀ _ ((compTurn (.GeneratorExp elt [⟨tg, iter, ifs, 0⟩] scope gpos) 0 (.ref it) .none env).onRaise (leaving env)) [] s
    rw [compTurn_gen, Sem.onRaise_eq_wrap]
    refine seg_bind_wrap (wpAny_standAt ?_)
    rcases hW c i m H w with ⟨stop, fi⟩ | ⟨gogo, hm0, step⟩
    · refine seg_bind_wrap ?_
      rw [ov]
      refine thnF (T.done (gxCx X A s4 H4 env fp) rfl rfl rfl rfl i (gpin a S go so) s σ0 H (fun _ _ => False) I (stat I nf) st stop) fun r s6 ⟨hr, I6⟩ => ?_
      subst hr
      exact seg_end (.ok .next) ⟨rfl, c, so, H, h0, hR, I6, fi⟩
    · refine seg_bind_wrap ?_
      rw [ov]
      refine thnF (T.item (gxCx X A s4 H4 env fp) rfl rfl rfl rfl i (gpin a S go so) s σ0 H (fun _ _ => False) I (stat I nf) st gogo) fun r s6 ⟨u, hr, h6⟩ => ?_
      subst hr
      refine seg_bind_wrap ?_
      rw [ov]
      refine thnF h6 fun _ s7 ⟨x, H7, I7, r7, y7, st7, n7⟩ => ?_
      have I7' := I7.pinned (stat I7 n7) (T.obj _ _ st7)
      refine seg_bind_wrap ?_
      rw [ov]
      refine thnF (pg.run _ s7 _ H7 x u _ I7' r7 (step x H7 y7)) fun _ s8 ⟨σ8, H8, I8, hw8, q8⟩ => ?_
      refine seg_bind_wrap ?_
      rw [ov]
      refine thnF (pt.run _ s8 σ8 H8 _ I8 q8) fun b s9 ⟨H9, I9, q9⟩ => ?_
      have back : ∀ {s' : Shared} {H' : Hp}, Inv (gxCx X A s4 H4 env fp) (gpin a S go so ++ pinsAt fp s7.heap) σ8 H' s' → Inv (gxCx X A s4 H4 env fp) (gpin a S go so) σ0 H' s' ∧ tn (i + 1) s'.heap ∧ ∀ b ∈ fp, H' b = none := fun {s' H'} I' => by
        have pin' : ∀ b ∈ fp, ∀ o, s7.heap.get? b = some o → s'.heap.get? b = some o ∧ H' b = none := fun b hb o e =>
          let z := I'.pin (b, o) (List.mem_append_right _ (List.mem_append_right _ (mem_pinsAt hb e)))
          ⟨z.1, z.2.1⟩
        have hl : σ0.length = σ8.length := by rw [← hw8, wipe_length]
        refine ⟨(I'.unpinned (pins := gpin a S go so)).weak hl (fun j v e => ?_), T.keep _ _ _ st7 fun b hb o e => (pin' b hb o e).1, fun b hb => ?_⟩
        · rw [← hw8] at e
          exact (wipe_some e).1
        · obtain ⟨o, e, _⟩ := T.obj _ _ st7 b hb
          exact (pin' b hb o e).2
      cases b with
      | false =>
        simp only [Bool.false_eq_true, if_false] at q9 ⊢
        obtain ⟨m', hm, w'⟩ := q9
        obtain ⟨b1, b2, b3⟩ := back I9
        exact seg_again rfl (ih m' hm n c (i + 1) H9 s9 s₀ so (by omega) h0 hR b1 b2 b3 w')
      | true =>
        simp only [if_true] at q9 ⊢
        have hy : ∀ v, yieldOut env v = yieldValue v := fun v => by simp only [yieldOut, hco, Bool.false_eq_true, if_false]
        simp only [hy]
        rw [Sem.bind_eq_wrap', Sem.bind_eq_wrap', Sem.wrap_wrap, Sem.wrap_wrap]
        refine seg_wrap ?_
        rw [ov]
        refine thnF (pe.run _ s9 σ8 H9 _ I9 q9) fun z s10 ⟨yv, H10, I10, r10, nx⟩ => ?_
        obtain ⟨b1, b2, b3⟩ := back I10
        obtain ⟨n', rfl⟩ : ∃ n', n = n' + 1 := ⟨n - 1, by omega⟩
        refine seg_at (seg_yield rfl rfl rfl ⟨c, so, yv, H10, i, m, h0, hR, b1, b2, b3, r10, nx, hmn, fun c' m' H' s' hm hI => ?_⟩)
        obtain ⟨so', hR', I', st', nf', w'⟩ := hI
        exact seg_again rfl (ih m' hm n' c' (i + 1) H' s' s' so' (by omega) (I'.pin (S, so') (List.mem_append_right _ (List.mem_cons_of_mem _ List.mem_cons_self))).1 hR' I' st' nf' w')
theorem gx_seg (T : Turn X.prog X.w X.K tg J fp it tn) (haf : a ∉ fp) (hSf : S ∉ fp) (hco : env.scope.isCoroutine = false) (hgo : ∀ v, go.data ≠ .cell v) (hW : GxT J g tt te vs σ0 W Nx Fi)
    (pg : PG (gxCx X A s4 H4 env fp) tg g) (pt : PTs (gxCx X A s4 H4 env fp) ifs tt) (pe : PE (gxCx X A s4 H4 env fp) elt te) {m n : Nat} {c : γ} {i : Nat} {H : Hp} {s s₀ : Shared} (hmn : m ≤ n) (hI : GxI X A s4 H4 env fp tn a S go Rc W σ0 c i m H s) (hs0 : s₀ = s) :
      Seg (model X.prog X.w) A (fun n s₀ r s1 => r = .ok .next ∧ GxE X A s4 H4 env fp a S go Rc Fi σ0 s₀ s1) (GxY X A s4 H4 env fp tn a S go Rc W Nx σ0) n s₀
        (.compStart (.GeneratorExp elt [⟨tg, iter, ifs, 0⟩] scope gpos) 0 (.ref it) .none env) ((model X.prog X.w).den (.compStart (.GeneratorExp elt [⟨tg, iter, ifs, 0⟩] scope gpos) 0 (.ref it) .none env)) [] s := by
  subst hs0
  obtain ⟨so, hR, I, st, nf, w⟩ := hI
  have loop := gx_loop (iter := iter) (scope := scope) (gpos := gpos) T haf hSf hco hgo hW pg pt pe m n c i H s₀ s₀ so hmn (I.pin (S, so) (List.mem_append_right _ (List.mem_cons_of_mem _ List.mem_cons_self))).1 hR I st nf w
  show Seg _ A _ _ _ s₀ _ ((compStart (.GeneratorExp elt [⟨tg, iter, ifs, 0⟩] scope gpos) 0 (.ref it) .none env).onRaise (leaving env)) [] s₀
  unfold compStart
  rw [Sem.onRaise_eq_wrap]
  show Seg _ A _ _ _ s₀ _ ((ask >>= _).wrap _ _ _ _) [] s₀
  refine seg_bind_wrap (wpAny_askSetting ?_)
  split
  · exact seg_again rfl loop
  · first
      | exact seg_bind_wrap (wpAny_rule (seg_bind_wrap (wpAny_standAt (seg_bind_wrap (T.self _ _ s₀ _ _ st (seg_again rfl loop))))))
      | (refine seg_bind_wrap (wpAny_rule ?_); show Seg _ A _ _ _ s₀ _ ((standAt iter.pos >>= _).wrap _ _ _ _) [] s; exact seg_bind_wrap (wpAny_standAt (seg_bind_wrap (T.self _ _ s₀ _ _ st (seg_again rfl loop)))))
end
end TH
set_option Elab.async false
set_option linter.all false
set_option maxRecDepth 100000
set_option maxHeartbeats 2000000
/-! TB11: generator expressions: made, consumed. -/
namespace TH
open PySem PySem.Spec PyProof.Rows L2 GenW
section
variable {X : Cx} {pins : List (Addr × Obj)} {σ : L2.St} {H : Hp} {s : Shared}
/-- what the making leaves -/
def GxMade (X : Cx) (pins : List (Addr × Obj)) (σ : L2.St) (tg elt iter : Expr) (ifs : List Expr) (scope : Scope) (gpos : Pos) (RR : It → Hp → Prop) (a : Addr) (s5 : Shared) : Prop :=
  ∃ (g : Nat) (code nm qn : Value) (go : Obj) (it : Addr) (fp : List Addr) (tn : Nat → Heap → Prop) (J : It) (H3 : Hp) (s4 : Shared), Inv X pins σ H3 s4 ∧ Turn X.prog X.w X.K tg J fp it tn ∧ tn 0 s4.heap ∧ (∀ b ∈ fp, FpOk X pins H3 b ∧ b < s4.heap.objs.size) ∧ RR J H3 ∧
    s5.gens[g]? = some (.fresh (.compStart (.GeneratorExp elt [⟨tg, iter, ifs, 0⟩] scope gpos) 0 (.ref it) .none (gxEnv X scope s4.heap.objs.size code))) ∧
    s5.heap.get? a = some go ∧ go.cls = .type "generator" ∧ go.data = .fields #[.int g 0, nm, qn] ∧ go.slots = #[] ∧ s5.os = s4.os ∧ AllBare s5.gens ∧ (∀ b o, s4.heap.get? b = some o → s5.heap.get? b = some o) ∧ (∃ m0, s5.heap.Ns s4.heap.objs.size m0) ∧ s4.heap.objs.size < a
theorem gx_make {TL : List (Addr × Str)} {c P : Addr} {tg elt iter : Expr} {ifs : List Expr} {scope : Scope} {own : List (Str × Nat)} {gpos : Pos} {wi : TI} {RR : It → Hp → Prop} {k : Nat} {Q' : Value → Shared → Prop}
    (hr : Room k X.A) (TB : LamX.TabB X.base X.mg c P) (hcode : X.env.code = .ref c) (hmT : (P, X.env.qual ++ "<genexpr>") ∈ TL) (hu : ∀ p ∈ TL, p.1 = P → p.2 = X.env.qual ++ "<genexpr>") (ok : GxOk X.N X.env.scope scope own) (hi : PI X tg iter wi)
    (hs : ∀ v, genFold iter X.env v = pure v) (I : Inv X pins σ H s) (h : wi σ H fun J H2 => LamX.Tabs TL H2 ∧ ∀ H3, LamX.ExtN H2 H3 → LamX.Tabs TL H3 → RR J H3)
    (hQ : ∀ a s5, GxMade X pins σ tg elt iter ifs scope gpos RR a s5 → Q' (.ref a) s5) :
    wpAny (model X.prog X.w) X.A (eval (.GeneratorExp elt [⟨tg, iter, ifs, 0⟩] scope gpos) X.env) Q' X.xe s := by
  have hfree : ∀ y ∈ scope.names, y.2 = .free → ∃ c, X.env.cells.lookup y.1 = some c := fun y hy e => by
    rcases ok.free y hy e with k | k
    · exact I.ok.has _ (.inl k)
    · exact I.ok.has _ (.inr k)
  refine wpAny_GeneratorExp_make ok.co (closure_ok hfree) ok.cell ok.dot ok.kind hr.depth ?_ hs
  refine thn (hi.run pins s σ H _ I h) fun xv s1 h1 => thn h1 fun itv s2 h2 => ?_
  obtain ⟨it, fp, tn, J, H2, rfl, I2, T, st2, f2, hT, q⟩ := h2
  refine ⟨I2.nolimit, ?_⟩
  have lt2 : ∀ b ∈ fp, b < s2.heap.objs.size := fun b hb => by
    obtain ⟨o, e, _⟩ := T.obj _ _ st2 b hb
    exact Heap.lt_size e
  have cont : ∀ (code : Value) (H3 : Hp) (s3 : Shared), Inv X pins σ H3 s3 → tn 0 s3.heap → (∀ b ∈ fp, FpOk X pins H3 b ∧ b < s3.heap.objs.size) → LamX.ExtN H2 H3 → LamX.Tabs TL H3 →
      wpAny (model X.prog X.w) X.A (builtinsFor X.env.globals X.env.builtins) (fun bi s₄ => ∀ h', h'.Ns s₄.heap.objs.size (fun y => if y = ".0" then some (Value.ref it) else none) → Heap.SameBut s₄.heap.objs.size (s₄.heap.push { cls := .type "frame", data := .dict #[] }) h' →
          Q' (.ref h'.objs.size) { s₄ with
            gens := s₄.gens.push (.fresh (.compStart (.GeneratorExp elt [⟨tg, iter, ifs, 0⟩] scope gpos) 0 (.ref it) .none (genEnv scope (cloFrom X.env.cells scope.names []) s₄.heap.objs.size code bi X.env))),
            toks := s₄.toks + 1 + 1 + 1,
            heap := h'.push { cls := .type "generator", data := .fields #[.int s₄.gens.size 0, .str "<genexpr>" (s₄.toks + 1), .str (X.env.qual ++ "<genexpr>") (s₄.toks + 1 + 1)] } }) X.xe s3 := by
    intro code H3 s3 I3 st3 f3 eN T3
    obtain ⟨bm, ob, e1, e2, e3, e4, e5, e6, e7, e8⟩ := TB.bm
    refine wpAny_builtinsFor (m := X.mg) (by rw [I3.ok.glob]; exact I3.mod.glob.keeps I3.bk) e1 e2 (I3.bk _ _ e5) e6 e7 e8 ?_
    intro h' hn' hs'
    have kp : ∀ b o, s3.heap.get? b = some o → h'.get? b = some o := fun b o e => hs'.extBut b o (Nat.ne_of_lt (Heap.lt_size e)) (Heap.get?_push_of_some _ e)
    have hsz : h'.objs.size = s3.heap.objs.size + 1 := by rw [hs'.1, Heap.size_push]
    refine hQ _ _ ⟨s3.gens.size, code, _, _, _, it, fp, tn, J, H3, s3, I3, T, st3, f3, q H3 eN T3, Array.getElem?_push_size .., Heap.get?_push_size _ rfl, rfl, rfl, rfl, rfl, AllBare.push I3.bare rfl, fun b o e => Heap.get?_push_of_some _ (kp b o e), ⟨_, hn'.push _⟩, by rw [hsz]; exact Nat.lt_succ_self _⟩
  obtain ⟨ps, hP, ht, ha⟩ := hT _ hmT
  have hP' : s2.heap.get? P = some { cls := .none, data := .fields ps } := I2.hok P _ hP
  have cd : PySem.W.CodeHd s2.heap c P := TB.code.keeps I2.bk
  cases hc : codeAmong gpos ps.toList with
  | none =>
    refine wpAny_genexprCodeX hcode (cd.code hP' ht) (cd.tab hP') hc fun c' h' tk hx hge hlt hco' hrec htab' _ => ?_
    obtain ⟨c2, oc, vs, t, e2, hoc, hd, hv⟩ := hrec
    cases e2
    have nC : H2 c' = none := I2.hok.fresh hge
    have I3 := LamX.inv_table (t' := tk) (more := #[rawInt gpos.line, rawInt gpos.col, .ref c']) (h' := h') (c := c') (q := X.env.qual ++ "<genexpr>") I2 hP hx htab'.2 hge ⟨oc, vs, t, hoc, hd, hv⟩
    have hE : LamX.ExtN H2 (upd (upd H2 P (.tbl (ps ++ #[rawInt gpos.line, rawInt gpos.col, .ref c']))) c' (LamX.CodeO c' (X.env.qual ++ "<genexpr>"))) := fun b o e n => by
      rw [upd_ne (ne_of_none e nC), upd_ne (fun z => n ps (Option.some.inj (e.symm.trans (by rw [z]; exact hP))))]
      exact e
    have eL : (ps ++ #[rawInt gpos.line, rawInt gpos.col, .ref c']).toList = ps.toList ++ [rawInt gpos.line, rawInt gpos.col, .ref c'] := by simp
    have nP : ∀ b ∈ fp, b ≠ P := fun b hb z => by
      have := (f2 b hb).1
      rw [z, hP] at this
      cases this
    have nc' : ∀ b ∈ fp, b ≠ c' := fun b hb => Nat.ne_of_lt (Nat.lt_of_lt_of_le (lt2 b hb) hge)
    refine cont (.ref c') _ _ I3 (T.keep _ _ _ st2 fun b hb o e => hx b o (nP b hb) e) (fun b hb => ⟨⟨?_, (f2 b hb).2⟩, ?_⟩) hE fun p hp => ?_
    · rw [upd_ne (nc' b hb), upd_ne (nP b hb)]
      exact (f2 b hb).1
    · obtain ⟨o, e, _⟩ := T.obj _ _ st2 b hb
      exact Heap.lt_size (hx b o (nP b hb) e)
    · by_cases hb : p.1 = P
      · rw [hu p hp hb, hb]
        refine ⟨_, by rw [upd_ne (ne_of_none hP nC), upd_same], by rw [eL]; exact PySem.TriplesOk_snoc _ _ _ _ ht, fun p' cv hcv => ?_⟩
        rw [eL] at hcv
        rcases LamX.among_app _ ht hcv with z | z
        · obtain ⟨c0, e1, e2⟩ := ha p' cv z
          exact ⟨c0, e1, hE _ _ e2 LamX.codeO_ne⟩
        · exact ⟨c', z, upd_same⟩
      · obtain ⟨ps', a1, a2, a3⟩ := hT p hp
        refine ⟨ps', by rw [upd_ne (ne_of_none a1 nC), upd_ne hb]; exact a1, a2, fun p' cv hcv => ?_⟩
        obtain ⟨c0, e1, e2⟩ := a3 p' cv hcv
        exact ⟨c0, e1, hE _ _ e2 LamX.codeO_ne⟩
  | some cv =>
    refine wpAny_genexprCode_hit hcode (cd.code hP' ht) hc ?_
    exact cont cv H2 s2 I2 st2 (fun b hb => ⟨f2 b hb, lt2 b hb⟩) (LamX.ExtN.refl _) hT
end
theorem inv_gens {X : Cx} {pins : List (Addr × Obj)} {σ : L2.St} {H : Hp} {s : Shared} {G : Array GenState} (I : Inv X pins σ H s) (hg : AllBare G) : Inv X pins σ H { s with gens := G } :=
  I.call (ch := []) (h' := s.heap) (t' := s.toks) (d' := s.drawn) (Un.kept fun _ _ e => e) I.hok hg fun _ z => nomatch z
section
variable {X : Cx} {A B : Around} {s4 : Shared} {H4 : Hp} {env : Env} {fp : List Addr} {tn : Nat → Heap → Prop} {a it : Addr} {go : Obj} {γ : Type} {W : γ → Nat → Nat → Hp → Prop} {Nx : γ → Nat → Nat → V → Hp → Prop} {Fi : γ → Hp → Prop} {σ0 : L2.St} {g : Nat} {R : Result → Shared → Prop}
/-- the generator sleeps, n turns at most are left -/
def GxS (X : Cx) (B : Around) (s4 : Shared) (H4 : Hp) (env : Env) (fp : List Addr) (tn : Nat → Heap → Prop) (a S : Addr) (go : Obj) {γ : Type} (Rc : γ → Obj → Prop) (W : γ → Nat → Nat → Hp → Prop) (Nx : γ → Nat → Nat → V → Hp → Prop) (Fi : γ → Hp → Prop) (σ0 : L2.St) (g n : Nat) (s : Shared) : Prop :=
  s.heap.IsGen a g ∧ s.heap.NoLimit ∧ ∃ gs, s.gens[g]? = some gs ∧ gs.Goes (model X.prog X.w) B (fun n s₀ r s1 => r = .ok .next ∧ GxE X B s4 H4 env fp a S go Rc Fi σ0 s₀ s1) (GxY X B s4 H4 env fp tn a S go Rc W Nx σ0) n (.send .none) (s.setGen g .running)
theorem gx_any_loop (yes : Bool) (hh : A.handled = none) (hd : A.depth < recursionLimit) (hgI : ∀ h : Heap, h.get? a = some go → h.IsGen a g)
    (hend : ∀ s₀ s₁ h', GxE X A.in1.in1 s4 H4 env fp a a go (fun _ _ => True) Fi σ0 s₀ s₁ → (∀ b o, s₁.heap.get? b = some o → h'.get? b = some o) → R (.ok (.ret (.bool (!yes)))) { s₁.setGen g .finished with heap := h' })
    (Qt : Hp → Prop) (hstop : ∀ so H s₁ gs', Inv (gxCx X A.in1.in1 s4 H4 env fp) (gpin a a go so) σ0 H s₁ → gs'.bare = true → Qt H → R (.ok (.ret (.bool yes))) (s₁.setGen g gs'))
    (hNx : ∀ c i m y H, Nx c i m y H → ∃ b, y = .bl b ∧ (b = yes → Qt H) ∧ (b = (!yes) → ∃ m' c', m' < m ∧ W c' (i + 1) m' H)) :
    ∀ (n : Nat) (s : Shared), GxS X A.in1.in1 s4 H4 env fp tn a a go (fun _ _ => True) W Nx Fi σ0 g n s → codeAny (model X.prog X.w) A (.builtin (if yes = true then "any.loop" else "all.loop") ⟨[.ref a], []⟩) R s := by
  intro n
  induction n with
  | zero =>
    intro s ⟨hg, hl, gs, hgs, hgo⟩
    cases yes with
    | true =>
      show codeAny _ A (.builtin "any.loop" ⟨[.ref a], []⟩) R s
      refine codeAny_builtin F.entry_any_loop ?_
      rw [Around.under_plainId F.plain_any_loop _]
      show wpAny _ A.in1 (pyNext (.ref a) >>= _) _ _ s
      refine wpAny_bind (wpAny_pyNext_genexpQ (A := A.in1) (P := fun _ s0 s1 => GxE X A.in1.in1 s4 H4 env fp a a go (fun _ _ => True) Fi σ0 s0 s1) hh hl hd hg hgs hgo (fun v s₁ gs' hb hv => ?_) (fun s₁ hp h' hk => ?_))
      · obtain ⟨c, so, y, H, i, m, h0, hR, I1, tn1, nf, ry, nx, hm, hk⟩ := hv
        obtain ⟨b, rfl, h1, h2⟩ := hNx _ _ _ _ _ nx
        have ev : v = .bool b := ry
        subst ev
        refine wpAny_bind (wpAny_holding (wpAny_truthy_bool (wpAny_bind (wpAny_letGo ?_))))
        cases b with
        | true =>
          simp only [if_true]
          exact wpAny_bind (wpAny_rule (wpAny_pure (hstop so H s₁ gs' I1 hb (h1 rfl))))
        | false =>
          obtain ⟨m', c', hm', w'⟩ := h2 rfl
          exact False.elim (hk c' m' H s₁ hm' ⟨so, trivial, I1, tn1, nf, w'⟩)
      · exact wpAny_bind (wpAny_rule (wpAny_pure (hend _ s₁ h' hp hk)))
    | false =>
      show codeAny _ A (.builtin "all.loop" ⟨[.ref a], []⟩) R s
      refine codeAny_builtin F.entry_all_loop ?_
      rw [Around.under_plainId F.plain_all_loop _]
      show wpAny _ A.in1 (pyNext (.ref a) >>= _) _ _ s
      refine wpAny_bind (wpAny_pyNext_genexpQ (A := A.in1) (P := fun _ s0 s1 => GxE X A.in1.in1 s4 H4 env fp a a go (fun _ _ => True) Fi σ0 s0 s1) hh hl hd hg hgs hgo (fun v s₁ gs' hb hv => ?_) (fun s₁ hp h' hk => ?_))
      · obtain ⟨c, so, y, H, i, m, h0, hR, I1, tn1, nf, ry, nx, hm, hk⟩ := hv
        obtain ⟨b, rfl, h1, h2⟩ := hNx _ _ _ _ _ nx
        have ev : v = .bool b := ry
        subst ev
        refine wpAny_bind (wpAny_holding (wpAny_truthy_bool (wpAny_bind (wpAny_letGo ?_))))
        cases b with
        | false =>
          simp only [Bool.false_eq_true, if_false]
          exact wpAny_bind (wpAny_rule (wpAny_pure (hstop so H s₁ gs' I1 hb (h1 rfl))))
        | true =>
          obtain ⟨m', c', hm', w'⟩ := h2 rfl
          exact False.elim (hk c' m' H s₁ hm' ⟨so, trivial, I1, tn1, nf, w'⟩)
      · exact wpAny_bind (wpAny_rule (wpAny_pure (hend _ s₁ h' hp hk)))
  | succ n ih =>
    intro s ⟨hg, hl, gs, hgs, hgo⟩
    have hgl : g < s.gens.size := (Array.getElem?_eq_some_iff.mp hgs).1
    have next : ∀ {so : Obj} {H : Hp} {s₁ : Shared} {gs' : GenState} {m i : Nat} {kap : Resume → Shared → Prop}, g + 1 ≤ (s₁.setGen g gs').gens.size → gs'.bare = true → Inv (gxCx X A.in1.in1 s4 H4 env fp) (gpin a a go so) σ0 H s₁ → tn (i + 1) s₁.heap → (∀ b ∈ fp, H b = none) →
        (∀ c' m' H' s', m' < m → GxI X A.in1.in1 s4 H4 env fp tn a a go (fun _ _ => True) W σ0 c' (i + 1) m' H' s' → gs'.Goes (model X.prog X.w) A.in1.in1 (fun n s₀ r s1 => r = .ok .next ∧ GxE X A.in1.in1 s4 H4 env fp a a go (fun _ _ => True) Fi σ0 s₀ s1) (GxY X A.in1.in1 s4 H4 env fp tn a a go (fun _ _ => True) W Nx σ0) n (.send .none) s') →
        (∃ m' c', m' < m ∧ W c' (i + 1) m' H) → GxS X A.in1.in1 s4 H4 env fp tn a a go (fun _ _ => True) W Nx Fi σ0 g n (s₁.setGen g gs') := fun {so H s₁ gs' m i kap} hsz hb I1 tn1 nf hk ⟨m', c', hm', w'⟩ => by
      have hsz1 : g < s₁.gens.size := by
        have q : (s₁.setGen g gs').gens.size = s₁.gens.size := setGen_size _ _ _
        omega
      have I2 : Inv (gxCx X A.in1.in1 s4 H4 env fp) (gpin a a go so) σ0 H ((s₁.setGen g gs').setGen g .running) :=
        inv_gens (s := s₁) (G := ((s₁.setGen g gs').setGen g .running).gens) I1 (allBare_setGen (s := s₁.setGen g gs') (allBare_setGen I1.bare hb) rfl)
      exact ⟨hgI _ (I1.pin (a, go) (List.mem_append_right _ List.mem_cons_self)).1, I1.nolimit, gs', setGen_at hsz1, hk c' m' H _ hm' ⟨so, trivial, I2, tn1, nf, w'⟩⟩
    cases yes with
    | true =>
      show codeAny _ A (.builtin "any.loop" ⟨[.ref a], []⟩) R s
      refine codeAny_builtin F.entry_any_loop ?_
      rw [Around.under_plainId F.plain_any_loop _]
      show wpAny _ A.in1 (pyNext (.ref a) >>= _) _ _ s
      refine wpAny_bind (wpAny_gsz (n := g + 1) hgl (wpAny_pyNext_genexpQ (A := A.in1) (P := fun _ s0 s1 => GxE X A.in1.in1 s4 H4 env fp a a go (fun _ _ => True) Fi σ0 s0 s1) hh hl hd hg hgs hgo (fun v s₁ gs' hb hv => ?_) (fun s₁ hp h' hk => ?_)))
      · intro hsz
        obtain ⟨c, so, y, H, i, m, h0, hR, I1, tn1, nf, ry, nx, hm, hk⟩ := hv
        obtain ⟨b, rfl, h1, h2⟩ := hNx _ _ _ _ _ nx
        have ev : v = .bool b := ry
        subst ev
        refine wpAny_bind (wpAny_holding (wpAny_truthy_bool (wpAny_bind (wpAny_letGo ?_))))
        cases b with
        | true =>
          simp only [if_true]
          exact wpAny_bind (wpAny_rule (wpAny_pure (hstop so H s₁ gs' I1 hb (h1 rfl))))
        | false =>
          simp only [Bool.false_eq_true, if_false]
          exact wpAny_pure ⟨plainId_quiet F.plain_any_loop _, ih _ (next (kap := fun _ _ => True) hsz hb I1 tn1 nf hk (h2 rfl))⟩
      · intro _
        exact wpAny_bind (wpAny_rule (wpAny_pure (hend _ s₁ h' hp hk)))
    | false =>
      show codeAny _ A (.builtin "all.loop" ⟨[.ref a], []⟩) R s
      refine codeAny_builtin F.entry_all_loop ?_
      rw [Around.under_plainId F.plain_all_loop _]
      show wpAny _ A.in1 (pyNext (.ref a) >>= _) _ _ s
      refine wpAny_bind (wpAny_gsz (n := g + 1) hgl (wpAny_pyNext_genexpQ (A := A.in1) (P := fun _ s0 s1 => GxE X A.in1.in1 s4 H4 env fp a a go (fun _ _ => True) Fi σ0 s0 s1) hh hl hd hg hgs hgo (fun v s₁ gs' hb hv => ?_) (fun s₁ hp h' hk => ?_)))
      · intro hsz
        obtain ⟨c, so, y, H, i, m, h0, hR, I1, tn1, nf, ry, nx, hm, hk⟩ := hv
        obtain ⟨b, rfl, h1, h2⟩ := hNx _ _ _ _ _ nx
        have ev : v = .bool b := ry
        subst ev
        refine wpAny_bind (wpAny_holding (wpAny_truthy_bool (wpAny_bind (wpAny_letGo ?_))))
        cases b with
        | false =>
          simp only [Bool.false_eq_true, if_false]
          exact wpAny_bind (wpAny_rule (wpAny_pure (hstop so H s₁ gs' I1 hb (h1 rfl))))
        | true =>
          simp only [if_true]
          exact wpAny_pure ⟨plainId_quiet F.plain_all_loop _, ih _ (next (kap := fun _ _ => True) hsz hb I1 tn1 nf hk (h2 rfl))⟩
      · intro _
        exact wpAny_bind (wpAny_rule (wpAny_pure (hend _ s₁ h' hp hk)))
/-! ### sum -/
def RcS : Int → Obj → Prop := fun c o => ∃ tA cc, o = { cls := .type "list", dict := none, data := .seq #[.int c tA] cc, slots := #[] }
/-- the consumer's own object is written -/
theorem inv_S {S : Addr} {so so' : Obj} {H : Hp} {s₁ : Shared} {h' : Heap} {tk : Nat} {G : Array GenState} (I : Inv (gxCx X A s4 H4 env fp) (gpin a S go so) σ0 H s₁) (hSa : S ≠ a) (hS4 : s4.heap.objs.size ≤ S) (hso : ∀ v, so.data ≠ .cell v) (hso' : ∀ v, so'.data ≠ .cell v)
    (hk : ∀ b o, b ≠ S → s₁.heap.get? b = some o → h'.get? b = some o) (hS : h'.get? S = some so') (hg : AllBare G) : Inv (gxCx X A s4 H4 env fp) (gpin a S go so') σ0 H { s₁ with heap := h', gens := G, toks := tk } := by
  obtain ⟨p1, p2, p3, p4, p5⟩ := I.pin (S, so) (List.mem_append_right _ (List.mem_cons_of_mem _ List.mem_cons_self))
  have I0 : Inv (gxCx X A s4 H4 env fp) [(a, go)] σ0 H s₁ := I.pins_of fun p hp => I.pin p (List.mem_append_right _ (by rw [List.mem_singleton.mp hp]; exact List.mem_cons_self))
  have I1 : Inv (gxCx X A s4 H4 env fp) [(a, go)] σ0 H { s₁ with heap := h', toks := tk } := I0.turned (it := S) hk p2 p3 (.inr hS4) (fun x c e z => by
    obtain ⟨v, o, ho, hd⟩ := I.cell x c e
    rw [z, p1] at ho
    cases ho
    exact hso v hd) fun p hp => by
    have hp : p ∈ [(a, go)] := hp
    rw [List.mem_singleton.mp hp]
    exact Ne.symm hSa
  have I2 := inv_gens (G := G) I1 hg
  refine I2.pins_of fun p hp => ?_
  rcases List.mem_cons.mp hp with z | z
  · rw [z]
    exact I2.pin (a, go) (List.mem_append_right _ List.mem_cons_self)
  · rw [List.mem_singleton.mp z]
    exact ⟨hS, p2, p3, p4, hso'⟩
theorem gx_sum_loop {S : Addr} {W : Int → Nat → Nat → Hp → Prop} {Nx : Int → Nat → Nat → V → Hp → Prop} {Fi : Int → Hp → Prop} (hh : A.handled = none) (hd : A.depth < recursionLimit) (hgI : ∀ h : Heap, h.get? a = some go → h.IsGen a g) (hSa : S ≠ a) (hSf : S ∉ fp) (hS4 : s4.heap.objs.size ≤ S) (hkp : ∀ i h h', tn i h → (∀ b ∈ fp, ∀ o, h.get? b = some o → h'.get? b = some o) → tn i h')
    (hend : ∀ s₁ h' c H so tA, Inv (gxCx X A.in1.in1 s4 H4 env fp) (gpin a S go so) σ0 H s₁ → Fi c H → (∀ b o, s₁.heap.get? b = some o → h'.get? b = some o) → R (.ok (.ret (.int c tA))) { s₁.setGen g .finished with heap := h' })
    (hNx : ∀ c i m y H, Nx c i m y H → ∃ k, y = .int k ∧ ∃ m', m' < m ∧ W (c + k) (i + 1) m' H) :
    ∀ (n : Nat) (s : Shared) (c : Int) (tA : Tok) (cc : Nat) (st : Int), (st = 0 ∨ st = 2) → s.heap.get? S = some { cls := .type "list", dict := none, data := .seq #[.int c tA] cc, slots := #[] } → GxS X A.in1.in1 s4 H4 env fp tn a S go RcS W Nx Fi σ0 g n s →
      codeAny (model X.prog X.w) A (.builtin "sum.loop" ⟨[.ref a, .ref S, rawInt st, rawInt 0], []⟩) R s := by
  intro n
  induction n using Nat.strongRecOn with
  | ind n ih =>
    intro s c tA cc st hst2 hS ⟨hg, hl, gs, hgs, hgo⟩
    have hgl : g < s.gens.size := (Array.getElem?_eq_some_iff.mp hgs).1
    refine codeAny_builtin F.entry_sum_loop ?_
    rw [Around.under_plainId F.plain_sum_loop _]
    show wpAny _ A.in1 (seqItems? (.ref S) >>= _) _ _ s
    refine wpAny_bind (wpAny_seqItems hS rfl ?_)
    show wpAny _ A.in1 (tryCatch (pyNext (.ref a)) _ >>= _) _ _ s
    refine wpAny_bind (wpAny_tryCatch (wpAny_gsz (n := g + 1) hgl (wpAny_pyNext_genexpQ (A := A.in1) (P := fun _ s0 s1 => GxE X A.in1.in1 s4 H4 env fp a S go RcS Fi σ0 s0 s1) hh hl hd hg hgs hgo (fun v s₁ gs' hb hv => ?_) (fun s₁ hp h' hk => ?_))))
    · intro hsz
      obtain ⟨c', so, y, H, i, m, h0, ⟨tA', cc', eso⟩, I1, tn1, nf, ry, nx, hm, hk⟩ := hv
      subst eso
      have h0 : s.heap.get? S = _ := h0
      rw [hS] at h0
      cases h0
      obtain ⟨k, rfl, m', hm', w'⟩ := hNx _ _ _ _ _ nx
      obtain ⟨t, rfl⟩ := _root_.id ry
      have hS' : s₁.heap.get? S = some { cls := .type "list", dict := none, data := .seq #[.int c tA] cc, slots := #[] } := (I1.pin _ (List.mem_append_right _ (List.mem_cons_of_mem _ List.mem_cons_self))).1
      have hsz1 : g < s₁.gens.size := by
        have q : (s₁.setGen g gs').gens.size = s₁.gens.size := setGen_size _ _ _
        have hsz' : g + 1 ≤ (s₁.setGen g gs').gens.size := hsz
        omega
      have key : ∀ (h' : Heap) (tk : Nat) (tB : Tok) (cB : Nat), (∀ b o, b ≠ S → s₁.heap.get? b = some o → h'.get? b = some o) → h'.get? S = some { cls := .type "list", dict := none, data := .seq #[.int (c + k) tB] cB, slots := #[] } →
          ∃ n', n' < n ∧ GxS X A.in1.in1 s4 H4 env fp tn a S go RcS W Nx Fi σ0 g n' { s₁.setGen g gs' with heap := h', toks := tk } := fun h' tk tB cB hkk hSS => by
        have I2 := inv_S (tk := tk) (G := (({ s₁.setGen g gs' with heap := h', toks := tk } : Shared).setGen g .running).gens) I1 hSa hS4 (fun v z => by cases z) (fun v z => by cases z) hkk hSS (allBare_setGen (s := ({ s₁.setGen g gs' with heap := h', toks := tk } : Shared)) (allBare_setGen I1.bare hb) rfl)
        have q := hk (c + k) m' H (({ s₁.setGen g gs' with heap := h', toks := tk } : Shared).setGen g .running) hm' ⟨_, ⟨tB, cB, rfl⟩, I2, hkp _ _ _ tn1 fun b hb o e => hkk b o (fun z => hSf (by rw [← z]; exact hb)) e, nf, w'⟩
        cases n with
        | zero => exact q.elim
        | succ n' =>
          have hz : g < ({ s₁.setGen g gs' with heap := h', toks := tk } : Shared).gens.size := by
            have z : (s₁.setGen g gs').gens.size = s₁.gens.size := setGen_size _ _ _
            show g < (s₁.setGen g gs').gens.size
            omega
          exact ⟨n', Nat.lt_succ_self _, hgI _ (hkk a go (Ne.symm hSa) (I1.pin (a, go) (List.mem_append_right _ List.mem_cons_self)).1), I2.nolimit, gs', setGen_at hsz1, q⟩
      rcases hst2 with rfl | rfl
      · show wpAny _ A.in1 (if (_ : Bool) = true then (mkInt (c + k) >>= _) else _) _ _ _
        split
        · refine wpAny_bind (wpAny_mkInt ?_)
          show wpAny _ A.in1 (updateSeq S (fun _ => #[.int (c + k) s₁.toks]) >>= _) _ _ _
          refine wpAny_bind ?_
          refine wpAny_updateSeq hS' rfl (wpAny_pure ⟨plainId_quiet F.plain_sum_loop _, ?_⟩)
          obtain ⟨n', hn, q⟩ := key (s₁.heap.update S (Obj.mapSeq fun _ => #[Value.int (c + k) s₁.toks])) (s₁.toks + 1) s₁.toks _ (fun b o hb e => (Heap.get?_update_other _ _ (Ne.symm hb)).trans e) (Heap.get?_update_self _ hS' rfl)
          exact ih n' hn _ (c + k) s₁.toks _ 0 (.inl rfl) (Heap.get?_update_self _ hS' rfl) q
        · refine wpAny_bind (wpAny_rule ?_)
          refine wpAny_bind (wpAny_attempt (wpAny_holding (wpAny_add_int ?_)))
          show wpAny _ A.in1 (updateSeq S (fun _ => #[.int (c + k) s₁.toks]) >>= _) _ _ _
          refine wpAny_bind (wpAny_updateSeq hS' rfl ?_)
          have hS₂ := Heap.get?_update_self (Obj.mapSeq fun _ => #[Value.int (c + k) s₁.toks]) hS' rfl
          refine wpAny_bind (wpAny_letGo ?_)
          refine wpAny_bind (wpAny_updateSeq hS₂ rfl (wpAny_pure ⟨plainId_quiet F.plain_sum_loop _, ?_⟩))
          obtain ⟨n', hn, q⟩ := key ((s₁.heap.update S (Obj.mapSeq fun _ => #[Value.int (c + k) s₁.toks])).update S (Obj.mapSeq fun _ => #[Value.int (c + k) s₁.toks])) (s₁.toks + 1) s₁.toks _ (fun b o hb e => (Heap.get?_update_other _ _ (Ne.symm hb)).trans ((Heap.get?_update_other _ _ (Ne.symm hb)).trans e)) (Heap.get?_update_self _ hS₂ rfl)
          exact ih n' hn _ (c + k) s₁.toks _ 2 (.inr rfl) (Heap.get?_update_self _ hS₂ rfl) q
      · show wpAny _ A.in1 ((holding [Value.int k t] (binaryOp .Add (.int c tA) (.int k t))).attempt >>= _) _ _ _
        refine wpAny_bind (wpAny_attempt (wpAny_holding (wpAny_add_int ?_)))
        show wpAny _ A.in1 (updateSeq S (fun _ => #[.int (c + k) s₁.toks]) >>= _) _ _ _
        refine wpAny_bind (wpAny_updateSeq hS' rfl ?_)
        have hS₂ := Heap.get?_update_self (Obj.mapSeq fun _ => #[Value.int (c + k) s₁.toks]) hS' rfl
        refine wpAny_bind (wpAny_letGo ?_)
        refine wpAny_bind (wpAny_updateSeq hS₂ rfl (wpAny_pure ⟨plainId_quiet F.plain_sum_loop _, ?_⟩))
        obtain ⟨n', hn, q⟩ := key ((s₁.heap.update S (Obj.mapSeq fun _ => #[Value.int (c + k) s₁.toks])).update S (Obj.mapSeq fun _ => #[Value.int (c + k) s₁.toks])) (s₁.toks + 1) s₁.toks _ (fun b o hb e => (Heap.get?_update_other _ _ (Ne.symm hb)).trans ((Heap.get?_update_other _ _ (Ne.symm hb)).trans e)) (Heap.get?_update_self _ hS₂ rfl)
        exact ih n' hn _ (c + k) s₁.toks _ 2 (.inr rfl) (Heap.get?_update_self _ hS₂ rfl) q
    · intro _
      obtain ⟨c', so, H, h0, ⟨tA', cc', eso⟩, I1, fi⟩ := hp
      subst eso
      have h0 : s.heap.get? S = _ := h0
      rw [hS] at h0
      cases h0
      exact wpAny_pure (hend s₁ h' c H _ tA I1 fi hk)
end
end TH
set_option Elab.async false
set_option linter.all false
set_option maxRecDepth 100000
set_option maxHeartbeats 2000000
/-! TB12: any, all, sum of a generator expression: the rules. -/
namespace TH
open PySem PySem.Spec PyProof.Rows L2 GenW
section
variable {X : Cx} {pins : List (Addr × Obj)} {σ : L2.St} {H : Hp} {s : Shared}
theorem gx_ready {B : Around} {scope : Scope} {own : List (Str × Nat)} {fp : List Addr} {code : Value} {H3 : Hp} {s4 s6 : Shared} {a S : Addr} {go so : Obj} (I : Inv X pins σ H3 s4) (ok : GxOk X.N X.env.scope scope own) (hN : X.N.Nodup) (hfp : ∀ b ∈ fp, FpOk X pins H3 b ∧ b < s4.heap.objs.size) (hd : B.handled = none) (hfr : B.frames = some X.stack)
    (hns : ∃ m0, s6.heap.Ns s4.heap.objs.size m0) (kp : ∀ b o, s4.heap.get? b = some o → s6.heap.get? b = some o) (hos : s6.os = s4.os) (hg : AllBare s6.gens) (ha : s4.heap.objs.size < a) (hS : s4.heap.objs.size < S) (ea : s6.heap.get? a = some go) (eS : s6.heap.get? S = some so) (na : ∀ v, go.data ≠ .cell v) (nS : ∀ v, so.data ≠ .cell v) :
    Inv (gxCx X B s4 H3 (gxEnv X scope s4.heap.objs.size code) fp) (gpin a S go so) (wipe σ (own.map (·.2))) H3 s6 := by
  obtain ⟨m0, hns⟩ := hns
  have I1 := gx_start (A := B) (code := code) (G := s6.gens) (tk := s6.toks) I ok hN hfp hd hfr hns kp hg
  have I2 : Inv (gxCx X B s4 H3 (gxEnv X scope s4.heap.objs.size code) fp) [] (wipe σ (own.map (·.2))) H3 s6 := I1.call' (ch := []) hos (Un.kept fun _ _ e => e) I1.hok hg fun b z => by cases z
  refine I2.pins_of fun p hp => ?_
  have young : ∀ b, s4.heap.objs.size < b → H3 b = none ∧ b ≠ s4.heap.objs.size ∧ b ∉ frs X.stack := fun b hb => by
    refine ⟨I.hok.fresh (Nat.le_of_lt hb), Nat.ne_of_gt hb, fun z => ?_⟩
    rcases List.mem_cons.mp (I.stkSub b z) with z | z
    · rw [z] at hb
      exact Nat.lt_irrefl _ (Nat.lt_trans I.lt hb)
    · exact I.nofs (Nat.le_of_lt hb) z
  rcases List.mem_cons.mp hp with z | z
  · rw [z]
    obtain ⟨y1, y2, y3⟩ := young a ha
    exact ⟨ea, y1, y2, y3, na⟩
  · rw [List.mem_singleton.mp z]
    obtain ⟨y1, y2, y3⟩ := young S hS
    exact ⟨eS, y1, y2, y3, nS⟩
/-- behind it: back in the def -/
theorem gx_back {B : Around} {env : Env} {fp : List Addr} {H3 H' : Hp} {s4 s1 : Shared} {pn : List (Addr × Obj)} {σ0 : L2.St} {h' : Heap} {g : Nat} {gs : GenState} (I : Inv X pins σ H3 s4) (hfp : ∀ b ∈ fp, FpOk X pins H3 b ∧ b < s4.heap.objs.size) (J : Inv (gxCx X B s4 H3 env fp) pn σ0 H' s1) (hb : gs.bare = true) (hk : ∀ b o, s1.heap.get? b = some o → h'.get? b = some o) :
    Inv X pins σ H' { s1.setGen g gs with heap := h' } := by
  have u : Un (frs X.stack) fp H3 H' s4.heap s1.heap := J.base
  refine I.call' (ch := fp) J.os (u.trans (Un.kept hk)) (J.hok.kept hk) (allBare_setGen (s := s1) J.bare hb) fun b hb => ?_
  obtain ⟨f0, f1, f2, f3, f4, f5⟩ := (hfp b hb).1
  exact ⟨f3, f1, f4, f5⟩
/-- any (yes = true), all (yes = false) -/
def tGxB (TL : List (Addr × Str)) (yes : Bool) (wi : TI) (g : TG) (tt : TT) (te : TE) (vs : List Nat) : TE := fun σ H Q => wi σ H fun J H2 => LamX.Tabs TL H2 ∧ ∀ H3, LamX.ExtN H2 H3 → LamX.Tabs TL H3 → ∃ W : Nat → Nat → Hp → Prop, (∃ m, W 0 m H3) ∧ ∀ i m H, W i m H →
  (J.stop i H ∧ Q (.bl (!yes)) H) ∨ (J.go i H ∧ 0 < m ∧ ∀ x H', J.yld i H x H' → g x (wipe σ vs) H' fun σ2 H2 => wipe σ2 vs = wipe σ vs ∧ tt σ2 H2 fun b H3 =>
    if b = true then te σ2 H3 fun y H4 => ∃ b, y = .bl b ∧ (b = yes → Q (.bl yes) H4) ∧ (b = (!yes) → ∃ m', m' < m ∧ W (i + 1) m' H4) else ∃ m', m' < m ∧ W (i + 1) m' H3)
def tGxS (TL : List (Addr × Str)) (wi : TI) (g : TG) (tt : TT) (te : TE) (vs : List Nat) : TE := fun σ H Q => wi σ H fun J H2 => LamX.Tabs TL H2 ∧ ∀ H3, LamX.ExtN H2 H3 → LamX.Tabs TL H3 → ∃ W : Int → Nat → Nat → Hp → Prop, (∃ m, W 0 0 m H3) ∧ ∀ c i m H, W c i m H →
  (J.stop i H ∧ Q (.int c) H) ∨ (J.go i H ∧ 0 < m ∧ ∀ x H', J.yld i H x H' → g x (wipe σ vs) H' fun σ2 H2 => wipe σ2 vs = wipe σ vs ∧ tt σ2 H2 fun b H3 =>
    if b = true then te σ2 H3 fun y H4 => ∃ k, y = .int k ∧ ∃ m', m' < m ∧ W (c + k) (i + 1) m' H4 else ∃ m', m' < m ∧ W c (i + 1) m' H3)
variable {TL : List (Addr × Str)} {c P : Addr} {tg elt iter : Expr} {ifs : List Expr} {scope : Scope} {own : List (Str × Nat)} {gpos pos p : Pos} {wi : TI} {g : TG} {tt : TT} {te : TE} {k : Nat}
theorem pe_gxB (yes : Bool) (hr : Room (k + 3) X.A) (hg : Gl X (if yes = true then "any" else "all")) (hm : X.mg (if yes = true then "any" else "all") = none) (TB : LamX.TabB X.base X.mg c P) (hcode : X.env.code = .ref c) (hmT : (P, X.env.qual ++ "<genexpr>") ∈ TL) (hu : ∀ p ∈ TL, p.1 = P → p.2 = X.env.qual ++ "<genexpr>")
    (hN : X.N.Nodup) (ok : GxOk X.N X.env.scope scope own) (hi : PI X tg iter wi)
    (pg : ∀ (A : Around) (s4 : Shared) (H4 : Hp) (code : Value) (fp : List Addr), PG (gxCx X A s4 H4 (gxEnv X scope s4.heap.objs.size code) fp) tg g) (pt : ∀ (A : Around) (s4 : Shared) (H4 : Hp) (code : Value) (fp : List Addr), Room k (A.deeper (gxEnv X scope s4.heap.objs.size code)) → PTs (gxCx X A s4 H4 (gxEnv X scope s4.heap.objs.size code) fp) ifs tt)
    (pe : ∀ (A : Around) (s4 : Shared) (H4 : Hp) (code : Value) (fp : List Addr), Room k (A.deeper (gxEnv X scope s4.heap.objs.size code)) → PE (gxCx X A s4 H4 (gxEnv X scope s4.heap.objs.size code) fp) elt te)
    (hs : ∀ v, genFold iter X.env v = pure v := by intro _; rfl)
    (he : starEach [.GeneratorExp elt [⟨tg, iter, ifs, 0⟩] scope gpos] X.env = (false, eval (.GeneratorExp elt [⟨tg, iter, ifs, 0⟩] scope gpos) X.env) :: starEach [] X.env := by rfl) :
    PE X (.Call (.Name (if yes = true then "any" else "all") p) [.GeneratorExp elt [⟨tg, iter, ifs, 0⟩] scope gpos] [] pos) (tGxB TL yes wi g tt te (own.map (·.2))) := by
  refine ⟨fun pins s σ H Q I h => ?_⟩
  have body : wpAny (model X.prog X.w) X.A (spliced (backTo pos (starEach [.GeneratorExp elt [⟨tg, iter, ifs, 0⟩] scope gpos] X.env))) (fun us s5 => ∃ a, us = [.ref a] ∧ GxMade X pins σ tg elt iter ifs scope gpos (fun J H3 => ∃ W : Nat → Nat → Hp → Prop, (∃ m, W 0 m H3) ∧ ∀ i m H, W i m H →
      (J.stop i H ∧ Q (.bl (!yes)) H) ∨ (J.go i H ∧ 0 < m ∧ ∀ x H', J.yld i H x H' → g x (wipe σ (own.map (·.2))) H' fun σ2 H2 => wipe σ2 (own.map (·.2)) = wipe σ (own.map (·.2)) ∧ tt σ2 H2 fun b H3 =>
        if b = true then te σ2 H3 fun y H4 => ∃ b, y = .bl b ∧ (b = yes → Q (.bl yes) H4) ∧ (b = (!yes) → ∃ m', m' < m ∧ W (i + 1) m' H4) else ∃ m', m' < m ∧ W (i + 1) m' H3)) a s5) X.xe s := by
    rw [he]
    show wpAny _ _ (spliced ((false, eval (.GeneratorExp elt [⟨tg, iter, ifs, 0⟩] scope gpos) X.env) :: backTo pos (starEach [] X.env))) _ _ s
    exact Calls.spliced_cons (gx_make hr TB hcode hmT hu ok hi hs I h fun a s5 M => Calls.spliced_nil ⟨a, rfl, M⟩)
  have fin : ∀ a s5, GxMade X pins σ tg elt iter ifs scope gpos (fun J H3 => ∃ W : Nat → Nat → Hp → Prop, (∃ m, W 0 m H3) ∧ ∀ i m H, W i m H →
      (J.stop i H ∧ Q (.bl (!yes)) H) ∨ (J.go i H ∧ 0 < m ∧ ∀ x H', J.yld i H x H' → g x (wipe σ (own.map (·.2))) H' fun σ2 H2 => wipe σ2 (own.map (·.2)) = wipe σ (own.map (·.2)) ∧ tt σ2 H2 fun b H3 =>
        if b = true then te σ2 H3 fun y H4 => ∃ b, y = .bl b ∧ (b = yes → Q (.bl yes) H4) ∧ (b = (!yes) → ∃ m', m' < m ∧ W (i + 1) m' H4) else ∃ m', m' < m ∧ W (i + 1) m' H3)) a s5 → s5.heap.IsGen a (s5.gens.size - 1) ∨ True → 
      (∃ gI, s5.heap.IsGen a gI) ∧ codeAny (model X.prog X.w) X.A (.builtin (if yes = true then "any.loop" else "all.loop") ⟨[.ref a], []⟩) (fun r s' => match r with | .ok (.ret u) => L2.EP X pins σ Q u s' | .ok _ => False | .error _ => False) s5 := by
    intro a s5 M _
    obtain ⟨gi, code, nm, qn, go, it, fp, tn, J, H3, s4, I4, T, st4, f4, ⟨W, ⟨m0, w0⟩, turn⟩, hgs, hgo, c1, c2, c3, hos, hb, hk, hns, hlt⟩ := M
    have hgI : ∀ h : Heap, h.get? a = some go → h.IsGen a gi := fun h e => ⟨go, nm, qn, e, c1, c2, c3⟩
    have nd : ∀ v, go.data ≠ .cell v := fun v z => by rw [c2] at z; cases z
    refine ⟨⟨gi, hgI _ hgo⟩, ?_⟩
    have naf : a ∉ fp := fun z => Nat.lt_asymm (f4 a z).2 hlt
    have I6 := gx_ready (B := X.A.in1.in1) (code := code) (s6 := s5.setGen gi .running) (go := go) (so := go) I4 ok hN f4 hr.hd I4.ok.frames hns hk hos (allBare_setGen hb rfl) hlt hlt hgo hgo nd nd
    have rm : Room k (X.A.in1.in1.deeper (gxEnv X scope s4.heap.objs.size code)) := (hr.in1.in1).deeper _
    refine gx_any_loop (W := fun (_ : Unit) => W) (Nx := fun _ i m y H4 => ∃ b, y = .bl b ∧ (b = yes → Q (.bl yes) H4) ∧ (b = (!yes) → ∃ m', m' < m ∧ W (i + 1) m' H4)) (Fi := fun _ H => Q (.bl (!yes)) H) (σ0 := wipe σ (own.map (·.2))) (g := gi) (tn := tn) (fp := fp) (s4 := s4) (H4 := H3) (env := gxEnv X scope s4.heap.objs.size code) (a := a) (go := go) yes hr.hd
      (by have := hr.dp; omega) hgI (fun s₀ s₁ h' hE hk' => ?_) (Q (.bl yes)) (fun so H' s₁ gs' J' hb' q => ?_) (fun _ i m y H nx => ?_) m0 s5 ⟨hgI _ hgo, I4.nolimit.keeps hk, _, hgs, rfl, ?_⟩
    · obtain ⟨_, so, H', _, _, J', q⟩ := hE
      exact ⟨.bl (!yes), H', gx_back I4 f4 J' rfl hk', rfl, q⟩
    · exact ⟨.bl yes, H', gx_back (h' := s₁.heap) I4 f4 J' hb' fun _ _ e => e, rfl, q⟩
    · obtain ⟨b, e, h1, h2⟩ := nx
      exact ⟨b, e, h1, fun hb => let ⟨m', h3, h4⟩ := h2 hb; ⟨m', (), h3, h4⟩⟩
    · exact gx_seg T naf naf ok.co nd (fun _ i m H w => turn i m H w) (pg _ _ _ _ _) (pt _ _ _ _ _ rm) (pe _ _ _ _ _ rm) (Nat.le_refl m0) (c := ()) (i := 0) (H := H3) ⟨go, trivial, I6, T.keep _ _ _ st4 fun b _ o e => hk b o e, fun b hb => (f4 b hb).1.1, w0⟩ rfl
  cases yes with
  | true =>
    refine wpAny_Call_Name_kw (ld_blt I hg hm boot_any ?_)
    refine PyProof.Rows.callWith_builtin1 ?_ he (by rfl)
    refine thn body fun us s5 ⟨a, e, M⟩ => ?_
    subst e
    obtain ⟨⟨gI, hgen⟩, q⟩ := fin a s5 M (.inr trivial)
    refine call_function_tree F.kind_any F.plain_any F.entry_any (F.args_any1 _) ?_
    unfold Builtin.«any»
    refine wpAny_bind (m := oneArg "any" _) (wpAny_pure ?_)
    refine wpAny_bind (wpAny_pyIter_gen hgen ?_)
    refine wpAny_pure ⟨plainId_quiet F.plain_any_loop _, codeAny_mono q fun r s' hq => ?_⟩
    cases r with
    | error e => exact hq.elim
    | ok fl =>
      cases fl with
      | ret u => exact hq
      | next => exact hq.elim
      | brk => exact hq.elim
      | cont => exact hq.elim
  | false =>
    refine wpAny_Call_Name_kw (ld_blt I hg hm (by rfl) ?_)
    refine PyProof.Rows.callWith_builtin1 ?_ he (by rfl)
    refine thn body fun us s5 ⟨a, e, M⟩ => ?_
    subst e
    obtain ⟨⟨gI, hgen⟩, q⟩ := fin a s5 M (.inr trivial)
    refine call_function_tree F.kind_all F.plain_all F.entry_all (F.args_all1 _) ?_
    unfold Builtin.«all»
    refine wpAny_bind (m := oneArg "all" _) (wpAny_pure ?_)
    refine wpAny_bind (wpAny_pyIter_gen hgen ?_)
    refine wpAny_pure ⟨plainId_quiet F.plain_all_loop _, codeAny_mono q fun r s' hq => ?_⟩
    cases r with
    | error e => exact hq.elim
    | ok fl =>
      cases fl with
      | ret u => exact hq
      | next => exact hq.elim
      | brk => exact hq.elim
      | cont => exact hq.elim
theorem pe_gxS (hr : Room (k + 3) X.A) (hg : Gl X "sum") (hm : X.mg "sum" = none) (TB : LamX.TabB X.base X.mg c P) (hcode : X.env.code = .ref c) (hmT : (P, X.env.qual ++ "<genexpr>") ∈ TL) (hu : ∀ p ∈ TL, p.1 = P → p.2 = X.env.qual ++ "<genexpr>")
    (hN : X.N.Nodup) (ok : GxOk X.N X.env.scope scope own) (hi : PI X tg iter wi)
    (pg : ∀ (A : Around) (s4 : Shared) (H4 : Hp) (code : Value) (fp : List Addr), PG (gxCx X A s4 H4 (gxEnv X scope s4.heap.objs.size code) fp) tg g) (pt : ∀ (A : Around) (s4 : Shared) (H4 : Hp) (code : Value) (fp : List Addr), Room k (A.deeper (gxEnv X scope s4.heap.objs.size code)) → PTs (gxCx X A s4 H4 (gxEnv X scope s4.heap.objs.size code) fp) ifs tt)
    (pe : ∀ (A : Around) (s4 : Shared) (H4 : Hp) (code : Value) (fp : List Addr), Room k (A.deeper (gxEnv X scope s4.heap.objs.size code)) → PE (gxCx X A s4 H4 (gxEnv X scope s4.heap.objs.size code) fp) elt te)
    (hs : ∀ v, genFold iter X.env v = pure v := by intro _; rfl)
    (he : starEach [.GeneratorExp elt [⟨tg, iter, ifs, 0⟩] scope gpos] X.env = (false, eval (.GeneratorExp elt [⟨tg, iter, ifs, 0⟩] scope gpos) X.env) :: starEach [] X.env := by rfl) :
    PE X (.Call (.Name "sum" p) [.GeneratorExp elt [⟨tg, iter, ifs, 0⟩] scope gpos] [] pos) (tGxS TL wi g tt te (own.map (·.2))) := by
  refine ⟨fun pins s σ H Q I h => ?_⟩
  refine wpAny_Call_Name_kw (ld_blt I hg hm (by rfl) ?_)
  refine PyProof.Rows.callWith_builtin1 ?_ he (by rfl)
  rw [he]
  show wpAny _ _ (spliced ((false, eval (.GeneratorExp elt [⟨tg, iter, ifs, 0⟩] scope gpos) X.env) :: backTo pos (starEach [] X.env))) _ _ s
  refine Calls.spliced_cons (gx_make hr TB hcode hmT hu ok hi hs I h fun a s5 M => Calls.spliced_nil ?_)
  obtain ⟨gi, code, nm, qn, go, it, fp, tn, J, H3, s4, I4, T, st4, f4, ⟨W, ⟨m0, w0⟩, turn⟩, hgs, hgo, c1, c2, c3, hos, hb, hk, hns, hlt⟩ := M
  have hgI : ∀ h : Heap, h.get? a = some go → h.IsGen a gi := fun h e => ⟨go, nm, qn, e, c1, c2, c3⟩
  have nd : ∀ v, go.data ≠ .cell v := fun v z => by rw [c2] at z; cases z
  have naf : a ∉ fp := fun z => Nat.lt_asymm (f4 a z).2 hlt
  have rm : Room k (X.A.in1.in1.deeper (gxEnv X scope s4.heap.objs.size code)) := (hr.in1.in1).deeper _
  refine call_function_tree F.kind_sum F.plain_sum F.entry_sum (F.args_sum1 _) ?_
  unfold Builtin.«sum»
  simp only [List.length_cons, List.length_nil]
  rw [if_neg (by decide)]
  refine wpAny_bind (wpAny_of_eq (show Builtin.Builtins.bindParams "sum" ["start"] 0 { } = pure [none] from rfl) ?_)
  refine wpAny_bind (wpAny_pyIter_gen (hgI _ hgo) ?_)
  refine wpAny_bind (wpAny_mkInt ?_)
  refine wpAny_bind (wpAny_pure ?_)
  simp only [List.forIn_cons, List.forIn_nil]
  refine wpAny_bind (wpAny_bind (wpAny_bind (wpAny_isInstance (T := "int") (b := false) (typeIs_int _ _ _) PySem.sub_int_str ?_)))
  simp only [Bool.false_eq_true, if_false]
  refine wpAny_pure (wpAny_bind (wpAny_bind (wpAny_isInstance (T := "int") (b := false) (typeIs_int _ _ _) PySem.sub_int_bytes ?_)))
  simp only [Bool.false_eq_true, if_false]
  refine wpAny_pure (wpAny_bind (wpAny_bind (wpAny_isInstance (T := "int") (b := false) (typeIs_int _ _ _) PySem.sub_int_bytearray ?_)))
  simp only [Bool.false_eq_true, if_false]
  refine wpAny_pure (wpAny_pure ?_)
  refine wpAny_bind (wpAny_newObj_type ?_)
  have lt5 : a < s5.heap.objs.size := Heap.lt_size hgo
  have l4S : s4.heap.objs.size < s5.heap.objs.size := Nat.lt_trans hlt lt5
  have hSf : s5.heap.objs.size ∉ fp := fun z => Nat.lt_asymm (f4 _ z).2 l4S
  have ks : ∀ b o, s5.heap.get? b = some o → (s5.heap.push { cls := .type "list", data := .seq #[Value.int 0 s5.toks] }).get? b = some o := fun b o e => Heap.get?_push_of_some _ e
  have I6 := gx_ready (B := X.A.in1.in1) (code := code) (s6 := ({ s5 with toks := s5.toks + 1, heap := s5.heap.push { cls := .type "list", data := .seq #[Value.int 0 s5.toks] } } : Shared).setGen gi .running) (go := go) (so := { cls := .type "list", data := .seq #[Value.int 0 s5.toks] }) I4 ok hN f4 hr.hd I4.ok.frames
    (hns.imp fun m0 q => q.push _) (fun b o e => ks b o (hk b o e)) hos (allBare_setGen (s := ({ s5 with toks := s5.toks + 1, heap := s5.heap.push { cls := .type "list", data := .seq #[Value.int 0 s5.toks] } } : Shared)) hb rfl) hlt l4S (ks a go hgo) (Heap.get?_push_size _ rfl) nd (fun v z => by cases z)
  refine wpAny_pure ⟨plainId_quiet F.plain_sum_loop _, codeAny_mono (gx_sum_loop (R := fun r s' => match r with | .ok (.ret u) => L2.EP X pins σ Q u s' | .ok _ => False | .error _ => False) (W := W) (Nx := fun c i m y H4 => ∃ k, y = .int k ∧ ∃ m', m' < m ∧ W (c + k) (i + 1) m' H4) (Fi := fun c H => Q (.int c) H) (σ0 := wipe σ (own.map (·.2))) (g := gi) (tn := tn) (fp := fp) (s4 := s4) (H4 := H3) (env := gxEnv X scope s4.heap.objs.size code) (a := a) (go := go) (S := s5.heap.objs.size) hr.hd
      (by have := hr.dp; omega) hgI (Nat.ne_of_gt lt5) hSf (Nat.le_of_lt l4S) T.keep (fun s₁ h' c' H' so tA J' q hk' => ?_) (fun c i m y H nx => nx) m0 _ 0 s5.toks 0 0 (.inl rfl) (Heap.get?_push_size _ rfl) ⟨hgI _ (ks a go hgo), I4.nolimit.keeps fun b o e => ks b o (hk b o e), _, hgs, rfl, ?_⟩) fun r s' hq => ?_⟩
  · exact ⟨.int c', H', gx_back I4 f4 J' rfl hk', ⟨tA, rfl⟩, q⟩
  · exact gx_seg T naf hSf ok.co nd (fun c i m H w => turn c i m H w) (pg _ _ _ _ _) (pt _ _ _ _ _ rm) (pe _ _ _ _ _ rm) (Nat.le_refl m0) (c := 0) (i := 0) (H := H3) ⟨_, ⟨s5.toks, 0, rfl⟩, I6, T.keep _ _ _ st4 fun b _ o e => ks b o (hk b o e), fun b hb => (f4 b hb).1.1, w0⟩ rfl
  · cases r with
    | error e => exact hq.elim
    | ok fl =>
      cases fl with
      | ret u => exact hq
      | next => exact hq.elim
      | brk => exact hq.elim
      | cont => exact hq.elim
end
end TH
set_option Elab.async false
set_option linter.all false
set_option maxRecDepth 100000
set_option maxHeartbeats 2000000
/-! TB13: comprehensions, generator expressions. -/
namespace TH
open PySem PySem.Spec PyProof.Rows L2
section
variable {ε ε' α β γ : Type}
/-- a list comprehension: none: left out -/
def mapR (s : α → Res ε (Option β)) : List α → Res ε (List β)
  | [] => .ok []
  | x :: xs => (s x).bind fun o => (mapR s xs).bind fun ys => .ok (o.toList ++ ys)
/-- any (yes = true), all (yes = false) -/
def anyR (yes : Bool) (s : α → Res ε (Option Bool)) : List α → Res ε Bool
  | [] => .ok (!yes)
  | x :: xs => (s x).bind fun o => if o = some yes then .ok yes else anyR yes s xs
def sumR (s : α → Res ε (Option Int)) : List α → Int → Res ε Int
  | [], c => .ok c
  | x :: xs, c => (s x).bind fun o => sumR s xs (c + o.getD 0)
/-- one turn: the test, the element -/
def stepR {κ : Type} (ot : γ → Bool) (ov : κ → β) (t : Res ε γ) (v : Res ε' κ) : Res ε'' (Option β) := t.noE.bind fun c => if ot c = true then v.noE.bind fun y => .ok (some (ov y)) else .ok none
end
/-- slots forgotten -/
def wipeG (Γ : En) : List Nat → En
  | [] => Γ
  | v :: vs => (wipeG Γ vs).set v none
theorem wipeG_some {Γ : En} {i : Nat} {d : D} : ∀ {vs : List Nat}, (wipeG Γ vs)[i]? = some (some d) → Γ[i]? = some (some d) ∧ i ∉ vs
  | [], h => ⟨h, by simp⟩
  | v :: vs, h => by
    unfold wipeG at h
    by_cases hi : v = i
    · subst hi
      by_cases hv : v < (wipeG Γ vs).length
      · rw [List.getElem?_set_self hv] at h; cases h
      · rw [List.getElem?_eq_none (by simpa using hv)] at h; cases h
    · rw [List.getElem?_set_ne hi] at h
      obtain ⟨h1, h2⟩ := wipeG_some h
      exact ⟨h1, by simp only [List.mem_cons, not_or]; exact ⟨fun e => hi e.symm, h2⟩⟩
theorem wipeG_length (Γ : En) : ∀ vs : List Nat, (wipeG Γ vs).length = Γ.length
  | [] => rfl
  | v :: vs => by unfold wipeG; rw [List.length_set, wipeG_length Γ vs]
theorem wipe_get {σ : L2.St} {i : Nat} : ∀ {vs : List Nat}, i ∉ vs → (wipe σ vs)[i]? = σ[i]?
  | [], _ => rfl
  | v :: vs, h => by
    simp only [List.mem_cons, not_or] at h
    unfold wipe
    rw [List.getElem?_set_ne (Ne.symm h.1)]
    exact wipe_get h.2
theorem wipe_ext {σ τ : L2.St} : ∀ {vs : List Nat}, σ.length = τ.length → (∀ i, i ∉ vs → σ[i]? = τ[i]?) → wipe σ vs = wipe τ vs
  | [], hl, h => List.ext_getElem? fun i => h i (by simp)
  | v :: vs, hl, h => by
    apply List.ext_getElem?
    intro i
    have ls : (wipe σ (v :: vs)).length = (wipe τ (v :: vs)).length := by rw [wipe_length, wipe_length, hl]
    by_cases hi : i ∈ v :: vs
    · have none_ : ∀ (ρ : L2.St) (ws : List Nat), i ∈ ws → i < ρ.length → (wipe ρ ws)[i]? = some none := fun ρ ws => by
        induction ws with
        | nil => intro h; cases h
        | cons w ws ih =>
          intro hm hlt
          unfold wipe
          by_cases e : w = i
          · subst e
            rw [List.getElem?_set_self (by rw [wipe_length]; exact hlt)]
          · rw [List.getElem?_set_ne e]
            rcases List.mem_cons.mp hm with z | z
            · exact absurd z.symm e
            · exact ih z hlt
      by_cases hlt : i < σ.length
      · rw [none_ σ _ hi hlt, none_ τ _ hi (by rw [← hl]; exact hlt)]
      · rw [List.getElem?_eq_none (by rw [wipe_length]; omega), List.getElem?_eq_none (by rw [wipe_length]; omega)]
    · rw [wipe_get hi, wipe_get hi]
      exact h i hi
theorem wipe_wipe (σ : L2.St) (vs : List Nat) : wipe (wipe σ vs) vs = wipe σ vs := wipe_ext (by rw [wipe_length]) fun i hi => wipe_get hi
section
variable {TL : List (Addr × Str)} {K : PySem.W.Frag} {W : Own} {H : Hp} {Γ : En} {σ : L2.St}
theorem ER.wipe (e : ER K W Γ σ H) (vs : List Nat) : ER K W (wipeG Γ vs) (L2.wipe σ vs) H := ⟨by rw [wipeG_length, wipe_length]; exact e.len, fun i d hi => by
  obtain ⟨h1, h2⟩ := wipeG_some hi
  obtain ⟨v, a, b⟩ := e.at_ i d h1
  exact ⟨v, by rw [wipe_get h2]; exact a, b⟩⟩
end
/-! ### targets of comprehensions -/
def tGW (TL : List (Addr × Str)) (K : PySem.W.Frag) (vs : List Nat) (Γ : En) (h : SH) (d : D) (Γ' : En) : TG := fun v σ H Q => ∃ R, ER K (own R h) Γ σ H ∧ HR TL K R h H ∧ Rep K (own R h) H d v ∧ ∀ σ' H', L2.wipe σ' vs = L2.wipe σ vs → ER K (own R h) Γ' σ' H' → HR TL K R h H' → Fr R h h H H' → Q σ' H'
def tGWs (TL : List (Addr × Str)) (K : PySem.W.Frag) (vs : List Nat) (Γ : En) (h : SH) (ds : List D) (Γ' : En) : TGs := fun us σ H Q => ∃ R, ER K (own R h) Γ σ H ∧ HR TL K R h H ∧ Reps K (own R h) H ds us ∧ ∀ σ' H', L2.wipe σ' vs = L2.wipe σ vs → ER K (own R h) Γ' σ' H' → HR TL K R h H' → Fr R h h H H' → Q σ' H'
abbrev EGW (vs : List Nat) (TL : List (Addr × Str)) (X : Cx) (tg : Expr) (Γ : En) (h : SH) (d : D) (Γ' : En) : Prop := PG X tg (tGW TL X.K vs Γ h d Γ')
abbrev EGWs (vs : List Nat) (TL : List (Addr × Str)) (X : Cx) (tgs : List Expr) (Γ : En) (h : SH) (ds : List D) (Γ' : En) : Prop := PGs X tgs (tGWs TL X.K vs Γ h ds Γ')
section
variable {TL : List (Addr × Str)} {X : Cx} {Γ : En} {h : SH} {e : Expr} {es : List Expr} {pos : Pos} {d : D} {ds : List D} {vs : List Nat}
theorem egw_name (i : Nat) {x : Str} {Γ' : En} (hN : X.N.Nodup) (eΓ : Γ' = Γ.set i (some d) := by rfl) (hv : i ∈ vs := by decide) (hi : X.N[i]? = some x := by rfl) (hx : Loc X.env.scope x := by first | exact Or.inl rfl | exact Or.inr rfl)
    (hf : X.fn x = true ∨ X.env.scope.names.lookup x = some .local := by first | exact .inr rfl | exact .inl rfl) : EGW vs TL X (.Name x pos) Γ h d Γ' :=
  PGimp (pg_name hN hi hx hf) fun v σ H Q ⟨R, hE, hH, r, w⟩ => w _ H (wipe_ext (by simp) fun j hj => List.getElem?_set_ne fun z => hj (by rw [← z]; exact hv)) (by rw [eΓ]; exact hE.set r) hH (Fr.refl h H)
theorem egws_nil : EGWs vs TL X [] Γ h [] Γ := PGsimp pgs_nil fun v σ H Q ⟨R, hE, hH, r, w⟩ => ⟨by simpa only [Reps] using r, w _ H rfl hE hH (Fr.refl h H)⟩
theorem egws_cons {Γ1 Γ2 : En} (p : EGW vs TL X e Γ h d Γ1) (q : EGWs vs TL X es Γ1 h ds Γ2) (hs : (assignEach (e :: es) X.env).map (·.2) = assign e X.env :: (assignEach es X.env).map (·.2) := by rfl) : EGWs vs TL X (e :: es) Γ h (d :: ds) Γ2 :=
  PGsimp (pgs_cons p q hs) fun v σ H Q ⟨R, hE, hH, r, w⟩ => by
    simp only [Reps] at r
    obtain ⟨x, t, e, r1, r2⟩ := r
    exact ⟨x, t, e, R, hE, hH, r1, fun σ1 H1 e1 a b f => ⟨R, a, b, r2.fr f, fun σ2 H2 e2 a2 b2 f2 => w σ2 H2 (e2.trans e1) a2 b2 (f.trans f2)⟩⟩
theorem egw_tup {k : Nat} {Γ' : En} (hc : X.calm = true) (p : EGWs vs TL X es Γ h ds Γ') (hn : (assignEach es X.env).length = ds.length := by rfl) (hst : (assignEach es X.env).findIdx? (·.1) = none := by rfl) : EGW vs TL X (.Tuple es k pos) Γ h (.tup ds) Γ' :=
  PGimp (pg_tup (n := ds.length) hc p hn hst) fun v σ H Q ⟨R, hE, hH, r, w⟩ => by
    obtain ⟨a, xs, e, sq, rs⟩ := SqT.of_rep r
    exact ⟨a, xs, e, sq, rs.length.symm, R, hE, hH, rs, w⟩
end
/-! ### tests of a clause -/
abbrev ETs {ε β : Type} (TL : List (Addr × Str)) (X : Cx) (cA : CA) (Wx : WX) (ifs : List Expr) (Γ : En) (h : SH) (r : Res ε β) (out : β → Bool) (ho : β → SH) (he : ε → SH) : Prop := PTs X ifs (tT TL X.K cA Wx Γ h r out ho he)
section
variable {TL : List (Addr × Str)} {X : Cx} {cA : CA} {Wx : WX} {Γ : En} {h : SH} {ε β : Type} {he : ε → SH} {c : Expr}
theorem PTsimp {ifs : List Expr} {t t' : TT} (p : PTs X ifs t) (k : ∀ σ H Q, t' σ H Q → t σ H Q) : PTs X ifs t' := ⟨fun pins s σ H Q I q => p.run pins s σ H Q I (k σ H Q q)⟩
theorem ets_nil : ETs TL X cA Wx [] Γ h (.ok () : Res ε Unit) (fun _ => true) (fun _ => h) he := PTsimp pts_nil fun σ H Q ⟨R, hE, hH, w⟩ => w H hH (Fr.refl h H)
end
abbrev WF : WX := fun _ _ _ _ => False
/-- R and one address more -/
def R1 (R : Own) (a : Addr) : Own := fun p => R p ∨ p = a
section
variable {TL : List (Addr × Str)} {K : PySem.W.Frag} {R : Own} {h : SH} {H H' : Hp} {Γ : En} {σ : L2.St} {a : Addr} {o : HO}
theorem own_R1 {p : Addr} : own R h p → own (R1 R a) h p := fun z => z.elim (fun z => .inl (.inl z)) .inr
theorem Rep.out {d : D} {v : V} (r : Rep K (own (R1 R a) h) H d v) : Rep K (own R h) H d v := Rep.keep (fun p o n e nt => ⟨fun z => n (own_R1 z), o, e, Sim.refl o⟩) _ _ r
theorem Reps.out {d : List D} {v : List V} (r : Reps K (own (R1 R a) h) H d v) : Reps K (own R h) H d v := Reps.keep (fun p o n e nt => ⟨fun z => n (own_R1 z), o, e, Sim.refl o⟩) _ _ r
theorem keep_R1 (hn : H a = none) : ∀ p u, ¬ own R h p → H p = some u → NT u → ¬ own (R1 R a) h p ∧ ∃ u', upd H a o p = some u' ∧ Sim u u' := fun p u n e nt =>
  ⟨fun z => z.elim (fun z => z.elim (fun z => n (.inl z)) fun z => ne_of_none e hn z) fun z => n (.inr z), u, upd_keep hn p u e, Sim.refl u⟩
theorem ER.in1 (e : ER K (own R h) Γ σ H) (hn : H a = none) : ER K (own (R1 R a) h) Γ σ (upd H a o) := ⟨e.len, fun i d hi => let ⟨v, x, y⟩ := e.at_ i d hi; ⟨v, x, Rep.keep (keep_R1 hn) _ _ y⟩⟩
theorem ORep.keep {W W' : Own} {b : Addr} {o : O} (k : ∀ p u, ¬ W p → H p = some u → NT u → ¬ W' p ∧ ∃ u', H' p = some u' ∧ Sim u u') (eH : H' b = H b) (x : ORep K W H b o) : ORep K W' H' b o := by
  cases o with
  | lst ds => obtain ⟨xs, e, r⟩ := x; exact ⟨xs, eH.trans e, Reps.keep k _ _ r⟩
  | dic lk tk ks vs =>
    have dk : ∀ {tk ks xs}, DK H b tk ks xs → DK H' b tk ks xs := fun {tk ks xs} e => e.sim fun o ho _ => ⟨o, eH.trans ho, Sim.refl o⟩
    cases lk with
    | none => obtain ⟨xs, e, r, n⟩ := x; exact ⟨xs, dk e, Reps.keep k _ _ r, fun ob u z => n ob u (eH.symm.trans z)⟩
    | some u => obtain ⟨xs, e, r, n, m⟩ := x; exact ⟨xs, dk e, Reps.keep k _ _ r, eH.trans n, m⟩
  | ins C ns vs => obtain ⟨dx, fs, e, en, r⟩ := x; exact ⟨dx, fs, eH.trans e, en, Reps.keep k _ _ r⟩
  | dice => obtain ⟨x, y, z, e, r⟩ := x; exact ⟨x, y, z, eH.trans e, r⟩
  | tupN ds => obtain ⟨xs, ob, e, n, r⟩ := x; exact ⟨xs, ob, eH.trans e, n, Reps.keep k _ _ r⟩
theorem HR.in1 (e : HR TL K R h H) (hn : H a = none) (ho : NU o) : HR TL K (R1 R a) h (upd H a o) := by
  have na := e.notown hn
  refine ⟨e.nd, fun p hp => ?_, fun q hq => ?_, e.tb.ext (upd_keep hn)⟩
  · rcases hp with hp | hp
    · obtain ⟨⟨u, eu, nu⟩, z⟩ := e.ap p hp
      exact ⟨⟨u, upd_keep hn p u eu, nu⟩, z⟩
    · rw [hp]
      exact ⟨⟨o, upd_same, ho⟩, fun z => na (.inr z)⟩
  · obtain ⟨u, eu, _⟩ := (e.at_ q hq).there
    exact (e.at_ q hq).keep (keep_R1 hn) (upd_ne (ne_of_none eu hn))
theorem HR.out1 (e : HR TL K (R1 R a) h H) : HR TL K R h H :=
  ⟨e.nd, fun p hp => e.ap p (.inl hp), fun q hq => (e.at_ q hq).keep (fun p u n eu _ => ⟨fun z => n (own_R1 z), u, eu, Sim.refl u⟩) rfl, e.tb⟩
theorem HR.upd1 {xs ys : List V} (e : HR TL K (R1 R a) h H) (ea : H a = some (.lst xs)) : HR TL K (R1 R a) h (upd H a (.lst ys)) := by
  have nd := (e.ap a (.inr rfl)).2
  refine ⟨e.nd, fun p hp => ?_, fun q hq => ?_, fun p hp => ?_⟩
  · refine ⟨?_, (e.ap p hp).2⟩
    by_cases z : p = a
    · rw [z]; exact ⟨_, upd_same, nu_of⟩
    · rw [upd_ne z]; exact (e.ap p hp).1
  · have nq : q.1 ≠ a := fun z => nd (by rw [← z]; exact List.mem_map.mpr ⟨q, hq, rfl⟩)
    exact (e.at_ q hq).keep (fun p u n eu _ => ⟨n, u, by rw [upd_ne (fun z => n (.inl (.inr z)))]; exact eu, Sim.refl u⟩) (upd_ne nq)
  · obtain ⟨ps, x1, x2, x3⟩ := e.tb p hp
    have np : p.1 ≠ a := fun z => by
      rw [z, ea] at x1
      cases x1
    refine ⟨ps, by rw [upd_ne np]; exact x1, x2, fun pos cv hc => ?_⟩
    obtain ⟨c, y1, y2⟩ := x3 pos cv hc
    have nc : c ≠ a := fun z => by
      rw [z, ea] at y2
      cases y2
    exact ⟨c, y1, by rw [upd_ne nc]; exact y2⟩
theorem Fr.out1 (f : Fr (R1 R a) h h H H') : Fr R h h H H' := fun p o n e nt => let ⟨x, o', y, z, w⟩ := f p o n e nt; ⟨x, o', y, z, fun q => w (.inl q)⟩
theorem Fr.in1 (f : Fr R h h H H') (hn : H a = none) : Fr (R1 R a) h h H H' := fun p o n e nt => let ⟨x, o', y, z, w⟩ := f p o n e nt; ⟨x, o', y, z, fun q => q.elim w fun q => by rw [q, hn] at e; cases e⟩
theorem Fr.upd1 (f : Fr R h h H H') (hn : H a = none) : Fr R h h H (upd H' a o) := fun p u n e nt => let ⟨x, o', y, z, w⟩ := f p u n e nt; ⟨x, o', by rw [upd_ne (ne_of_none e hn)]; exact y, z, w⟩
theorem keep_upd1 (p : Addr) (u : HO) (n : ¬ own (R1 R a) h p) (e : H p = some u) (nt : NT u) : ¬ own (R1 R a) h p ∧ ∃ u', upd H a o p = some u' ∧ Sim u u' := ⟨n, u, by rw [upd_ne (fun z => n (.inl (.inr z)))]; exact e, Sim.refl u⟩
end
section
variable {TL : List (Addr × Str)} {X : Cx} {cA : CA} {Wx : WX} {Γ : En} {h : SH} {ε ε1 ε2 α β β0 γ κ : Type} {he : ε → SH} {het : ε1 → SH} {hee : ε2 → SH} {tg elt iter : Expr} {ifs : List Expr} {scope : Scope} {pos : Pos} {own' : List (Str × Nat)}
theorem PTsex {ι : Type} {ifs : List Expr} {t : ι → TT} (p : ∀ i, PTs X ifs (t i)) : PTs X ifs fun σ H Q => ∃ i, t i σ H Q := ⟨fun pins s σ H Q I ⟨i, q⟩ => (p i).run pins s σ H Q I q⟩
/-- [elt for tg in iter if ..] -/
theorem lc_read {vs : List Nat} {re : Res ε β0} {out : β0 → List D} {kp : β0 → SH → Prop} {xs : β0 → List α} {f : α → D} {Γb : α → En} {rt : α → Res ε1 γ} {ot : α → γ → Bool} {rv : α → Res ε2 κ} {ov : α → κ → β} {fo : β → D}
    (ex : ∀ b, out b = (xs b).map f) (ekp : ∀ b, kp b h) {σ : L2.St} {H : Hp} {Q : VK}
    (q : tE TL X.K cA Wx Γ h (re.bind fun b => mapR (fun x => stepR (ot x) (ov x) (rt x) (rv x)) (xs b)) (fun ys => .lst (ys.map fo)) (fun _ => h) he σ H Q) :
    tLc (tI TL X.K cA Wx Γ h re out (fun _ => h) he kp) (fun v σ H Q => ∃ x, tGW TL X.K vs (wipeG Γ vs) h (f x) (Γb x) v σ H Q) (fun σ H Q => ∃ x, tT TL X.K cA WF (Γb x) h (rt x) (ot x) (fun _ => h) het σ H Q) (fun σ H Q => ∃ x, tE TL X.K cA WF (Γb x) h (rv x) (fun y => fo (ov x y)) (fun _ => h) hee σ H Q) vs σ H Q := by
    obtain ⟨R, hE, hH, w⟩ := q
    refine ⟨R, hE, hH, Res.wp_mono (fun b w1 J H1 h1 f1 dw => ?_) (fun _ _ k => k) (Res.wp_bind.mp w)⟩
    intro Dd hD
    have lx : (out b).length = (xs b).length := by rw [ex, List.length_map]
    have lz : (xs b).length ≤ sizeLine := by rw [← lx]; exact dw.1
    let PP : List β → Prop := fun ys => ∀ v H', HR TL X.K R h H' → Fr R h h H H' → Rep X.K (own R h) H' (.lst (ys.map fo)) v → Q v H'
    let EE : Ex → ε → Prop := fun x e => ∀ cls d H', HR TL X.K R (he e) H' → Fr R h (he e) H H' → XR cA x cls d H' → Wx cls d σ H'
    have w2 : (mapR (fun x => stepR (ot x) (ov x) (rt x) (rv x)) (xs b)).wp PP EE := w1
    refine ⟨fun i m H' => m = (xs b).length - i ∧ i ≤ (xs b).length ∧ ∃ (ys : List β) (acc : List V), HR TL X.K (R1 R Dd) h H' ∧ Fr R h h H1 H' ∧ H' Dd = some (.lst acc) ∧ Reps X.K (own (R1 R Dd) h) H' (ys.map fo) acc ∧ ys.length ≤ i ∧
      (mapR (fun x => stepR (ot x) (ov x) (rt x) (rv x)) ((xs b).drop i)).wp (fun zs => PP (ys ++ zs)) EE ∧ ER X.K (own (R1 R Dd) h) (wipeG Γ vs) (L2.wipe σ vs) H',
      ⟨_, rfl, Nat.zero_le _, [], [], h1.in1 hD nu_of, (Fr.refl h H1).upd1 hD, upd_same, .nil, Nat.le_refl _, by rw [List.drop_zero]; exact w2, ((hE.fr f1).in1 hD).wipe _⟩, ?_⟩
    rintro i m H' ⟨rfl, hi, ys, acc, e1, e2, e3, e4, e5, e6, e7⟩
    obtain ⟨d1, d2, d3⟩ := dw.2 (R1 R Dd) (fun _ z => .inl z) (fun p z => z.elim .inl fun z => .inr (by rw [z]; exact hD)) i h H' (ekp b) e1 (e2.in1 hD)
    by_cases hlt : i < (xs b).length
    · refine .inr ⟨d1 (by omega), fun H'' => i + 1 ≤ (xs b).length ∧ ∃ (ys : List β) (acc : List V), HR TL X.K (R1 R Dd) h H'' ∧ Fr R h h H1 H'' ∧ H'' Dd = some (.lst acc) ∧ Reps X.K (own (R1 R Dd) h) H'' (ys.map fo) acc ∧ ys.length ≤ i + 1 ∧
        (mapR (fun x => stepR (ot x) (ov x) (rt x) (rv x)) ((xs b).drop (i + 1))).wp (fun zs => PP (ys ++ zs)) EE ∧ ER X.K (own (R1 R Dd) h) (wipeG Γ vs) (L2.wipe σ vs) H'', fun H'' ⟨q1, q2⟩ => ⟨_, by omega, rfl, q1, q2⟩, fun x H'' y => ?_⟩
      have hx : (xs b)[i]? = some (xs b)[i] := List.getElem?_eq_getElem hlt
      have hd : (out b)[i]? = some (f (xs b)[i]) := by rw [ex, List.getElem?_map, hx] <;> rfl
      obtain ⟨g1, g2, g3⟩ := d3 x H'' _ y hd
      refine ⟨(xs b)[i], R1 R Dd, e7.fr g2, g1, g3, fun σ2 H2 z2 a2 b2 f2 => ⟨z2.trans (wipe_wipe _ _), (xs b)[i], R1 R Dd, a2, b2, ?_⟩⟩
      have hdr : (xs b).drop i = (xs b)[i] :: (xs b).drop (i + 1) := List.drop_eq_getElem_cons hlt
      rw [hdr] at e6
      have e8 := Res.wp_bind.mp e6
      unfold stepR at e8
      have e9 := Res.wp_noE.mp (Res.wp_bind.mp e8)
      refine Res.wp_mono (fun c w3 H3 h3 f3 => ?_) (fun x e k => k.elim) e9
      have dAt : ∀ {Ha Hb : Hp}, Fr (R1 R Dd) h h Ha Hb → ∀ {ac : List V}, Ha Dd = some (.lst ac) → Hb Dd = some (.lst ac) := fun {Ha Hb} q {ac} ea => by
        obtain ⟨_, o', x1, _, x2⟩ := q Dd _ (e1.ap Dd (.inr rfl)).2 ea nt_of
        rw [x1, x2 (.inr rfl)]
      have f23 := (g2.trans f2).trans f3
      cases ec : ot (xs b)[i] c with
      | false =>
        rw [ec, if_neg Bool.false_ne_true] at w3
        dsimp only
        rw [if_neg Bool.false_ne_true]
        refine ⟨hlt, ys, acc, h3, e2.trans f23.out1, dAt f23 e3, e4.fr f23, Nat.le_succ_of_le e5, ?_, ?_⟩
        · exact Res.wp_mono (fun zs k => k) (fun _ _ k => k) (Res.wp_bind.mp w3)
        · exact e7.fr f23
      | true =>
        rw [ec, if_pos rfl] at w3
        dsimp only
        rw [if_pos rfl]
        refine ⟨(xs b)[i], R1 R Dd, a2.fr f3, h3, Res.wp_mono (fun yv w4 v H4 h4 f4 r4 => ?_) (fun x e k => k.elim) (Res.wp_noE.mp (Res.wp_bind.mp w3))⟩
        have f234 := f23.trans f4
        have hacc := dAt f234 e3
        have la : acc.length = ys.length := by have := e4.length; rw [List.length_map] at this; exact this.symm
        refine ⟨acc, hacc, by omega, hlt, ys ++ [ov (xs b)[i] yv], acc ++ [v], h4.upd1 hacc, (e2.trans f234.out1).upd1 hD, upd_same, ?_, by simp; omega, ?_, ?_⟩
        · rw [List.map_append]
          exact Reps.keep keep_upd1 _ _ ((e4.fr f234).app (.cons r4 .nil))
        · refine Res.wp_mono (fun zs k => ?_) (fun _ _ k => k) (Res.wp_bind.mp w4)
          have k : PP (ys ++ ((some (ov (xs b)[i] yv)).toList ++ zs)) := k
          rw [List.append_assoc]
          exact k
        · exact (fun q : ER X.K (own (R1 R Dd) h) _ _ H4 => ⟨q.len, fun j d hj => let ⟨v, x, y⟩ := q.at_ j d hj; ⟨v, x, Rep.keep keep_upd1 _ _ y⟩⟩) (e7.fr f234)
    · refine .inl ⟨d2 (by omega), ?_⟩
      have hdr : (xs b).drop i = [] := List.drop_eq_nil_of_le (by omega)
      rw [hdr] at e6
      have e6 : PP (ys ++ []) := e6
      rw [List.append_nil] at e6
      refine e6 _ H' e1.out1 (f1.trans e2) ?_
      simp only [Rep]
      exact ⟨Dd, acc, rfl, h1.notown hD, e3, e4.out⟩
theorem ev_lc {re : Res ε β0} {out : β0 → List D} {kp : β0 → SH → Prop} {xs : β0 → List α} {f : α → D} {Γb : α → En} {rt : α → Res ε1 γ} {ot : α → γ → Bool} {rv : α → Res ε2 κ} {ov : α → κ → β} {fo : β → D}
    (pi : EI TL X cA Wx tg iter Γ h re out (fun _ => h) he kp) (hc : X.calm = true) (hN : X.N.Nodup) (ok : BlkOk X.N X.env.scope scope own')
    (pg : ∀ (s : Shared) (H : Hp) (C : Addr) (cl : List (Str × Addr)) (fp : List Addr) x, PG (X.blk s H scope (compEnvC scope cl C X.env) fp) tg (tGW TL X.K (own'.map (·.2)) (wipeG Γ (own'.map (·.2))) h (f x) (Γb x)))
    (pt : ∀ (s : Shared) (H : Hp) (C : Addr) (cl : List (Str × Addr)) (fp : List Addr) x, PTs (X.blk s H scope (compEnvC scope cl C X.env) fp) ifs (tT TL X.K cA WF (Γb x) h (rt x) (ot x) (fun _ => h) het))
    (pe : ∀ (s : Shared) (H : Hp) (C : Addr) (cl : List (Str × Addr)) (fp : List Addr) x, PE (X.blk s H scope (compEnvC scope cl C X.env) fp) elt (tE TL X.K cA WF (Γb x) h (rv x) (fun y => fo (ov x y)) (fun _ => h) hee))
    (ex : ∀ b, out b = (xs b).map f := by intros; rfl) (ekp : ∀ b, kp b h := by intros; trivial) (hs : ∀ x, foldedSetIterable iter X.env x = pure x := by intro _; rfl) :
    EV TL X cA Wx (.ListComp elt [⟨tg, iter, ifs, 0⟩] scope pos) Γ h (re.bind fun b => mapR (fun x => stepR (ot x) (ov x) (rt x) (rv x)) (xs b)) (fun ys => .lst (ys.map fo)) (fun _ => h) he :=
  PEimp (pe_lc hc hN pi ok (fun s H C cl fp => PGex (pg s H C cl fp)) (fun s H C cl fp => PTsex (pt s H C cl fp)) (fun s H C cl fp => PEex (pe s H C cl fp)) hs) fun σ H Q q => lc_read ex ekp q
end
end TH
set_option Elab.async false
set_option linter.all false
set_option maxRecDepth 100000
set_option maxHeartbeats 2000000
/-! TB14: any, all, sum of generator expressions. -/
namespace TH
open PySem PySem.Spec PyProof.Rows L2
section
variable {TL : List (Addr × Str)} {X : Cx} {cA : CA} {Wx : WX} {Γ : En} {h : SH} {ε ε1 ε2 α β β0 γ κ : Type} {he : ε → SH} {het : ε1 → SH} {hee : ε2 → SH} {tg elt iter : Expr} {ifs : List Expr} {scope : Scope} {pos gpos p : Pos} {own' : List (Str × Nat)} {c P : Addr} {k : Nat}
theorem ev_gxB (yes : Bool) {re : Res ε β0} {out : β0 → List D} {kp : β0 → SH → Prop} {xs : β0 → List α} {f : α → D} {Γb : α → En} {rt : α → Res ε1 γ} {ot : α → γ → Bool} {rv : α → Res ε2 κ} {ov : α → κ → Bool}
    (pi : EI TL X cA Wx tg iter Γ h re out (fun _ => h) he kp) (hr : Room (k + 3) X.A) (hg : Gl X (if yes = true then "any" else "all")) (hm : X.mg (if yes = true then "any" else "all") = none) (TB : LamX.TabB X.base X.mg c P) (hcode : X.env.code = .ref c) (hmT : (P, X.env.qual ++ "<genexpr>") ∈ TL) (hu : ∀ p ∈ TL, p.1 = P → p.2 = X.env.qual ++ "<genexpr>")
    (hN : X.N.Nodup) (ok : GxOk X.N X.env.scope scope own')
    (pg : ∀ (A : Around) (s4 : Shared) (H4 : Hp) (code : Value) (fp : List Addr) x, PG (gxCx X A s4 H4 (gxEnv X scope s4.heap.objs.size code) fp) tg (tGW TL X.K (own'.map (·.2)) (wipeG Γ (own'.map (·.2))) h (f x) (Γb x)))
    (pt : ∀ (A : Around) (s4 : Shared) (H4 : Hp) (code : Value) (fp : List Addr), Room k (A.deeper (gxEnv X scope s4.heap.objs.size code)) → ∀ x, PTs (gxCx X A s4 H4 (gxEnv X scope s4.heap.objs.size code) fp) ifs (tT TL X.K cA WF (Γb x) h (rt x) (ot x) (fun _ => h) het))
    (pe : ∀ (A : Around) (s4 : Shared) (H4 : Hp) (code : Value) (fp : List Addr), Room k (A.deeper (gxEnv X scope s4.heap.objs.size code)) → ∀ x, PE (gxCx X A s4 H4 (gxEnv X scope s4.heap.objs.size code) fp) elt (tE TL X.K cA WF (Γb x) h (rv x) (fun y => .bl (ov x y)) (fun _ => h) hee))
    (ex : ∀ b, out b = (xs b).map f := by intros; rfl) (ekp : ∀ b, kp b h := by intros; trivial)
    (hs : ∀ v, genFold iter X.env v = pure v := by intro _; rfl)
    (hst : starEach [.GeneratorExp elt [⟨tg, iter, ifs, 0⟩] scope gpos] X.env = (false, eval (.GeneratorExp elt [⟨tg, iter, ifs, 0⟩] scope gpos) X.env) :: starEach [] X.env := by rfl) :
    EV TL X cA Wx (.Call (.Name (if yes = true then "any" else "all") p) [.GeneratorExp elt [⟨tg, iter, ifs, 0⟩] scope gpos] [] pos) Γ h (re.bind fun b => anyR yes (fun x => stepR (ot x) (ov x) (rt x) (rv x)) (xs b)) (fun b => .bl b) (fun _ => h) he :=
  PEimp (pe_gxB yes hr hg hm TB hcode hmT hu hN ok pi (fun A s4 H4 code fp => PGex (pg A s4 H4 code fp)) (fun A s4 H4 code fp rm => PTsex (pt A s4 H4 code fp rm)) (fun A s4 H4 code fp rm => PEex (pe A s4 H4 code fp rm)) hs hst) fun σ H Q ⟨R, hE, hH, w⟩ => by
    refine ⟨R, hE, hH, Res.wp_mono (fun b w1 J H1 h1 f1 dw => ⟨h1.tb, fun H2 eN tN => ?_⟩) (fun _ _ k => k) (Res.wp_bind.mp w)⟩
    have lx : (out b).length = (xs b).length := by rw [ex, List.length_map]
    let PP : Bool → Prop := fun y => ∀ v H', HR TL X.K R h H' → Fr R h h H H' → Rep X.K (own R h) H' (.bl y) v → Q v H'
    let EE : Ex → ε → Prop := fun x e => ∀ cls d H', HR TL X.K R (he e) H' → Fr R h (he e) H H' → XR cA x cls d H' → Wx cls d σ H'
    have w2 : (anyR yes (fun x => stepR (ot x) (ov x) (rt x) (rv x)) (xs b)).wp PP EE := w1
    have g0 : Fr R h h H1 H2 := Fr.extN eN
    refine ⟨fun i m H' => m = (xs b).length - i ∧ i ≤ (xs b).length ∧ HR TL X.K R h H' ∧ Fr R h h H1 H' ∧
      (anyR yes (fun x => stepR (ot x) (ov x) (rt x) (rv x)) ((xs b).drop i)).wp PP EE ∧ ER X.K (own R h) (wipeG Γ (own'.map (·.2))) (L2.wipe σ (own'.map (·.2))) H',
      ⟨_, rfl, Nat.zero_le _, h1.extN eN tN, g0, by rw [List.drop_zero]; exact w2, (hE.fr (f1.trans g0)).wipe _⟩, ?_⟩
    rintro i m H' ⟨rfl, hi, e1, e2, e6, e7⟩
    obtain ⟨d1, d2, d3⟩ := dw.2 R (fun _ z => z) (fun _ z => .inl z) i h H' (ekp b) e1 e2
    by_cases hlt : i < (xs b).length
    · refine .inr ⟨d1 (by omega), by omega, fun x H'' y => ?_⟩
      have hx : (xs b)[i]? = some (xs b)[i] := List.getElem?_eq_getElem hlt
      have hd : (out b)[i]? = some (f (xs b)[i]) := by rw [ex, List.getElem?_map, hx] <;> rfl
      obtain ⟨g1, g2, g3⟩ := d3 x H'' _ y hd
      refine ⟨(xs b)[i], R, e7.fr g2, g1, g3, fun σ2 H2 z2 a2 b2 f2 => ⟨z2.trans (wipe_wipe _ _), (xs b)[i], R, a2, b2, ?_⟩⟩
      have hdr : (xs b).drop i = (xs b)[i] :: (xs b).drop (i + 1) := List.drop_eq_getElem_cons hlt
      rw [hdr] at e6
      have e8 := Res.wp_bind.mp e6
      unfold stepR at e8
      have e9 := Res.wp_noE.mp (Res.wp_bind.mp e8)
      refine Res.wp_mono (fun c w3 H3 h3 f3 => ?_) (fun x e k => k.elim) e9
      have f23 := (g2.trans f2).trans f3
      cases ec : ot (xs b)[i] c with
      | false =>
        rw [ec, if_neg Bool.false_ne_true] at w3
        dsimp only
        rw [if_neg Bool.false_ne_true]
        refine ⟨_, by omega, rfl, hlt, h3, e2.trans f23, ?_, e7.fr f23⟩
        have w4 : (if (none : Option Bool) = some yes then Res.ok yes else anyR yes (fun x => stepR (ot x) (ov x) (rt x) (rv x)) ((xs b).drop (i + 1))).wp PP EE := w3
        rw [if_neg (by simp)] at w4
        exact w4
      | true =>
        rw [ec, if_pos rfl] at w3
        dsimp only
        rw [if_pos rfl]
        refine ⟨(xs b)[i], R, a2.fr f3, h3, Res.wp_mono (fun yv w4 v H4 h4 f4 r4 => ?_) (fun x e k => k.elim) (Res.wp_noE.mp (Res.wp_bind.mp w3))⟩
        have f234 := f23.trans f4
        have w5 : (if some (ov (xs b)[i] yv) = some yes then Res.ok yes else anyR yes (fun x => stepR (ot x) (ov x) (rt x) (rv x)) ((xs b).drop (i + 1))).wp PP EE := w4
        refine ⟨ov (xs b)[i] yv, r4.bl_eq, fun z => ?_, fun z => ?_⟩
        · rw [z, if_pos rfl] at w5
          have w6 : PP yes := w5
          exact w6 _ H4 h4 ((f1.trans e2).trans f234) Rep.bl
        · rw [if_neg (by rw [z]; simp)] at w5
          exact ⟨_, by omega, rfl, hlt, h4, e2.trans f234, w5, e7.fr f234⟩
    · refine .inl ⟨d2 (by omega), ?_⟩
      have hdr : (xs b).drop i = [] := List.drop_eq_nil_of_le (by omega)
      rw [hdr] at e6
      have e6 : PP (!yes) := e6
      exact e6 _ H' e1 (f1.trans e2) Rep.bl
theorem ev_gxS {re : Res ε β0} {out : β0 → List D} {kp : β0 → SH → Prop} {xs : β0 → List α} {f : α → D} {Γb : α → En} {rt : α → Res ε1 γ} {ot : α → γ → Bool} {rv : α → Res ε2 κ} {ov : α → κ → Int}
    (pi : EI TL X cA Wx tg iter Γ h re out (fun _ => h) he kp) (hr : Room (k + 3) X.A) (hg : Gl X "sum") (hm : X.mg "sum" = none) (TB : LamX.TabB X.base X.mg c P) (hcode : X.env.code = .ref c) (hmT : (P, X.env.qual ++ "<genexpr>") ∈ TL) (hu : ∀ p ∈ TL, p.1 = P → p.2 = X.env.qual ++ "<genexpr>")
    (hN : X.N.Nodup) (ok : GxOk X.N X.env.scope scope own')
    (pg : ∀ (A : Around) (s4 : Shared) (H4 : Hp) (code : Value) (fp : List Addr) x, PG (gxCx X A s4 H4 (gxEnv X scope s4.heap.objs.size code) fp) tg (tGW TL X.K (own'.map (·.2)) (wipeG Γ (own'.map (·.2))) h (f x) (Γb x)))
    (pt : ∀ (A : Around) (s4 : Shared) (H4 : Hp) (code : Value) (fp : List Addr), Room k (A.deeper (gxEnv X scope s4.heap.objs.size code)) → ∀ x, PTs (gxCx X A s4 H4 (gxEnv X scope s4.heap.objs.size code) fp) ifs (tT TL X.K cA WF (Γb x) h (rt x) (ot x) (fun _ => h) het))
    (pe : ∀ (A : Around) (s4 : Shared) (H4 : Hp) (code : Value) (fp : List Addr), Room k (A.deeper (gxEnv X scope s4.heap.objs.size code)) → ∀ x, PE (gxCx X A s4 H4 (gxEnv X scope s4.heap.objs.size code) fp) elt (tE TL X.K cA WF (Γb x) h (rv x) (fun y => .int (ov x y)) (fun _ => h) hee))
    (ex : ∀ b, out b = (xs b).map f := by intros; rfl) (ekp : ∀ b, kp b h := by intros; trivial)
    (hs : ∀ v, genFold iter X.env v = pure v := by intro _; rfl)
    (hst : starEach [.GeneratorExp elt [⟨tg, iter, ifs, 0⟩] scope gpos] X.env = (false, eval (.GeneratorExp elt [⟨tg, iter, ifs, 0⟩] scope gpos) X.env) :: starEach [] X.env := by rfl) :
    EV TL X cA Wx (.Call (.Name "sum" p) [.GeneratorExp elt [⟨tg, iter, ifs, 0⟩] scope gpos] [] pos) Γ h (re.bind fun b => sumR (fun x => stepR (ot x) (ov x) (rt x) (rv x)) (xs b) 0) (fun b => .int b) (fun _ => h) he :=
  PEimp (pe_gxS hr hg hm TB hcode hmT hu hN ok pi (fun A s4 H4 code fp => PGex (pg A s4 H4 code fp)) (fun A s4 H4 code fp rm => PTsex (pt A s4 H4 code fp rm)) (fun A s4 H4 code fp rm => PEex (pe A s4 H4 code fp rm)) hs hst) fun σ H Q ⟨R, hE, hH, w⟩ => by
    refine ⟨R, hE, hH, Res.wp_mono (fun b w1 J H1 h1 f1 dw => ⟨h1.tb, fun H2 eN tN => ?_⟩) (fun _ _ k => k) (Res.wp_bind.mp w)⟩
    have lx : (out b).length = (xs b).length := by rw [ex, List.length_map]
    let PP : Int → Prop := fun y => ∀ v H', HR TL X.K R h H' → Fr R h h H H' → Rep X.K (own R h) H' (.int y) v → Q v H'
    let EE : Ex → ε → Prop := fun x e => ∀ cls d H', HR TL X.K R (he e) H' → Fr R h (he e) H H' → XR cA x cls d H' → Wx cls d σ H'
    have w2 : (sumR (fun x => stepR (ot x) (ov x) (rt x) (rv x)) (xs b) 0).wp PP EE := w1
    have g0 : Fr R h h H1 H2 := Fr.extN eN
    refine ⟨fun c i m H' => m = (xs b).length - i ∧ i ≤ (xs b).length ∧ HR TL X.K R h H' ∧ Fr R h h H1 H' ∧
      (sumR (fun x => stepR (ot x) (ov x) (rt x) (rv x)) ((xs b).drop i) c).wp PP EE ∧ ER X.K (own R h) (wipeG Γ (own'.map (·.2))) (L2.wipe σ (own'.map (·.2))) H',
      ⟨_, rfl, Nat.zero_le _, h1.extN eN tN, g0, by rw [List.drop_zero]; exact w2, (hE.fr (f1.trans g0)).wipe _⟩, ?_⟩
    rintro c i m H' ⟨rfl, hi, e1, e2, e6, e7⟩
    obtain ⟨d1, d2, d3⟩ := dw.2 R (fun _ z => z) (fun _ z => .inl z) i h H' (ekp b) e1 e2
    by_cases hlt : i < (xs b).length
    · refine .inr ⟨d1 (by omega), by omega, fun x H'' y => ?_⟩
      have hx : (xs b)[i]? = some (xs b)[i] := List.getElem?_eq_getElem hlt
      have hd : (out b)[i]? = some (f (xs b)[i]) := by rw [ex, List.getElem?_map, hx] <;> rfl
      obtain ⟨g1, g2, g3⟩ := d3 x H'' _ y hd
      refine ⟨(xs b)[i], R, e7.fr g2, g1, g3, fun σ2 H2 z2 a2 b2 f2 => ⟨z2.trans (wipe_wipe _ _), (xs b)[i], R, a2, b2, ?_⟩⟩
      have hdr : (xs b).drop i = (xs b)[i] :: (xs b).drop (i + 1) := List.drop_eq_getElem_cons hlt
      rw [hdr] at e6
      have e8 := Res.wp_bind.mp e6
      unfold stepR at e8
      have e9 := Res.wp_noE.mp (Res.wp_bind.mp e8)
      refine Res.wp_mono (fun c3 w3 H3 h3 f3 => ?_) (fun x e k => k.elim) e9
      have f23 := (g2.trans f2).trans f3
      cases ec : ot (xs b)[i] c3 with
      | false =>
        rw [ec, if_neg Bool.false_ne_true] at w3
        dsimp only
        rw [if_neg Bool.false_ne_true]
        refine ⟨_, by omega, rfl, hlt, h3, e2.trans f23, ?_, e7.fr f23⟩
        have w4 : (sumR (fun x => stepR (ot x) (ov x) (rt x) (rv x)) ((xs b).drop (i + 1)) (c + 0)).wp PP EE := w3
        rw [Int.add_zero] at w4
        exact w4
      | true =>
        rw [ec, if_pos rfl] at w3
        dsimp only
        rw [if_pos rfl]
        refine ⟨(xs b)[i], R, a2.fr f3, h3, Res.wp_mono (fun yv w4 v H4 h4 f4 r4 => ?_) (fun x e k => k.elim) (Res.wp_noE.mp (Res.wp_bind.mp w3))⟩
        have f234 := f23.trans f4
        exact ⟨ov (xs b)[i] yv, r4.int_eq, _, by omega, rfl, hlt, h4, e2.trans f234, w4, e7.fr f234⟩
    · refine .inl ⟨d2 (by omega), ?_⟩
      have hdr : (xs b).drop i = [] := List.drop_eq_nil_of_le (by omega)
      rw [hdr] at e6
      have e6 : PP c := e6
      exact e6 _ H' e1 (f1.trans e2) Rep.int
end
end TH
set_option Elab.async false
set_option linter.all false
set_option maxRecDepth 100000
set_option maxHeartbeats 2000000
/-! TB15: built-ins of one or two arguments: len, list, tuple, sum, abs, int, min, max; sequences joined, repeated, cut. -/
namespace TH
open PySem PySem.Spec PyProof.Rows L2
section
variable {TL : List (Addr × Str)} {X : Cx} {cA : CA} {Wx : WX} {Γ : En} {h : SH} {ε β β1 β2 γ : Type} {he : ε → SH} {e a b c : Expr} {pos p : Pos} {d da db dc : D} {ds es : List D} {x : Str}
/-- an operation on one value -/
def rUn {γ : Type} (TL : List (Addr × Str)) (K : PySem.W.Frag) (h : SH) (da : D) (r : Option γ) (out : γ → D) : V → Hp → VK → Prop := fun x H Q => ∃ R, HR TL K R h H ∧ Rep K (own R h) H da x ∧
  ∃ g, r = some g ∧ ∀ v H', HR TL K R h H' → Fr R h h H H' → Rep K (own R h) H' (out g) v → Q v H'
structure One (X : Cx) (P : (V → Hp → VK → Prop) → Prop) (e a : Expr) : Prop where
  pe : ∀ {rr : V → Hp → VK → Prop} {ta : TE}, P rr → PE X a ta → PE X e (tUn rr ta)
  ex : ∀ {ι : Type} {rr : ι → V → Hp → VK → Prop}, (∀ i, P (rr i)) → P fun x H Q => ∃ i, rr i x H Q
theorem ev_one {P : (V → Hp → VK → Prop) → Prop} (T : One X P e a) {ra : Res ε β1} {oa : β1 → D} {h1 : β1 → SH} {rop : β1 → Option γ} {oo : β1 → γ → D} (pk : β1 → γ → β) {out : β → D} {ho : β → SH}
    (ha : EV TL X cA Wx a Γ h ra oa h1 he) (hop : ∀ x, P (rUn TL X.K (h1 x) (oa x) (rop x) (oo x))) (e1 : ∀ x g, out (pk x g) = oo x g := by intros; rfl) (e2 : ∀ x g, ho (pk x g) = h1 x := by intros; rfl) :
    EV TL X cA Wx e Γ h (ra.bind fun x => (Res.ofO (rop x)).bind fun g => .ok (pk x g)) out ho he :=
  PEimp (T.pe (T.ex hop) ha) fun σ H Q ⟨R, hE, hH, w⟩ => ⟨R, hE, hH, Res.wp_mono (fun x w1 v H1 hH1 f1 r1 => by
    cases e : rop x with
    | none => rw [e] at w1; exact False.elim w1
    | some g =>
      rw [e] at w1
      have w3 : ∀ v H', HR TL X.K R (ho (pk x g)) H' → Fr R h (ho (pk x g)) H H' → Rep X.K (own R (ho (pk x g))) H' (out (pk x g)) v → Q v H' := w1
      refine ⟨x, R, hH1, r1, g, e, fun v' H' a b c => w3 v' H' ?_ ?_ ?_⟩
      · rw [e2]; exact a
      · rw [e2]; exact f1.trans b
      · rw [e2, e1]; exact c) (fun _ _ k => k) (Res.wp_bind.mp w)⟩
theorem ep_one {P : (V → Hp → VK → Prop) → Prop} (T : One X P e a) (ha : EP TL X a Γ h da) (hop : P (rUn TL X.K h da (some ()) fun _ => d)) : EP TL X e Γ h d :=
  PEimp (T.pe hop ha) fun σ H Q ⟨R, hE, hH, w⟩ => ⟨R, hE, hH, fun v H1 hH1 f1 r1 => ⟨R, hH1, r1, (), rfl, fun v' H' a b c => w v' H' a (f1.trans b) c⟩⟩
/-- built-ins by one argument, by two -/
def l1 (rr : V → Hp → VK → Prop) : List V → Hp → VK → Prop := fun vs H Q => match vs with
  | [x] => rr x H Q
  | _ => False
def l2 (rr : R2) : List V → Hp → VK → Prop := fun vs H Q => match vs with
  | [x, y] => rr x y H Q
  | _ => False
def C1 (X : Cx) (f : Value) (rr : V → Hp → VK → Prop) : Prop := CallR X f (l1 rr)
def C2 (X : Cx) (f : Value) (rr : R2) : Prop := CallR X f (l2 rr)
theorem CallR.imp {f : Value} {r r' : List V → Hp → VK → Prop} (k : CallR X f r) (h : ∀ vs H Q, r' vs H Q → r vs H Q) : CallR X f r' := fun pins s σ H xs us Q I rs q => k pins s σ H xs us Q I rs (h xs H Q q)
theorem CallR.ex {ι : Type} {f : Value} {r : ι → List V → Hp → VK → Prop} (k : ∀ i, CallR X f (r i)) : CallR X f fun vs H Q => ∃ i, r i vs H Q := fun pins s σ H xs us Q I rs ⟨i, q⟩ => k i pins s σ H xs us Q I rs q
theorem C1.of {f : Value} {r : List V → Hp → VK → Prop} {rr : V → Hp → VK → Prop} (k : CallR X f r) (h : ∀ x H Q, rr x H Q → r [x] H Q) : C1 X f rr := CallR.imp k fun vs H Q q => by
  unfold l1 at q
  split at q
  · exact h _ H Q q
  · exact q.elim
theorem C2.of {f : Value} {r : List V → Hp → VK → Prop} {rr : R2} (k : CallR X f r) (h : ∀ x y H Q, rr x y H Q → r [x, y] H Q) : C2 X f rr := CallR.imp k fun vs H Q q => by
  unfold l2 at q
  split at q
  · exact h _ _ H Q q
  · exact q.elim
theorem C1.ex {ι : Type} {f : Value} {rr : ι → V → Hp → VK → Prop} (k : ∀ i, C1 X f (rr i)) : C1 X f fun x H Q => ∃ i, rr i x H Q := CallR.imp (CallR.ex k) fun vs H Q q => by
  unfold l1 at q
  split at q
  · exact q
  · exact q.elim
theorem C2.ex {ι : Type} {f : Value} {rr : ι → R2} (k : ∀ i, C2 X f (rr i)) : C2 X f fun x y H Q => ∃ i, rr i x y H Q := CallR.imp (CallR.ex k) fun vs H Q q => by
  unfold l2 at q
  split at q
  · exact q
  · exact q.elim
theorem one_B {id : String} (hg : Gl X x) (hm : X.mg x = none) (hv : bootBuiltins x = some (.builtin id) := by rfl) (hn : x ≠ "__name__" := by decide) (hdb : (x == ("__debug__" : Str)) = false := by decide)
    (hst : starEach [a] X.env = (false, eval a X.env) :: starEach [] X.env := by rfl) (hpl : (backTo pos (starEach [] X.env)).any (·.1) = false := by rfl) : One X (C1 X (.builtin id)) (.Call (.Name x p) [a] [] pos) a :=
  ⟨fun {rr ta} hc pa => pe_callB hc hg hm hv (pa_cons pa pa_nil hst) hn hdb hst hpl, C1.ex⟩
theorem one_Ty {T : String} (hg : Gl X x) (hm : X.mg x = none) (hv : bootBuiltins x = some (.type T) := by rfl) (hn : x ≠ "__name__" := by decide) (hdb : (x == ("__debug__" : Str)) = false := by decide)
    (hst : starEach [a] X.env = (false, eval a X.env) :: starEach [] X.env := by rfl) (hpl : (backTo pos (starEach [] X.env)).any (·.1) = false := by rfl) : One X (C1 X (.type T)) (.Call (.Name x p) [a] [] pos) a :=
  ⟨fun {rr ta} hc pa => pe_callTy hc hg hm hv (pa_cons pa pa_nil hst) hn hdb hst hpl, C1.ex⟩
theorem two_B {id : String} (hg : Gl X x) (hm : X.mg x = none) (hv : bootBuiltins x = some (.builtin id) := by rfl) (hn : x ≠ "__name__" := by decide) (hdb : (x == ("__debug__" : Str)) = false := by decide)
    (hst : starEach [a, b] X.env = (false, eval a X.env) :: starEach [b] X.env := by rfl) (hst2 : starEach [b] X.env = (false, eval b X.env) :: starEach [] X.env := by rfl) (hpl : (backTo pos (starEach [b] X.env)).any (·.1) = false := by rfl) : Two X (C2 X (.builtin id)) (.Call (.Name x p) [a, b] [] pos) a b :=
  ⟨fun {rr ta tb} hc pa pb => pe_callB hc hg hm hv (pa_cons pa (pa_cons pb pa_nil hst2) hst) hn hdb hst hpl, C2.ex⟩
/-! ### what they make -/
/-- a sequence: a tuple, a list, a list's cell -/
def IsS (h : SH) (d : D) (ds : List D) : Prop := d = .tup ds ∨ IsL h d ds
theorem IsS.tup {h : SH} {ds : List D} : IsS h (.tup ds) ds := .inl rfl
theorem IsS.lst {h : SH} {ds : List D} : IsS h (.lst ds) ds := .inr .frz
theorem IsS.cell {h : SH} {ds : List D} {a : Addr} (m : (a, O.lst ds) ∈ h) : IsS h (.ref a) ds := .inr (.inr ⟨a, rfl, m⟩)
theorem IsS.sq {TL : List (Addr × Str)} {K : PySem.W.Frag} {R : Own} {h : SH} {H : Hp} {d : D} {ds : List D} {x : V} (i : IsS h d ds) (hr : HR TL K R h H) (r : Rep K (own R h) H d x) : ∃ p xs, x = .ref p ∧ (SqL K H p xs ∨ SqT K H p xs) ∧ Reps K (own R h) H ds xs := by
  rcases i with rfl | i
  · obtain ⟨p, xs, e, q, rs⟩ := SqT.of_rep r
    exact ⟨p, xs, e, .inr q, rs⟩
  · obtain ⟨p, xs, e, q, rs⟩ := i.sq hr r
    exact ⟨p, xs, e, .inl q, rs⟩
theorem c_len (s : IsS h da ds) : C1 X (.builtin "len") (rUn TL X.K h da (some ()) fun _ => .int ds.length) := C1.of call_len_seq fun x H Q ⟨R, hR, rx, g, _, q⟩ => by
  obtain ⟨p, xs, rfl, sq, rs⟩ := s.sq hR rx
  exact ⟨p, xs, rfl, sq, q _ H hR (Fr.refl h H) (by rw [rs.length]; exact Rep.int)⟩
theorem c_abs {i : Int} : C1 X (.builtin "abs") (rUn TL X.K h (.int i) (some ()) fun _ => .int (if i < 0 then -i else i)) := C1.of call_abs fun x H Q ⟨R, hR, rx, g, _, q⟩ => ⟨i, by rw [rx.int_eq], q _ H hR (Fr.refl h H) Rep.int⟩
theorem c_int {i : Int} : C1 X (.type "int") (rUn TL X.K h (.int i) (some ()) fun _ => .int i) := C1.of call_int1 fun x H Q ⟨R, hR, rx, g, _, q⟩ => .inl ⟨i, by rw [rx.int_eq], q _ H hR (Fr.refl h H) Rep.int⟩
theorem c_intB {i : Bool} : C1 X (.type "int") (rUn TL X.K h (.bl i) (some ()) fun _ => .int (if i = true then 1 else 0)) := C1.of call_int1 fun x H Q ⟨R, hR, rx, g, _, q⟩ => .inr ⟨i, by rw [rx.bl_eq], q _ H hR (Fr.refl h H) Rep.int⟩
theorem c_min2 (hc : X.calm = true) {i j : Int} : C2 X (.builtin "min") (rOp TL X.K h (.int i) (.int j) (some ()) fun _ => .int (min i j)) := C2.of (call_min2 hc) fun x y H Q ⟨R, hR, rx, ry, g, _, q⟩ => ⟨i, j, by rw [rx.int_eq, ry.int_eq], by
  have e : (if j < i then j else i) = min i j := by split <;> omega
  rw [e]; exact q _ H hR (Fr.refl h H) Rep.int⟩
/-! ### joined, repeated -/
/-- by a guard -/
def catG {α : Type} (xs ys : List α) : Option (List α) := if xs.length + ys.length ≤ 1000000 then some (xs ++ ys) else none
theorem oi_catL {es : List D} (s1 : IsL h da ds) (s2 : IsL h db es) (hl : ds.length + es.length ≤ 1000000 := by simp) : OpR X (binaryOp .Add) (rOp TL X.K h da db (some ()) fun _ => .lst (ds ++ es)) := OpR.imp op_cat fun x y H Q ⟨R, hR, rx, ry, g, _, q⟩ => by
  obtain ⟨p, xs, rfl, sp, rs⟩ := s1.at_ hR rx
  obtain ⟨p2, ys, rfl, sp2, rs2⟩ := s2.at_ hR ry
  refine ⟨p, p2, xs, ys, rfl, rfl, sp, sp2, ?_, fun l hl => ?_⟩
  · have z : 1000000 ≤ sizeLine := by decide
    rw [← rs.length, ← rs2.length]; omega
  · exact q _ _ (hR.fr0 (upd_keep hl)) (Fr.ext (upd_keep hl)) (Rep.newL hR hl (rs.app rs2))
theorem oi_catLG {es : List D} (s1 : IsL h da ds) (s2 : IsL h db es) : OpR X (binaryOp .Add) (rOp TL X.K h da db (if ds.length + es.length ≤ 1000000 then some () else none) fun _ => .lst (ds ++ es)) := by
  by_cases hl : ds.length + es.length ≤ 1000000
  · rw [if_pos hl]; exact oi_catL s1 s2 hl
  · rw [if_neg hl]
    exact fun pins s σ H x y v u Q I rx ry ⟨_, _, _, _, g, e, _⟩ => by cases e
theorem Reps.rep {K : PySem.W.Frag} {W : Own} {H : Hp} {ds : List D} {xs : List V} (r : Reps K W H ds xs) : ∀ n : Nat, Reps K W H (List.replicate n ds).flatten (List.replicate n xs).flatten
  | 0 => by simp [Reps]
  | n + 1 => by
    rw [List.replicate_succ, List.replicate_succ, List.flatten_cons, List.flatten_cons]
    exact r.app (Reps.rep r n)
end
end TH
set_option Elab.async false
set_option linter.all false
set_option maxRecDepth 100000
set_option maxHeartbeats 2000000
/-! TB16: slices, typed subscripts, lists' cells changed. -/
namespace TH
open PySem PySem.Spec PyProof.Rows L2
/-! ### slices -/
def cutL {α : Type} (xs : List α) (lo hi : Option Int) : List α := (xs.drop (HT.sIx xs.length 0 lo)).take (HT.sIx xs.length xs.length hi - HT.sIx xs.length 0 lo)
section
variable {TL : List (Addr × Str)} {X : Cx} {cA : CA} {Wx : WX} {E : XK} {Γ : En} {h : SH} {ε α β β0 β1 β2 γ γ' ρ : Type} {he : ε → SH} {e a b c o : Expr} {pos p p2 apos cpos : Pos} {d da db : D} {ds : List D} {x : Str} {rest : List Stmt} {oN : β → En × SH → Prop} {oJ : γ' → En × SH} {oR : ρ → D × SH → Prop}
theorem SlR.imp {r r' : V → Option Int → Option Int → Hp → VK → Prop} (k : L2.SlR X r) (h : ∀ x lo hi H Q, r' x lo hi H Q → r x lo hi H Q) : L2.SlR X r' := fun pins s σ H x v vl vu lo hi sl Q I rx hs pl pu q => k pins s σ H x v vl vu lo hi sl Q I rx hs pl pu (h x lo hi H Q q)
theorem SlR.ex {ι : Type} {r : ι → V → Option Int → Option Int → Hp → VK → Prop} (k : ∀ i, L2.SlR X (r i)) : L2.SlR X fun x lo hi H Q => ∃ i, r i x lo hi H Q := fun pins s σ H x v vl vu lo hi sl Q I rx hs pl pu ⟨i, q⟩ => k i pins s σ H x v vl vu lo hi sl Q I rx hs pl pu q
/-! ### a list's cell changed -/
theorem HR.putL {K : PySem.W.Frag} {R : Own} {H : Hp} {j : Nat} {q : Addr} {ds ds' : List D} {xs ys : List V} (hr : HR TL K R h H) (hj : h[j]? = some (q, .lst ds)) (ea : H q = some (.lst xs)) (r : Reps K (own R h) H ds' ys) : HR TL K R (h.set j (q, .lst ds')) (upd H q (.lst ys)) ∧ Fr R h (h.set j (q, .lst ds')) H (upd H q (.lst ys)) :=
  hr.put hj ea rfl rfl ⟨ys, upd_same, r.put (dom_of hj)⟩
theorem HR.lst_at {K : PySem.W.Frag} {R : Own} {H : Hp} {j : Nat} {q : Addr} {ds : List D} (hr : HR TL K R h H) (hj : h[j]? = some (q, .lst ds)) : ∃ xs, H q = some (.lst xs) ∧ Reps K (own R h) H ds xs := hr.at_ _ (List.mem_of_getElem? hj)
end
end TH
set_option Elab.async false
set_option linter.all false
set_option maxRecDepth 100000
set_option maxHeartbeats 2000000
/-! TB17: sorted, min, max by the data. -/
namespace TH
open PySem PySem.Spec PyProof.Rows L2
/-- types whose values are ordered -/
structure TyO {α : Type} (f : α → D) (n : Nat) : Prop where
  is : ∀ x, isPy (f x) = true
  dp : ∀ x, (py (f x)).depth ≤ n
  al : ∀ x y, PySem.W.alike (py (f x)) (py (f y)) = true
  nn : ∀ x, py (f x) ≠ .none
/-- types whose values are sorted -/
structure TyS {α : Type} (f : α → D) (n : Nat) : Prop extends TyO f n where
  so : (∀ x, ∃ a r, py (f x) = .tuple (a :: r)) ∨ ∀ x, py (f x) ≠ .none ∧ ∀ xs, py (f x) ≠ .tuple xs
theorem TyS.of {α : Type} {f : α → D} {n : Nat} (h : (∀ x, isPy (f x) = true) ∧ (∀ x, (py (f x)).depth ≤ n) ∧ (∀ x y, PySem.W.alike (py (f x)) (py (f y)) = true) ∧ ((∀ x, ∃ a r, py (f x) = .tuple (a :: r)) ∨ ∀ x, py (f x) ≠ .none ∧ ∀ xs, py (f x) ≠ .tuple xs)) : TyS f n :=
  ⟨⟨h.1, h.2.1, h.2.2.1, fun x => by
    rcases h.2.2.2 with so | so
    · obtain ⟨p, r, e⟩ := so x
      rw [e]
      exact fun z => by cases z
    · exact (so x).1⟩, h.2.2.2⟩
theorem tys_str : TyS (fun i : Str => D.str i) 0 := .of ⟨fun _ => by simp [isPy], fun _ => by simp [py, PyData.depth], fun _ _ => by simp [py, PySem.W.alike], .inr fun _ => by simp [py]⟩
/-- sorted by the data -/
def sortT {α : Type} (rev : Bool) (f : α → D) (xs : List α) : List α := xs.mergeSort (PySem.W.dataLe rev fun a => py (f a))
section
variable {TL : List (Addr × Str)} {X : Cx} {K : PySem.W.Frag} {W : Own} {R : Own} {h : SH} {H : Hp} {α : Type} {f : α → D} {da : D} {n : Nat}
theorem each_of {s : Shared} {pins : List (Addr × Obj)} {σ : L2.St} (T : TyO f n) (I : Inv X pins σ H s) : ∀ {xs : List α} {ys : List V} {us : List Value}, Reps X.K W H (xs.map f) ys → Vals ys us →
    PySem.W.EachIs (fun v a => ∃ y, RelV y v ∧ Rep X.K W H (f a) y) us xs ∧ PySem.W.EachIs (fun v a => ∃ as, Reads s.heap v (py (f a)) as) us xs
  | [], ys, us, r, v => by
    simp only [List.map_nil, Reps] at r
    subst r
    cases v
    exact ⟨.nil, .nil⟩
  | x :: xs, ys, us, r, v => by
    simp only [List.map_cons, Reps] at r
    obtain ⟨y, t, rfl, r1, r2⟩ := r
    cases v with
    | cons v1 v2 =>
      obtain ⟨e1, e2⟩ := each_of T I r2 v2
      exact ⟨.cons ⟨y, v1, r1⟩ e1, .cons (Dp.reads I _ y _ (Rep.dp _ _ r1 (T.is x)).1 v1) e2⟩
theorem each_back : ∀ {us : List Value} {xs : List α}, PySem.W.EachIs (fun v a => ∃ y, RelV y v ∧ Rep K W H (f a) y) us xs → ∃ ys, Vals ys us ∧ Reps K W H (xs.map f) ys
  | _, _, .nil => ⟨[], .nil, by simp [Reps]⟩
  | _, _, .cons ⟨y, r1, r2⟩ e => by
    obtain ⟨ys, v, r⟩ := each_back e
    exact ⟨y :: ys, .cons r1 v, .cons r2 r⟩
variable {cA : CA} {Wx : WX} {Γ : En} {ε β : Type} {he : ε → SH} {e : Expr} {pos p kpos kpos2 : Pos} {nm : Option Str} {ke : Expr}
end
end TH
set_option Elab.async false
set_option linter.all false
set_option maxRecDepth 100000
set_option maxHeartbeats 2000000
/-! TB18: min, max of data; with default. -/
namespace TH
open PySem PySem.Spec PyProof.Rows L2
section
variable {TL : List (Addr × Str)} {X : Cx} {K : PySem.W.Frag} {W : Own} {R : Own} {h : SH} {H : Hp} {α : Type} [DecidableEq α] {f : α → D} {da dd : D} {n : Nat} {pins : List (Addr × Obj)} {σ : L2.St} {s : Shared}
/-- with default= -/
def R2k (r : R2) : List V → List V → Hp → VK → Prop := fun vs zs H Q => match vs, zs with
  | [x], [z] => r x z H Q
  | _, _ => False
theorem R2k.ex {ι : Type} {f : Value} {ks : List Str} {rr : ι → R2} (k : ∀ i, CallRK X f ks (R2k (rr i))) : CallRK X f ks (R2k fun x y H Q => ∃ i, rr i x y H Q) := by
  intro pins s σ H vs zs us ws Q I r rz q
  unfold R2k at q
  split at q
  · obtain ⟨i, q⟩ := q
    exact k i pins s σ H _ _ us ws Q I r rz q
  · exact q.elim
end
end TH
set_option Elab.async false
set_option linter.all false
set_option maxRecDepth 100000
set_option maxHeartbeats 2000000
/-! TB19: op= of names, lists' items set, index, count, remove. -/
namespace TH
open PySem PySem.Spec PyProof.Rows L2
section
variable {TL : List (Addr × Str)} {X : Cx} {cA : CA} {Wx : WX} {E : XK} {Γ : En} {h : SH} {ε α β γ γ' ρ : Type} {he : ε → SH} {e a b c o : Expr} {pos p p2 apos cpos : Pos} {d da db : D} {ds : List D} {x : Str} {rest : List Stmt} {oN : β → En × SH → Prop} {oJ : γ' → En × SH} {oR : ρ → D × SH → Prop}
theorem PIp.imp {op : Operator} {t t' : TIp} (k : PIp X op t) (h : ∀ x y H Q, t' x y H Q → t x y H Q) : PIp X op t' := fun pins s σ H x y v u Q I rx ry q => k pins s σ H x y v u Q I rx ry (h x y H Q q)
/-! ### items of a list's cell -/
theorem Reps.setD {K : PySem.W.Frag} {W : Own} {H : Hp} {ds : List D} {xs : List V} {d : D} {v : V} (r : Reps K W H ds xs) (q : Rep K W H d v) (j : Nat) : Reps K W H (ds.set j d) (xs.set j v) := r.set q
/-- o[i] = e, o a list's cell: the value first -/
theorem ss_seti {q : Addr} {re : Res ε α} {out : α → D} {ho : α → SH} {kk : α → Res ε (Fl β γ' ρ)} {ds : α → List D} {iv : α → Int} {h2 : α → Nat → SH} {k2 : α → Nat → Res ε (Fl β γ' ρ)} (j : Nat) (pv : EV TL X cA (WK E) e Γ h re out ho he) (po : ∀ x, EP TL X o Γ (ho x) (.ref q)) (pi : ∀ x, EP TL X a Γ (ho x) (.int (iv x)))
    (pr : ∀ x n, SS TL X cA E rest Γ (h2 x n) (k2 x n) oN oJ oR he) (hj : ∀ x, (ho x)[j]? = some (q, .lst (ds x)) := by intros; rfl) (e2 : ∀ x n, h2 x n = (ho x).set j (q, .lst ((ds x).set n (out x))) := by intros; rfl)
    (hs : swapsWithSole [.Subscript o a p] e pos.line X.env = pure false := by rfl) (hw : swappedStores [.Subscript o a p] e X.env = pure none := by rfl) (h1 : (assignEach [.Subscript o a p] X.env).map (·.2) = [assign (.Subscript o a p) X.env] := by rfl)
    (hg : ∀ {to ti : TE} {t : TSet}, PE X o to → PE X a ti → PSet X t → PG X (.Subscript o a p) (gSub to ti t) := by intro _ _ _ p1 p2 p3; exact pg_sub p1 p2 p3) :
    SS TL X cA E (.Assign [.Subscript o a p] e pos :: rest) Γ h (re.bind fun x => (Res.ofO (ixN (ds x).length (iv x))).bind fun n => k2 x n) oN oJ oR he :=
  PSsimp (pss_cons (ps_asg pv (hg (PEex po) (PEex pi) set_list) hs hw h1) (PSsex fun i : α × Nat => pr i.1 i.2)) fun Dn σ H ⟨R, hE, hH, w⟩ => ⟨R, hE, hH, Res.wp_mono (fun x k' v H1 h1 f1 r1 => by
    refine ⟨x, R, hE.fr f1, h1, fun u H2 hh2 f2 r2 => ⟨x, R, (hE.fr f1).fr f2, hh2, fun w3 H3 h3 f3 r3 => ?_⟩⟩
    simp only [Rep] at r2
    have e3 := r3.int_eq
    subst e3
    obtain ⟨xs, ea, rs⟩ := h3.lst_at (hj x)
    cases en : ixN (ds x).length (iv x) with
    | none => rw [en] at k'; exact False.elim k'
    | some n =>
      rw [en] at k'
      obtain ⟨h4, f4⟩ := h3.putL (hj x) ea (rs.setD ((r1.fr f2).fr f3) n)
      rw [← e2] at h4 f4
      exact ⟨q, xs, iv x, n, r2, rfl, ea, by rw [← rs.length]; exact en, (x, n), tS_step (((hE.fr f1).fr f2).fr (f3.trans f4)) h4 (((f1.trans f2).trans f3).trans f4) k'⟩) (fun _ _ k => k) (Res.wp_bind.mp w)⟩
/-! ### index, count of lists -/
/-- a method of lists with one argument -/
def ML (X : Cx) (id : String) (rr : R2) : Prop := MtR X id fun x vs H Q => match vs with
  | [y] => rr x y H Q
  | _ => False
theorem MtR.imp {id : String} {r r' : V → List V → Hp → VK → Prop} (k : MtR X id r) (h : ∀ x vs H Q, r' x vs H Q → r x vs H Q) : MtR X id r' := fun pins s σ H x vs v us Q I rx rv q => k pins s σ H x vs v us Q I rx rv (h x vs H Q q)
theorem ML.of {id : String} {r : V → List V → Hp → VK → Prop} {rr : R2} (k : MtR X id r) (h : ∀ x y H Q, rr x y H Q → r x [y] H Q) : ML X id rr := MtR.imp k fun x vs H Q q => by
  split at q
  · exact h _ _ H Q q
  · exact q.elim
theorem ML.ex {ι : Type} {id : String} {rr : ι → R2} (k : ∀ i, ML X id (rr i)) : ML X id fun x y H Q => ∃ i, rr i x y H Q := by
  intro pins s σ H x vs v us Q I rx rv q
  split at q
  · obtain ⟨i, q⟩ := q
    exact k i pins s σ H x _ v us Q I rx rv q
  · exact q.elim
end
end TH
set_option Elab.async false
set_option linter.all false
set_option maxRecDepth 100000
set_option maxHeartbeats 2000000
/-! TB20: what a lambda tells: its value, or the word of its exception. -/
namespace TH
open PySem PySem.Spec PyProof.Rows L2
def Ex.no : Ex → Nat
  | .size => 0 | .plan => 1 | .such => 2 | .room => 3 | .way => 4 | .gives => 5 | .text _ => 6 | .deed => 7
/-- the classes' names -/
structure ExN (mg : Str → Option Value) (cA : CA) : Prop where
  size : mg "BadSize" = some (.ref (cA .size))
  plan : mg "BadPlan" = some (.ref (cA .plan))
  such : mg "NoSuch" = some (.ref (cA .such))
  room : mg "NoRoom" = some (.ref (cA .room))
  way : mg "NoWay" = some (.ref (cA .way))
  gives : mg "Gives" = some (.ref (cA .gives))
  text : mg "BadText" = some (.ref (cA (.text 0)))
  deed : mg "BadDeed" = some (.ref (cA .deed))
end TH
set_option Elab.async false
set_option linter.all false
set_option maxRecDepth 100000
set_option maxHeartbeats 2000000
/-! TB21: small rules that the printed terms use; defs by FunD. -/
namespace TH
open PySem PySem.Spec PyProof.Rows L2
section
variable {TL : List (Addr × Str)} {X : Cx} {cA : CA} {Wx : WX} {E : XK} {Γ : En} {h : SH} {ε ε' β β' β1 β2 γ ρ α : Type} {he : ε → SH} {e a b c o tg : Expr} {es : List Expr} {pos p apos : Pos} {d : D} {ds : List D} {x m : Str} {k : Nat} {rest : List Stmt} {oN : β → En × SH → Prop} {oJ : γ → En × SH} {oR : ρ → D × SH → Prop}
/-- a total value, typed -/
theorem ev_p {f : α → D} {v : α} (q : EP TL X e Γ h (f v)) : EV TL X cA Wx e Γ h (.ok v : Res ε α) f (fun _ => h) he :=
  PEimp q fun σ H Q ⟨R, hE, hH, w⟩ => ⟨R, hE, hH, w⟩
theorem s1_contL {cc : γ} {Γ' : En} {h' : SH} (eo : oJ cc = (Γ', h') := by rfl) (lg : LeG Γ Γ') (lh : List.Sublist h' h := by exact List.Sublist.refl _) : S1 TL X cA E (.Continue pos) Γ h (.ok (.ct cc) : Res ε (Fl β γ ρ)) oN oJ oR he :=
  PSimp ps_continue fun Dn σ H ⟨R, hE, hH, w⟩ => by
    have w : ∀ σ' H', ER X.K (own R (oJ cc).2) (oJ cc).1 σ' H' → HR TL X.K R (oJ cc).2 H' → Fr R h (oJ cc).2 H H' → Dn.ct σ' H' := w
    rw [eo] at w
    exact w σ H (ER.le lg (hE.drop lh)) (hH.drop lh) (Fr.drop lh)
end
end TH
set_option Elab.async false
set_option linter.all false
set_option maxRecDepth 100000
set_option maxHeartbeats 2000000
/-! TB22: rules without a bind for what is total; defs whose code object is known. -/
namespace TH
open PySem PySem.Spec PyProof.Rows L2
theorem u1 {k : Nat} {A : Around} (r : Room k A) : A.units + 1 < cLine := by have := r.un; omega
theorem u64 {k : Nat} {A : Around} (r : Room k A) : A.units + 64 < cLine := by have := r.un; omega
theorem u70 {k : Nat} {A : Around} (r : Room k A) : A.units + 70 < cLine := by have := r.un; omega
section
variable {TL : List (Addr × Str)} {X : Cx} {cA : CA} {Wx : WX} {E : XK} {Γ : En} {h : SH} {ε ε' β β' β1 β2 γ ρ α : Type} {he : ε → SH} {e a b c o tg : Expr} {es : List Expr} {pos p apos : Pos} {d : D} {ds : List D} {x m : Str} {k : Nat} {rest A B : List Stmt} {oN : β → En × SH → Prop} {oJ : γ → En × SH} {oR : ρ → D × SH → Prop}
theorem s1_ifP {bb : Bool} {rA rB : Res ε (Fl β γ ρ)} (pc : ETP TL X c Γ h bb) (pA : SS TL X cA E A Γ h rA oN oJ oR he) (pB : SS TL X cA E B Γ h rB oN oJ oR he) :
    S1 TL X cA E (.If c A B pos) Γ h (if bb = true then rA else rB) oN oJ oR he :=
  PSimp (s1_if (et_etp pc) (fun _ => pA) (fun _ => pB)) fun _ _ _ q => q
theorem ss_ifxP {bb : Bool} {rA rB : Res ε (Fl β γ ρ)} (pc : ETP TL X c Γ h bb) (pA : SS TL X cA E A Γ h rA (fun _ _ => False) oJ oR he) (pB : SS TL X cA E rest Γ h rB oN oJ oR he) :
    SS TL X cA E (.If c A [] pos :: rest) Γ h (if bb = true then rA else rB) oN oJ oR he :=
  PSsimp (ss_ifx (et_etp pc) (fun _ => pA) (fun _ => pB)) fun _ _ _ q => q
end
section
variable {TL : List (Addr × Str)} {P : Program} {w : World} {K : PySem.W.Frag} {mg : Str → Option Value} {base : Heap} {cA : CA}
/-- a def by its body, its code object told -/
theorem fn_okC {ι ε β β' : Type} {x qual : Str} {st : Stmt} {f : Addr} {fd : FuncData} {N ps : List Str} {k : Nat} {args : ι → List D} {hin : ι → SH} {r : ι → Res ε β} {po : ι → β → D × SH → Prop} {he : ι → ε → SH}
    (F : FunD K x qual (defArgs st) (defBody st) (defScope st) [] [] f fd) (S : FnScope N ps (defScope st)) {Γ0 : ι → En} {r' : ι → Res ε (Fl β' Empty β)} (fv : β' → β) {oN : ι → β' → En × SH → Prop} {oJ : Empty → En × SH}
    (hb : ∀ i (cdv : Value), fd.code = cdv → ∀ (A : Around) (outer : List Env) (s : Shared) (H : Hp) (E : XK), Room k (A.deeper (envOfC qual (defScope st) s.heap.objs.size f cdv)) →
      SS TL (cxOf (L2.CX P w) P w K mg base N qual (defScope st) f cdv A outer s H E) cA E (defBody st) (Γ0 i) (hin i) (r' i) (oN i) oJ (po i) (he i))
    (er : ∀ i, r i = (r' i).fin fv := by intros; rfl) (eΓ : ∀ i, Γ0 i = (args i).map some ++ List.replicate (N.length - (args i).length) none := by intros; rfl) (la : ∀ i, (args i).length = ps.length := by intros; rfl)
    (en : ∀ i b S, oN i b S → po i (fv b) (.non, S.2)) : FnOk P w K mg base (L2.CX P w) (k + 1) f fd ps (spM TL K cA args hin r po he) := by
  obtain ⟨oc, od, dV, kV, doc, pm, an, cdv, ct, osl, rfl, lk, hcd, _, _⟩ := F.ex
  refine fn_of lk hcd S (fun vs H Q E ⟨i, R, _, h2, _⟩ => by rw [← h2.length]; exact la i) fun A outer s H vs Q E hr ⟨i, R, h1, h2, h3⟩ => ⟨_, hb i cdv rfl A outer s H E hr, R, ?_, h1, ?_⟩
  · rw [eΓ]; exact er_start h2
  · rw [er] at h3
    refine Res.wp_mono (fun z k => ?_) (fun _ _ k => k) (Res.wp_bind.mp h3)
    cases z with
    | nx b => exact fun S hS σ' H' a b' c => k _ (en i b S hS) _ H' b' c (by simp [Rep])
    | bk c => exact c.elim
    | ct c => exact c.elim
    | rt v => exact fun S hS x H' a b c => k S hS x H' a b c
end
/-- what a def's own table asks -/
def TabF (K : PySem.W.Frag) (mg : Str → Option Value) (base : Heap) (TL : List (Addr × Str)) (fd : FuncData) (q : Str) : Prop := ∃ c P, fd.code = .ref c ∧ LamX.TabB base mg c P ∧ (P, q) ∈ TL ∧ ∀ p ∈ TL, p.1 = P → p.2 = q
/-! ### the text -/
def inner (s : Stmt) (j : Nat) : Stmt := match s with
  | .ClassDef _ _ _ b _ _ _ _ _ _ _ => b.getD j (.Pass ⟨0, 0, 0, 0⟩)
  | _ => .Pass ⟨0, 0, 0, 0⟩
/-! ### the classes -/
def cK (K : PySem.W.Frag) : CA := fun x => match x with
  | .size => He.ga K "BadSize"
  | .plan => He.ga K "BadPlan"
  | .such => He.ga K "NoSuch"
  | .room => He.ga K "NoRoom"
  | .way => He.ga K "NoWay"
  | .gives => He.ga K "Gives"
  | .text _ => He.ga K "BadText"
  | .deed => He.ga K "BadDeed"
end TH
set_option Elab.async false
set_option linter.all false
set_option maxRecDepth 100000
set_option maxHeartbeats 2000000
/-! TB23: typed forms of some operations. -/
namespace TH
open PySem PySem.Spec PyProof.Rows L2
section
variable {TL : List (Addr × Str)} {X : Cx} {h : SH} {da db : D} {α : Type} {f : α → D} {xs ys : List α}
theorem oi_catLF (s1 : IsL h da (xs.map f)) (s2 : IsL h db (ys.map f)) : OpR X (binaryOp .Add) (rOp TL X.K h da db (catG xs ys) fun zs => .lst (zs.map f)) :=
  OpR.imp (oi_catLG s1 s2) fun x y H Q ⟨R, a, b, c, g, e, k⟩ => by
    unfold catG at e
    split at e
    · rename_i hl
      cases e
      refine ⟨R, a, b, c, (), by rw [if_pos (by simpa using hl)], fun v H' p q r => k v H' p q (by show Rep _ _ _ (D.lst (List.map f (xs ++ ys))) v; rw [List.map_append]; exact r)⟩
    · cases e
theorem c_lenF (s : IsS h da (xs.map f)) : C1 X (.builtin "len") (rUn TL X.K h da (some ()) fun _ => .int xs.length) := by
  have := c_len (X := X) (TL := TL) s
  rwa [List.length_map] at this
end
end TH
set_option Elab.async false
set_option linter.all false
set_option maxRecDepth 100000
set_option maxHeartbeats 2000000
/-! TB24: facts of classes; new cells set. -/
namespace TH
open PySem PySem.Spec PyProof.Rows L2
theorem exOk_of {K : PySem.W.Frag} {mg : Str → Option Value} {X : Cx} {x : Str} {C : Addr} (hK : X.K = K) (hm : X.mg = mg) (g : mg x = some (.ref C)) (e : PySem.W.excIn K C He.veBase "ValueError.__new__" = true ∧ PySem.W.keepIn K (.ref C) = true ∧ PySem.W.subIn K (.ref C) (.type "BaseException") = some true ∧ PySem.W.typeIn K (.ref C) = some (.type "type")) : ExOk X x C := by
  subst hK hm
  exact ⟨e.1, g, e.2.1, raises_own e.2.2.1 e.2.2.2⟩
end TH
set_option Elab.async false
set_option linter.all false
set_option maxRecDepth 100000
set_option maxHeartbeats 2000000
/-! TB25: constants of the module. -/
namespace TH
open PySem PySem.Spec PyProof.Rows L2
mutual
/-- the value u of the module is d: numbers, texts, tuples of them -/
def vB (K : PySem.W.Frag) : D → Value → Bool
  | .int i, .int j _ => decide (i = j)
  | .str x, .str y _ => decide (x = y) && PyData.strOk x
  | .tup ds, .ref p => (match K.lookup p with
    | some o => (match o.data with
      | .seq its _ => decide (o.cls = .type "tuple") && (Nat.ble its.size sizeLine && vsB K ds its.toList)
      | _ => false)
    | none => false)
  | _, _ => false
def vsB (K : PySem.W.Frag) : List D → List Value → Bool
  | [], [] => true
  | d :: ds, u :: us => vB K d u && vsB K ds us
  | _, _ => false
end
section
variable {K : PySem.W.Frag}
mutual
theorem vB_ok : ∀ (d : D) (u : Value), vB K d u = true → ∃ v, RelV v u ∧ ∀ W H, Rep K W H d v
  | .int i, u, h => by
    cases u with
    | int j t =>
      unfold vB at h
      exact ⟨.int i, ⟨t, by rw [of_decide_eq_true h]⟩, fun W H => by simp [Rep]⟩
    | _ => unfold vB at h; cases h
  | .str x, u, h => by
    cases u with
    | str y t =>
      unfold vB at h
      obtain ⟨h1, h2⟩ := Bool.and_eq_true_iff.mp h
      have e := of_decide_eq_true h1
      subst e
      exact ⟨.str x, ⟨t, rfl⟩, fun W H => by simp [Rep, h2]⟩
    | _ => unfold vB at h; cases h
  | .tup ds, u, h => by
    cases u with
    | ref p =>
      unfold vB at h
      cases e : K.lookup p with
      | none => rw [e] at h; cases h
      | some o =>
        rw [e] at h
        obtain ⟨oc, od, dt, osl⟩ := o
        cases dt with
        | seq its n =>
          have h : (decide (oc = .type "tuple") && (Nat.ble its.size sizeLine && vsB K ds its.toList)) = true := h
          obtain ⟨h1, h2⟩ := Bool.and_eq_true_iff.mp h
          obtain ⟨h2, h3⟩ := Bool.and_eq_true_iff.mp h2
          obtain ⟨xs, hv, hr⟩ := vsB_ok ds its.toList h3
          refine ⟨.ref p, rfl, fun W H => ?_⟩
          simp only [Rep]
          exact ⟨p, xs, rfl, .inr ⟨_, its, n, e, of_decide_eq_true h1, rfl, Nat.le_of_ble_eq_true h2, hv⟩, hr W H⟩
        | _ => cases h
    | _ => unfold vB at h; cases h
  | .non, _, h => by unfold vB at h; cases h
  | .bl _, _, h => by unfold vB at h; cases h
  | .lst _, _, h => by unfold vB at h; cases h
  | .dic _ _ _, _, h => by unfold vB at h; cases h
  | .obj _ _ _, _, h => by unfold vB at h; cases h
  | .ref _, _, h => by unfold vB at h; cases h
  | .fn _ _, _, h => by unfold vB at h; cases h
theorem vsB_ok : ∀ (ds : List D) (us : List Value), vsB K ds us = true → ∃ vs, Vals vs us ∧ ∀ W H, Reps K W H ds vs
  | [], [], _ => ⟨[], .nil, fun W H => .nil⟩
  | d :: ds, u :: us, h => by
    unfold vsB at h
    obtain ⟨h1, h2⟩ := Bool.and_eq_true_iff.mp h
    obtain ⟨v, a, b⟩ := vB_ok d u h1
    obtain ⟨vs, c, e⟩ := vsB_ok ds us h2
    exact ⟨v :: vs, .cons a c, fun W H => .cons (b W H) (e W H)⟩
  | [], _ :: _, h => by unfold vsB at h; cases h
  | _ :: _, [], h => by unfold vsB at h; cases h
end
end
section
variable {TL : List (Addr × Str)} {X : Cx} {Γ : En} {h : SH} {pos : Pos}
/-- a constant tuple of the module -/
theorem ep_const {K : PySem.W.Frag} {mg : Str → Option Value} {x : Str} {ds : List D} (hm : mg x = some (.ref (He.ga K x))) (c : vB K (.tup ds) (.ref (He.ga K x)) = true) (hg : Gl X x := by rfl) (hK : X.K = K := by rfl) (hmg : X.mg = mg := by rfl) (hdb : (x == ("__debug__" : Str)) = false := by decide) :
    EP TL X (.Name x pos) Γ h (.tup ds) := by
  subst hK hmg
  obtain ⟨v, rv, rr⟩ := vB_ok _ _ c
  exact ep_glob hg hm rv rr hdb
end
end TH
set_option Elab.async false
set_option linter.all false
set_option maxRecDepth 100000
set_option maxHeartbeats 2000000
/-! TB26: any, all by name; more rules. -/
namespace TH
open PySem PySem.Spec PyProof.Rows L2
section
variable {TL : List (Addr × Str)} {X : Cx} {cA : CA} {Wx : WX} {Γ : En} {h : SH} {ε ε1 ε2 α β β0 γ κ : Type} {he : ε → SH} {het : ε1 → SH} {hee : ε2 → SH} {tg elt iter : Expr} {ifs : List Expr} {scope : Scope} {pos gpos p : Pos} {own' : List (Str × Nat)} {c P : Addr} {k : Nat}
theorem ev_gxAny {re : Res ε β0} {out : β0 → List D} {kp : β0 → SH → Prop} {xs : β0 → List α} {f : α → D} {Γb : α → En} {rt : α → Res ε1 γ} {ot : α → γ → Bool} {rv : α → Res ε2 κ} {ov : α → κ → Bool}
    (pi : EI TL X cA Wx tg iter Γ h re out (fun _ => h) he kp) (hr : Room (k + 3) X.A) (hg : Gl X "any") (hm : X.mg "any" = none) (TB : LamX.TabB X.base X.mg c P) (hcode : X.env.code = .ref c) (hmT : (P, X.env.qual ++ "<genexpr>") ∈ TL) (hu : ∀ p ∈ TL, p.1 = P → p.2 = X.env.qual ++ "<genexpr>")
    (hN : X.N.Nodup) (ok : GxOk X.N X.env.scope scope own')
    (pg : ∀ (A : Around) (s4 : Shared) (H4 : Hp) (code : Value) (fp : List Addr) x, PG (gxCx X A s4 H4 (gxEnv X scope s4.heap.objs.size code) fp) tg (tGW TL X.K (own'.map (·.2)) (wipeG Γ (own'.map (·.2))) h (f x) (Γb x)))
    (pt : ∀ (A : Around) (s4 : Shared) (H4 : Hp) (code : Value) (fp : List Addr), Room k (A.deeper (gxEnv X scope s4.heap.objs.size code)) → ∀ x, PTs (gxCx X A s4 H4 (gxEnv X scope s4.heap.objs.size code) fp) ifs (tT TL X.K cA WF (Γb x) h (rt x) (ot x) (fun _ => h) het))
    (pe : ∀ (A : Around) (s4 : Shared) (H4 : Hp) (code : Value) (fp : List Addr), Room k (A.deeper (gxEnv X scope s4.heap.objs.size code)) → ∀ x, PE (gxCx X A s4 H4 (gxEnv X scope s4.heap.objs.size code) fp) elt (tE TL X.K cA WF (Γb x) h (rv x) (fun y => .bl (ov x y)) (fun _ => h) hee))
    (ex : ∀ b, out b = (xs b).map f := by intros; rfl) (ekp : ∀ b, kp b h := by intros; trivial)
    (hs : ∀ v, genFold iter X.env v = pure v := by intro _; rfl)
    (hst : starEach [.GeneratorExp elt [⟨tg, iter, ifs, 0⟩] scope gpos] X.env = (false, eval (.GeneratorExp elt [⟨tg, iter, ifs, 0⟩] scope gpos) X.env) :: starEach [] X.env := by rfl) :
    EV TL X cA Wx (.Call (.Name "any" p) [.GeneratorExp elt [⟨tg, iter, ifs, 0⟩] scope gpos] [] pos) Γ h (re.bind fun b => anyR true (fun x => stepR (ot x) (ov x) (rt x) (rv x)) (xs b)) (fun b => .bl b) (fun _ => h) he :=
  ev_gxB true pi hr hg hm TB hcode hmT hu hN ok pg pt pe ex ekp hs hst
end
end TH
set_option Elab.async false
set_option linter.all false
set_option maxRecDepth 100000
set_option maxHeartbeats 2000000
/-! TB27: outcomes told. -/
namespace TH
open PySem PySem.Spec PyProof.Rows L2
section
variable {TL : List (Addr × Str)} {X : Cx} {cA : CA} {Wx : WX} {Γ : En} {h : SH} {ε β : Type} {he : ε → SH} {e : Expr} {r : Res ε β}
theorem asE (out : β → D) (ho : β → SH) (p : EV TL X cA Wx e Γ h r out ho he) : EV TL X cA Wx e Γ h r out ho he := p
theorem ep_as {f : β → D} {v : β} (p : EP TL X e Γ h (f v)) : EP TL X e Γ h (f v) := p
theorem asC (out : β → Bool) (ho : β → SH) (p : ET TL X cA Wx e Γ h r out ho he) : ET TL X cA Wx e Γ h r out ho he := p
end
end TH
set_option Elab.async false
set_option linter.all false
set_option maxRecDepth 100000
set_option maxHeartbeats 2000000
/-! TB28: list cells, typed. -/
namespace TH
open PySem PySem.Spec PyProof.Rows L2
section
variable {TL : List (Addr × Str)} {X : Cx} {cA : CA} {Wx : WX} {E : XK} {Γ : En} {h : SH} {ε α α' β γ γ' ρ : Type} {he : ε → SH} {e a b o : Expr} {pos p apos cpos : Pos} {rest : List Stmt} {oN : β → En × SH → Prop} {oJ : γ' → En × SH} {oR : ρ → D × SH → Prop} {f : α' → D}
theorem asS {Γ : En} {h : SH} (Γ' : En) (h' : SH) {ss : List Stmt} {r : Res ε (Fl β γ' ρ)} (p : SS TL X cA E ss Γ' h' r oN oJ oR he) (e1 : Γ = Γ' := by rfl) (e2 : h = h' := by rfl) : SS TL X cA E ss Γ h r oN oJ oR he := by
  subst e1 e2
  exact p
theorem IsL.cell {h : SH} {a : Addr} {ds : List D} (m : (a, O.lst ds) ∈ h) : IsL h (.ref a) ds := .inr ⟨a, rfl, m⟩
theorem ss_setiF {q : Addr} {re : Res ε α} {out : α → D} {ho : α → SH} {xs : α → List α'} {v : α → α'} {iv : α → Int} {h2 : α → Nat → SH} {k2 : α → Nat → Res ε (Fl β γ' ρ)} (j : Nat) (pv : EV TL X cA (WK E) e Γ h re out ho he) (po : ∀ x, EP TL X o Γ (ho x) (.ref q)) (pi : ∀ x, EP TL X a Γ (ho x) (.int (iv x)))
    (pr : ∀ x n, SS TL X cA E rest Γ (h2 x n) (k2 x n) oN oJ oR he) (eo : ∀ x, out x = f (v x) := by intros; rfl) (hj : ∀ x, (ho x)[j]? = some (q, .lst ((xs x).map f)) := by intros; rfl) (e2 : ∀ x n, h2 x n = (ho x).set j (q, .lst (((xs x).set n (v x)).map f)) := by intros; rfl)
    (hs : swapsWithSole [.Subscript o a p] e pos.line X.env = pure false := by rfl) (hw : swappedStores [.Subscript o a p] e X.env = pure none := by rfl) (h1 : (assignEach [.Subscript o a p] X.env).map (·.2) = [assign (.Subscript o a p) X.env] := by rfl)
    (hg : ∀ {to ti : TE} {t : TSet}, PE X o to → PE X a ti → PSet X t → PG X (.Subscript o a p) (gSub to ti t) := by intro _ _ _ p1 p2 p3; exact pg_sub p1 p2 p3) :
    SS TL X cA E (.Assign [.Subscript o a p] e pos :: rest) Γ h (re.bind fun x => (Res.ofO (ixN (xs x).length (iv x))).bind fun n => k2 x n) oN oJ oR he := by
  have k := ss_seti (kk := fun _ => Res.bad) (ds := fun x => (xs x).map f) j pv po pi pr hj (fun x n => by rw [e2, List.map_set, eo]) hs hw h1 hg
  simpa only [List.length_map] using k
end
end TH
set_option Elab.async false
set_option linter.all false
set_option maxRecDepth 100000
set_option maxHeartbeats 2000000
/-! TB29: the dice. -/
namespace TH
open PySem PySem.Spec PyProof.Rows L2
/-- a draw: any of 0 .. n - 1 -/
def rollM (n : Int) : Res Empty Int := if 0 < n ∧ n < 1073741824 then .pick n.toNat fun k => .ok (k : Int) else .bad
section
variable {TL : List (Addr × Str)} {K : PySem.W.Frag} {R : Own} {H : Hp} {a : Addr}
theorem HR.dice_lst (hr : HR TL K R [(a, .dice)] H) : ∃ x y z, diceOk x y z ∧ HR TL K R [(a, .lst ([x, y, z].map D.int))] H := by
  obtain ⟨x, y, z, e, ok⟩ := hr.at_ (a, .dice) (by simp)
  refine ⟨x, y, z, ok, hr.nd, hr.ap, fun q hq => ?_, hr.tb⟩
  have : q = (a, O.lst ([x, y, z].map D.int)) := by simpa using hq
  subst this
  exact ⟨_, e, .cons (by simp [Rep]) (.cons (by simp [Rep]) (.cons (by simp [Rep]) .nil))⟩
theorem HR.lst_dice {x y z : Int} (ok : diceOk x y z) (hr : HR TL K R [(a, .lst ([x, y, z].map D.int))] H) : HR TL K R [(a, .dice)] H := by
  obtain ⟨xs, e, r⟩ := hr.at_ (a, .lst ([x, y, z].map D.int)) (by simp)
  refine ⟨hr.nd, hr.ap, fun q hq => ?_, hr.tb⟩
  have : q = (a, O.dice) := by simpa using hq
  subst this
  simp only [List.map_cons, List.map_nil, Reps] at r
  obtain ⟨x1, r1, rfl, e1, x2, r2, rfl, e2, x3, r3, rfl, e3, rfl⟩ := r
  rw [e1.int_eq, e2.int_eq, e3.int_eq] at e
  exact ⟨x, y, z, e, ok⟩
end
/-- what the dice's own reckoning must be -/
def RollOk (m : List Int → Int → Res Empty (Int × List Int)) : Prop := ∀ x y z n : Int, diceOk x y z → 0 < n → n < 1073741824 → ∃ v x' y' z', m [x, y, z] n = .ok (v, [x', y', z']) ∧ 0 ≤ v ∧ v < n ∧ diceOk x' y' z'
theorem roll_dice {TL : List (Addr × Str)} {P : Program} {w : World} {K : PySem.W.Frag} {mg : Str → Option Value} {base : Heap} {cA : CA} {k : Nat} {f : Addr} {fd : FuncData} {ps : List Str} {m : List Int → Int → Res Empty (Int × List Int)} (hm : RollOk m)
    {hx : Addr × List Int × Int → Empty → SH}
    (F : FnOk P w K mg base (L2.CX P w) k f fd ps (spM TL K cA (fun i : Addr × List Int × Int => [D.ref i.1, D.int i.2.2]) (fun i => [(i.1, O.lst (i.2.1.map D.int))]) (fun i => m i.2.1 i.2.2) (fun i b S => S = (D.int b.1, [(i.1, O.lst (b.2.map D.int))])) hx)) :
    FnOk P w K mg base (L2.CX P w) k f fd ps (spM TL K cA (fun i : Addr × Int => [D.ref i.1, D.int i.2]) (fun i => [(i.1, O.dice)]) (fun i => rollM i.2) (fun i b S => S = (D.int b, [(i.1, O.dice)])) fun _ (e : Empty) => e.elim) := by
  have key : ∀ vs H Q E E', spM TL K cA (fun i : Addr × Int => [D.ref i.1, D.int i.2]) (fun i => [(i.1, O.dice)]) (fun i => rollM i.2) (fun i b S => S = (D.int b, [(i.1, O.dice)])) (fun _ (e : Empty) => e.elim) vs H Q E →
      spM TL K cA (fun i : Addr × List Int × Int => [D.ref i.1, D.int i.2.2]) (fun i => [(i.1, O.lst (i.2.1.map D.int))]) (fun i => m i.2.1 i.2.2) (fun i b S => S = (D.int b.1, [(i.1, O.lst (b.2.map D.int))])) hx vs H Q E' := by
    rintro vs H Q E E' ⟨⟨a, n⟩, R, h1, h2, h3⟩
    obtain ⟨x, y, z, ok, h1'⟩ := h1.dice_lst
    have h3 : (rollM n).wp (fun b => ∀ S, S = (D.int b, [(a, O.dice)]) → ∀ v H', HR TL K R S.2 H' → Fr R [(a, O.dice)] S.2 H H' → Rep K (own R S.2) H' S.1 v → Q v H') (fun x e => ∀ cls d H', HR TL K R (e.elim : SH) H' → Fr R [(a, O.dice)] (e.elim : SH) H H' → XR cA x cls d H' → E cls d H') := h3
    unfold rollM at h3
    split at h3
    · rename_i c
      obtain ⟨v, x', y', z', e, v0, v1, ok'⟩ := hm x y z n ok c.1 c.2
      refine ⟨(a, [x, y, z], n), R, h1', h2, ?_⟩
      show Res.wp (m [x, y, z] n) _ _
      rw [e]
      intro S hS u H' a1 a2 a3
      subst hS
      have h4 := h3 v.toNat (by show v.toNat < n.toNat; omega)
      have h5 : ∀ S, S = (D.int (v.toNat : Int), [(a, O.dice)]) → ∀ v H', HR TL K R S.2 H' → Fr R [(a, O.dice)] S.2 H H' → Rep K (own R S.2) H' S.1 v → Q v H' := h4
      have ev : (v.toNat : Int) = v := Int.toNat_of_nonneg v0
      refine h5 _ rfl u H' (HR.lst_dice ok' a1) a2 ?_
      rw [ev]
      exact a3
    · exact h3.elim
  exact ⟨fun vs H Q E h => F.len vs H Q E (key vs H Q E E h), fun A outer s H as us vs Q E h1 h2 h3 h4 h => F.run A outer s H as us vs Q E h1 h2 h3 h4 (key vs H Q E E h)⟩
end TH
set_option Elab.async false
set_option linter.all false
set_option maxRecDepth 100000
set_option maxHeartbeats 2000000
/-! TB30: the classes apart; told, from facts; a call without arguments. -/
namespace TH
open PySem PySem.Spec PyProof.Rows L2
def reps : List Ex := [.size, .plan, .such, .room, .way, .gives, .text 0, .deed]
def rep (x : Ex) : Ex := match x with
  | .text _ => .text 0
  | y => y
theorem rep_mem (x : Ex) : rep x ∈ reps := by cases x <;> simp [rep, reps]
theorem rep_no (x : Ex) : (rep x).no = x.no := by cases x <;> rfl
theorem rep_cK (K : PySem.W.Frag) (x : Ex) : cK K (rep x) = cK K x := by cases x <;> rfl
end TH
set_option Elab.async false
set_option linter.all false
set_option maxRecDepth 100000
set_option maxHeartbeats 2000000
/-! TB31: dicts read. -/
namespace TH
open PySem PySem.Spec PyProof.Rows L2
/-- a type of keys -/
structure TyK {κ : Type} (g : κ → D) where
  key : κ → Key
  is : ∀ k, g k = kD (key k)
  inj : ∀ a b, key a = key b → a = b
def tyk_str : TyK (fun i : Str => D.str i) := ⟨.inr, fun _ => rfl, fun a b h => by injection h⟩
theorem kD_inj {a b : Key} (h : kD a = kD b) : a = b := by
  cases a <;> cases b <;> simp [kD] at h <;> rw [h]
def lookT {κ α : Type} [DecidableEq κ] : List (κ × α) → κ → Option α
  | [], _ => none
  | p :: ps, k => if p.1 = k then some p.2 else lookT ps k
section
variable {K : PySem.W.Frag} {W : Own} {H : Hp} {κ α : Type} [DecidableEq κ] {g : κ → D} {f : α → D}
theorem dk_keys (T : TyK g) : ∀ {ps : List (κ × α)} {kv : List (Key × V)}, ps.map (fun q => g q.1) = kv.map (fun q => kD q.1) → kv.map (·.1) = ps.map fun q => T.key q.1
  | [], [], _ => rfl
  | [], _ :: _, h => by simp at h
  | _ :: _, [], h => by simp at h
  | p :: ps, q :: kv, h => by
    simp only [List.map_cons, List.cons.injEq] at h ⊢
    rw [T.is] at h
    exact ⟨(kD_inj h.1).symm, dk_keys T h.2⟩
theorem dk_get (T : TyK g) (k : κ) : ∀ {ps : List (κ × α)} {kv : List (Key × V)}, kv.map (·.1) = (ps.map fun q => T.key q.1) → Reps K W H (ps.map fun q => f q.2) (kv.map (·.2)) →
    (lookT ps k = none ∧ valV kv (T.key k) = none) ∨ ∃ a v, lookT ps k = some a ∧ valV kv (T.key k) = some v ∧ Rep K W H (f a) v
  | [], [], _, _ => .inl ⟨rfl, rfl⟩
  | [], _ :: _, h, _ => by simp at h
  | _ :: _, [], h, _ => by simp at h
  | p :: ps, q :: kv, h, r => by
    simp only [List.map_cons, List.cons.injEq] at h
    simp only [List.map_cons, Reps] at r
    obtain ⟨x, t, e, r1, r2⟩ := r
    injection e with e1 e2
    subst e1 e2
    by_cases c : p.1 = k
    · refine .inr ⟨p.2, q.2, if_pos c, valV_pos (by rw [h.1, c]), r1⟩
    · have nk : ¬ q.1 = T.key k := fun z => c (T.inj _ _ (h.1.symm.trans z))
      rcases dk_get T k h.2 r2 with ⟨e3, e4⟩ | ⟨a, v, e3, e4, e5⟩
      · exact .inl ⟨(if_neg c).trans e3, (valV_neg nk).trans e4⟩
      · exact .inr ⟨a, v, (if_neg c).trans e3, (valV_neg nk).trans e4, e5⟩
theorem Rep.dic_at {ps : List (κ × α)} {x : V} (T : TyK g) (r : Rep K W H (.dic false (ps.map fun q => g q.1) (ps.map fun q => f q.2)) x) :
    ∃ p kv, x = .ref p ∧ ¬ W p ∧ Rd H p (.dK kv) ∧ kv.map (·.1) = (ps.map fun q => T.key q.1) ∧ Reps K W H (ps.map fun q => f q.2) (kv.map (·.2)) ∧ ∀ q ∈ kv, keyOk q.1 = true := by
  simp only [Rep] at r
  obtain ⟨p, xs, e, nw, d, rs⟩ := r
  rcases d with ⟨kv, rd, _, ek, ko, ex⟩ | ⟨kv, rd, z, _⟩
  · subst ex
    exact ⟨p, kv, e, nw, rd, dk_keys T ek, rs, ko⟩
  · cases z
theorem key_v (T : TyK g) {k : κ} {y : V} (r : Rep K W H (g k) y) : y = kV (T.key k) := by
  rw [T.is] at r
  cases e : T.key k with
  | inl i => rw [e] at r; exact r.int_eq
  | inr s => rw [e] at r; exact r.str_eq.1
end
end TH
set_option Elab.async false
set_option linter.all false
set_option maxRecDepth 100000
set_option maxHeartbeats 2000000
/-! TB32: dicts walked. -/
namespace TH
open PySem PySem.Spec PyProof.Rows L2
section
variable {TL : List (Addr × Str)} {K : PySem.W.Frag} {R : Own} {h : SH} {H H' : Hp}
/-- cells as they were, the rest by Fr -/
theorem HR.same (hr : HR TL K R h H) (f : Fr R h h H H') (e : ∀ a, dom h a → H' a = H a) (tb : LamX.Tabs TL H') : HR TL K R h H' := by
  have kk := keeps_fr (R := R) f
  refine ⟨hr.nd, fun q hq => ?_, fun q hq => ?_, tb⟩
  · obtain ⟨⟨v, ev, n⟩, q2⟩ := hr.ap q hq
    obtain ⟨_, o', e', _, eq⟩ := f q v q2 ev n.1
    exact ⟨⟨o', e', by rw [eq hq]; exact n⟩, q2⟩
  · have x := hr.at_ q hq
    have eH := e q.1 (List.mem_map.mpr ⟨q, hq, rfl⟩)
    obtain ⟨b, ob⟩ := q
    have eH : H' b = H b := eH
    cases ob with
    | lst ds => obtain ⟨xs, e, r⟩ := x; exact ⟨xs, eH.trans e, Reps.keep kk _ _ r⟩
    | dic lk tk ks vs =>
      have dk : ∀ {tk ks xs}, DK H b tk ks xs → DK H' b tk ks xs := fun {tk ks xs} e => e.sim fun o ho _ => ⟨o, eH.trans ho, Sim.refl o⟩
      cases lk with
      | none => obtain ⟨xs, e, r, n⟩ := x; exact ⟨xs, dk e, Reps.keep kk _ _ r, fun ob u z => n ob u (eH.symm.trans z)⟩
      | some u => obtain ⟨xs, e, r, n, m⟩ := x; exact ⟨xs, dk e, Reps.keep kk _ _ r, eH.trans n, m⟩
    | ins C ns vs => obtain ⟨dx, fs, e, en, r⟩ := x; exact ⟨dx, fs, eH.trans e, en, Reps.keep kk _ _ r⟩
    | dice => obtain ⟨x, y, z, e, r⟩ := x; exact ⟨x, y, z, eH.trans e, r⟩
    | tupN ds => obtain ⟨xs, ob, e, n, r⟩ := x; exact ⟨xs, ob, eH.trans e, n, Reps.keep kk _ _ r⟩
/-- a dict that is no cell is locked for ever -/
theorem HR.frz {d : Addr} {u : HO} {od : Obj} (hr : HR TL K R h H) (nw : ¬ own R h d) (e : H d = some u) (pu : isDk u = true) : HR TL K R h (upd H d (.frz od u)) ∧ Fr R h h H (upd H d (.frz od u)) := by
  have f : Fr R h h H (upd H d (.frz od u)) := fun q v n ev nt => by
    by_cases c : q = d
    · subst c
      rw [e] at ev
      cases ev
      exact ⟨n, _, upd_same, .inr ⟨pu, od, rfl⟩, fun z => (nw (.inl z)).elim⟩
    · exact ⟨n, v, by rw [upd_ne c]; exact ev, Sim.refl v, fun _ => rfl⟩
  exact ⟨hr.same f (fun a ha => upd_ne fun z => nw (.inr (z ▸ ha))) (tabs_put hr.tb e (by cases u <;> first | rfl | cases pu)), f⟩
end
/-- e is a dict; it is locked from here on -/
theorem pe_frzD {X : Cx} {e : Expr} {td : TE} (p : PE X e td) : PE X e fun σ H Q => td σ H fun x H1 => ∃ d kv, x = .ref d ∧ ((H1 d = some (.dK kv) ∧ ∀ od, Q x (upd H1 d (.frz od (.dK kv)))) ∨ ∃ od, H1 d = some (.frz od (.dK kv)) ∧ Q x H1) :=
  ⟨fun pins s σ H Q I q => thn (p.run pins s σ H _ I q) fun v s1 ⟨x, H1, I1, rx, d, kv, ex, q⟩ => by
    rcases q with ⟨e1, q⟩ | ⟨od, e1, q⟩
    · obtain ⟨od, I2⟩ := I1.lock e1 trivial
      exact ⟨x, _, I2, rx, q od⟩
    · exact ⟨x, _, I1, rx, q⟩⟩
end TH
set_option Elab.async false
set_option linter.all false
set_option maxRecDepth 100000
set_option maxHeartbeats 2000000
/-! TB33: loops over dicts. -/
namespace TH
open PySem PySem.Spec PyProof.Rows L2
section
variable {TL : List (Addr × Str)} {X : Cx} {cA : CA} {Wx : WX} {Γ : En} {h : SH} {ε κ α : Type} [DecidableEq κ] {he : ε → SH} {e tg : Expr} {g : κ → D} {f : α → D} {ps : List (κ × α)}
/-- a value dict, locked -/
theorem dic_frz {R : Own} {H : Hp} {x : V} {Q : VK} (T : TyK g) (hr : HR TL X.K R h H) (r : Rep X.K (own R h) H (.dic false (ps.map fun q => g q.1) (ps.map fun q => f q.2)) x)
    (k : ∀ d od kv H', x = .ref d → H' d = some (.frz od (.dK kv)) → ¬ own R h d → kv.map (·.1) = (ps.map fun q => T.key q.1) → Reps X.K (own R h) H' (ps.map fun q => f q.2) (kv.map (·.2)) → (∀ q ∈ kv, keyOk q.1 = true) → HR TL X.K R h H' → Fr R h h H H' → Q x H') :
    ∃ d kv, x = .ref d ∧ ((H d = some (.dK kv) ∧ ∀ od, Q x (upd H d (.frz od (.dK kv)))) ∨ ∃ od, H d = some (.frz od (.dK kv)) ∧ Q x H) := by
  obtain ⟨d, kv, rfl, nw, rd, ek, rs, ko⟩ := r.dic_at T
  refine ⟨d, kv, rfl, ?_⟩
  rcases rd with rd | ⟨od, rd⟩
  · refine .inl ⟨rd, fun od => ?_⟩
    obtain ⟨g1, g2⟩ := hr.frz (od := od) nw rd rfl
    exact k d od kv _ rfl upd_same nw ek (rs.fr g2) ko g1 g2
  · exact .inr ⟨od, rd, k d od kv H rfl rd nw ek rs ko hr (Fr.refl h H)⟩
end
end TH
set_option Elab.async false
set_option linter.all false
set_option maxRecDepth 100000
set_option maxHeartbeats 2000000
/-! TB34: loops over a dict's values and pairs. -/
namespace TH
open PySem PySem.Spec PyProof.Rows L2
end TH
set_option Elab.async false
set_option linter.all false
set_option maxRecDepth 100000
set_option maxHeartbeats 2000000
/-! TB35: lists of dicts, dicts made. -/
namespace TH
open PySem PySem.Spec PyProof.Rows L2
section
variable {K : PySem.W.Frag} {W : Own} {H : Hp} {κ α : Type} [DecidableEq κ] {g : κ → D} {f : α → D}
theorem keys_reps (T : TyK g) : ∀ {ps : List (κ × α)} {kv : List (Key × V)}, kv.map (·.1) = (ps.map fun q => T.key q.1) → (∀ q ∈ kv, keyOk q.1 = true) → Reps K W H (ps.map fun q => g q.1) (kv.map fun q => kV q.1)
  | [], [], _, _ => .nil
  | [], _ :: _, h, _ => by simp at h
  | _ :: _, [], h, _ => by simp at h
  | p :: ps, q :: kv, h, ko => by
    simp only [List.map_cons, List.cons.injEq] at h
    refine .cons ?_ (keys_reps T h.2 fun x hx => ko x (List.mem_cons_of_mem _ hx))
    show Rep K W H (g p.1) (kV q.1)
    rw [T.is, ← h.1]
    have k := ko q (List.mem_cons_self)
    cases e : q.1 with
    | inl i => exact Rep.int
    | inr s => rw [e] at k; simp only [kD, Rep]; exact ⟨rfl, k⟩
end
end TH
set_option Elab.async false
set_option linter.all false
set_option maxRecDepth 100000
set_option maxHeartbeats 2000000
/-! TB36: dicts made. -/
namespace TH
open PySem PySem.Spec PyProof.Rows L2
section
variable {κ α : Type} [DecidableEq κ]
def putT (ps : List (κ × α)) (k : κ) (v : α) : List (κ × α) := if (lookT ps k).isSome = true then ps.map (fun p => if p.1 = k then (p.1, v) else p) else ps ++ [(k, v)]
def dictT (ps : List (κ × α)) : List (κ × α) := ps.foldl (fun acc p => putT acc p.1 p.2) []
end
section
variable {TL : List (Addr × Str)} {K : PySem.W.Frag} {R : Own} {h : SH} {H : Hp} {a : Addr}
/-- what stands at an own address is written anew -/
theorem HR.updR {u u' : HO} (e : HR TL K R h H) (ra : R a) (ea : H a = some u) (pu : plainO u = true) (pu' : NU u') : HR TL K R h (upd H a u') := by
  have nd := (e.ap a ra).2
  refine ⟨e.nd, fun p hp => ?_, fun q hq => ?_, tabs_put e.tb ea pu⟩
  · refine ⟨?_, (e.ap p hp).2⟩
    by_cases z : p = a
    · rw [z]; exact ⟨_, upd_same, pu'⟩
    · rw [upd_ne z]; exact (e.ap p hp).1
  · have nq : q.1 ≠ a := fun z => nd (by rw [← z]; exact List.mem_map.mpr ⟨q, hq, rfl⟩)
    exact (e.at_ q hq).keep (fun p u n eu _ => ⟨n, u, by rw [upd_ne (fun z => n (.inl (by rw [z]; exact ra)))]; exact eu, Sim.refl u⟩) (upd_ne nq)
theorem Reps.updR {u' : HO} {ds : List D} {xs : List V} (r : Reps K (own R h) H ds xs) (ra : R a) : Reps K (own R h) (upd H a u') ds xs :=
  Reps.keep (fun p o n e nt => ⟨n, o, by rw [upd_ne (fun z => n (.inl (by rw [z]; exact ra)))]; exact e, Sim.refl o⟩) _ _ r
end
section
variable {K : PySem.W.Frag} {W : Own} {H : Hp} {κ α : Type} [DecidableEq κ] {g : κ → D} {f : α → D}
theorem dk_isSome (T : TyK g) (k : κ) {ps : List (κ × α)} {kv : List (Key × V)} (e : kv.map (·.1) = (ps.map fun q => T.key q.1)) (r : Reps K W H (ps.map fun q => f q.2) (kv.map (·.2))) : (lookT ps k).isSome = (valV kv (T.key k)).isSome := by
  rcases dk_get T k e r with ⟨e3, e4⟩ | ⟨a, v, e3, e4, _⟩
  · rw [e3, e4] <;> rfl
  · rw [e3, e4] <;> rfl
theorem dk_map (T : TyK g) {k : κ} {a : α} {v : V} (ra : Rep K W H (f a) v) : ∀ {ps : List (κ × α)} {kv : List (Key × V)}, kv.map (·.1) = (ps.map fun q => T.key q.1) → Reps K W H (ps.map fun q => f q.2) (kv.map (·.2)) →
    ((kv.map fun q => if q.1 = T.key k then (q.1, v) else q).map (·.1) = ((ps.map fun p => if p.1 = k then (p.1, a) else p).map fun q => T.key q.1)) ∧ Reps K W H ((ps.map fun p => if p.1 = k then (p.1, a) else p).map fun q => f q.2) ((kv.map fun q => if q.1 = T.key k then (q.1, v) else q).map (·.2))
  | [], [], _, _ => ⟨rfl, .nil⟩
  | [], _ :: _, h, _ => by simp at h
  | _ :: _, [], h, _ => by simp at h
  | p :: ps, q :: kv, h, r => by
    simp only [List.map_cons, List.cons.injEq] at h
    simp only [List.map_cons, Reps] at r
    obtain ⟨x, t, e, r1, r2⟩ := r
    injection e with e1 e2
    subst e1 e2
    obtain ⟨i1, i2⟩ := dk_map T ra h.2 r2
    simp only [List.map_cons]
    by_cases c : p.1 = k
    · have cq : q.1 = T.key k := by rw [h.1, c]
      rw [if_pos c, if_pos cq]
      exact ⟨by simp only [List.cons.injEq]; exact ⟨h.1, i1⟩, .cons ra i2⟩
    · have cq : ¬ q.1 = T.key k := fun z => c (T.inj _ _ (h.1.symm.trans z))
      rw [if_neg c, if_neg cq]
      exact ⟨by simp only [List.cons.injEq]; exact ⟨h.1, i1⟩, .cons r1 i2⟩
theorem dk_put (T : TyK g) {k : κ} {a : α} {v : V} (ra : Rep K W H (f a) v) {ps : List (κ × α)} {kv : List (Key × V)} (e : kv.map (·.1) = (ps.map fun q => T.key q.1)) (r : Reps K W H (ps.map fun q => f q.2) (kv.map (·.2))) :
    (putK kv (T.key k) v).map (·.1) = ((putT ps k a).map fun q => T.key q.1) ∧ Reps K W H ((putT ps k a).map fun q => f q.2) ((putK kv (T.key k) v).map (·.2)) := by
  have s := dk_isSome T k e r
  unfold putT putK
  rw [valV_any, s]
  split
  · exact dk_map T ra e r
  · rw [List.map_append, List.map_append, List.map_append, List.map_append, e]
    exact ⟨rfl, r.app (.cons ra .nil)⟩
theorem dk_merge (T : TyK g) : ∀ {more : List (κ × α)} {ps : List (κ × α)} {kv km : List (Key × V)}, kv.map (·.1) = (ps.map fun q => T.key q.1) → Reps K W H (ps.map fun q => f q.2) (kv.map (·.2)) → km.map (·.1) = (more.map fun q => T.key q.1) → Reps K W H (more.map fun q => f q.2) (km.map (·.2)) →
    (mergeK kv km).map (·.1) = ((more.foldl (fun acc p => putT acc p.1 p.2) ps).map fun q => T.key q.1) ∧ Reps K W H ((more.foldl (fun acc p => putT acc p.1 p.2) ps).map fun q => f q.2) ((mergeK kv km).map (·.2))
  | [], _, _, [], e, r, _, _ => ⟨e, r⟩
  | [], _, _, _ :: _, _, _, h, _ => by simp at h
  | _ :: _, _, _, [], _, _, h, _ => by simp at h
  | p :: more, ps, kv, q :: km, e, r, h, rm => by
    simp only [List.map_cons, List.cons.injEq] at h
    simp only [List.map_cons, Reps] at rm
    obtain ⟨x, t, ee, r1, r2⟩ := rm
    injection ee with e1 e2
    subst e1 e2
    obtain ⟨i1, i2⟩ := dk_put T (k := p.1) r1 e r
    have := dk_merge T i1 i2 h.2 r2
    rw [← h.1] at this
    exact this
theorem dk_ok (T : TyK g) : ∀ {ps : List (κ × α)} {kv : List (Key × V)}, kv.map (·.1) = (ps.map fun q => T.key q.1) → (∀ q ∈ ps, keyOk (T.key q.1) = true) → ∀ q ∈ kv, keyOk q.1 = true
  | [], [], _, _ => fun _ h => by cases h
  | [], _ :: _, h, _ => by simp at h
  | _ :: _, [], h, _ => by simp at h
  | p :: ps, q :: kv, h, k => by
    simp only [List.map_cons, List.cons.injEq] at h
    intro z hz
    rcases List.mem_cons.mp hz with rfl | hz
    · rw [h.1]; exact k p List.mem_cons_self
    · exact dk_ok T h.2 (fun q hq => k q (List.mem_cons_of_mem _ hq)) z hz
theorem dk_of_map (T : TyK g) {ps : List (κ × α)} {kv : List (Key × V)} (e : kv.map (·.1) = (ps.map fun q => T.key q.1)) : (ps.map fun q => g q.1) = kv.map (fun q => kD q.1) := by
  have : (ps.map fun q => g q.1) = (ps.map fun q => T.key q.1).map kD := by
    rw [List.map_map]
    exact List.map_congr_left fun q _ => T.is q.1
  rw [this, ← e, List.map_map] <;> rfl
theorem mem_putT {ps : List (κ × α)} {k : κ} {v : α} {q : κ × α} (h : q ∈ putT ps k v) : q.1 = k ∨ ∃ p ∈ ps, p.1 = q.1 := by
  unfold putT at h
  split at h
  · obtain ⟨p, hp, e⟩ := List.mem_map.mp h
    split at e
    · exact .inr ⟨p, hp, by rw [← e]⟩
    · exact .inr ⟨p, hp, by rw [← e]⟩
  · rcases List.mem_append.mp h with h | h
    · exact .inr ⟨q, h, rfl⟩
    · rw [List.mem_singleton.mp h]; exact .inl rfl
theorem mem_merge : ∀ {more ps : List (κ × α)} {q : κ × α}, q ∈ more.foldl (fun acc p => putT acc p.1 p.2) ps → (∃ p ∈ ps, p.1 = q.1) ∨ ∃ p ∈ more, p.1 = q.1
  | [], ps, q, h => .inl ⟨q, h, rfl⟩
  | p :: more, ps, q, h => by
    rcases mem_merge (more := more) h with ⟨p2, h2, e2⟩ | ⟨p2, h2, e2⟩
    · rcases mem_putT h2 with e | ⟨p3, h3, e3⟩
      · exact .inr ⟨p, List.mem_cons_self, by rw [← e2, e]⟩
      · exact .inl ⟨p3, h3, by rw [e3, e2]⟩
    · exact .inr ⟨p2, List.mem_cons_of_mem _ h2, e2⟩
end
section
variable {TL : List (Addr × Str)} {K : PySem.W.Frag} {R : Own} {h : SH} {H : Hp} {κ α : Type} [DecidableEq κ] {g : κ → D} {f : α → D}
/-- a cell that is given up stands as it is -/
theorem Rep.frzDc {a : Addr} {tk : Bool} {ks vs : List D} (hr : HR TL K R (h ++ [(a, .dic none tk ks vs)]) H) : Rep K (own R h) H (.dic tk ks vs) (.ref a) := by
  obtain ⟨xs, e, r, _⟩ := hr.at_ (a, .dic none tk ks vs) (List.mem_append_right _ List.mem_cons_self)
  have e : DK H a tk ks xs := e
  have s : List.Sublist h (h ++ [(a, .dic none tk ks vs)]) := List.sublist_append_left _ _
  have na : ¬ own R h a := by
    rintro (z | z)
    · exact (hr.ap a z).2 (dom_app.mpr (.inr (by simp [dom])))
    · have nd := hr.nd
      rw [List.map_append, List.nodup_append] at nd
      exact nd.2.2 a z a (by simp) rfl
  simp only [Rep]
  exact ⟨a, xs, rfl, na, e, r.drop' s⟩
/-- a new dict as a cell -/
theorem HR.newD {p : Addr} {kv : List (Key × V)} {ps : List (κ × α)} (T : TyK g) (hr : HR TL K R h H) (hp : H p = none) (e : kv.map (·.1) = (ps.map fun q => T.key q.1)) (r : Reps K (own R h) H (ps.map fun q => f q.2) (kv.map (·.2))) (ko : ∀ q ∈ kv, keyOk q.1 = true) :
    HR TL K R (h ++ [(p, .dic none false (ps.map fun q => g q.1) (ps.map fun q => f q.2))]) (upd H p (.dK kv)) ∧ Fr R h (h ++ [(p, .dic none false (ps.map fun q => g q.1) (ps.map fun q => f q.2))]) H (upd H p (.dK kv)) := by
  refine hr.new hp ⟨kv.map (·.2), .inl ⟨kv, .inl upd_same, rfl, dk_of_map T e, ko, rfl⟩, ?_, fun ob u z => ?_⟩ (fun ps z => by cases z)
  · exact Reps.keep (fun q o n e nt => ⟨fun z => z.elim (fun z => n (.inl z)) fun z => (dom_app.mp z).elim (fun z => n (.inr z)) fun z => ne_of_none e hp (by simpa [dom] using z), o, upd_keep hp q o e, Sim.refl o⟩) _ _ r
  · rw [upd_same] at z; cases z
end
section
variable {TL : List (Addr × Str)} {X : Cx} {cA : CA} {Wx : WX} {Γ : En} {h : SH} {ε β κ α : Type} [DecidableEq κ] {he : ε → SH} {e a : Expr} {pos : Pos} {g : κ → D} {f : α → D} {da : D}
/-- a new dict is not kept apart -/
theorem ev_enD {r : Res ε β} {tk : Bool} {ok ov : β → List D} {ha : β → SH} {out : β → D} (q : EN TL X cA Wx e Γ h r (NC (fun b => .dic none tk (ok b) (ov b)) ha) he) (e1 : ∀ b, out b = .dic tk (ok b) (ov b) := by intros; rfl) : EV TL X cA Wx e Γ h r out ha he :=
  PEimp q fun σ H Q ⟨R, hE, hH, w⟩ => ⟨R, hE, hH, Res.wp_mono (fun b k d h' ⟨a, ed, eh⟩ v H' x f c => by
    subst ed eh
    have hv : v = .ref a := by simpa only [Rep] using c
    subst hv
    exact k _ H' (x.drop (List.sublist_append_left _ _)) (f.trans (Fr.drop (List.sublist_append_left _ _))) (by rw [e1]; exact Rep.frzDc x)) (fun _ _ k => k) w⟩
/-- {} -/
theorem en_dnil {g : κ → D} {f : α → D} : EN TL X cA Wx (.Dict [] [] pos) Γ h (.ok ([] : List (κ × α)) : Res ε (List (κ × α))) (NC (fun ps : List (κ × α) => .dic none false (ps.map fun q => g q.1) (ps.map fun q => f q.2)) fun _ => h) he :=
  PEimp pe_dnewK fun σ H Q ⟨R, hE, hH, w⟩ p hp => by
    obtain ⟨g1, g2⟩ := hH.new (o := .dic none false [] []) hp ⟨[], .inl ⟨[], .inl upd_same, rfl, rfl, (fun _ z => by cases z), rfl⟩, .nil, fun ob u z => by rw [upd_same] at z; cases z⟩ (fun ps z => by cases z)
    exact w _ _ ⟨p, rfl, rfl⟩ _ _ g1 g2 (by simp [Rep])
/-- pairs of a display, total -/
def EPs (TL : List (Addr × Str)) (X : Cx) (Γ : En) (h : SH) : List (Option Expr) → List Expr → List (D × D) → Prop
  | [], [], [] => True
  | some k :: ks, v :: vs, p :: ps => EP TL X k Γ h p.1 ∧ EP TL X v Γ h p.2 ∧ EPs TL X Γ h ks vs ps
  | _, _, _ => False
def TRs (TL : List (Addr × Str)) (X : Cx) (Γ : En) (h : SH) : List (D × D) → List (TE × TE)
  | [] => []
  | p :: ps => (fun σ H Q => ∃ R, ER X.K (own R h) Γ σ H ∧ HR TL X.K R h H ∧ ∀ v H', HR TL X.K R h H' → Fr R h h H H' → Rep X.K (own R h) H' p.1 v → Q v H',
    fun σ H Q => ∃ R, ER X.K (own R h) Γ σ H ∧ HR TL X.K R h H ∧ ∀ v H', HR TL X.K R h H' → Fr R h h H H' → Rep X.K (own R h) H' p.2 v → Q v H') :: TRs TL X Γ h ps
theorem eps_pps : ∀ {ks : List (Option Expr)} {vs : List Expr} {ps : List (D × D)}, EPs TL X Γ h ks vs ps → PPs X pos ks vs (TRs TL X Γ h ps)
  | [], [], [], _ => pps_nil
  | some k :: ks, v :: vs, p :: ps, ⟨a, b, c⟩ => pps_cons a b (eps_pps c)
  | [], [], _ :: _, q => q.elim
  | [], _ :: _, _, q => q.elim
  | none :: _, _, _, q => q.elim
  | some _ :: _, [], _, q => q.elim
  | some _ :: _, _ :: _, [], q => q.elim
theorem trs_run {σ : L2.St} : ∀ {ps : List (D × D)} {R : Own} {H : Hp} {Q : List (V × V) → Hp → Prop}, ER X.K (own R h) Γ σ H → HR TL X.K R h H →
    (∀ us H', HR TL X.K R h H' → Fr R h h H H' → Reps X.K (own R h) H' (ps.map (·.1)) (us.map (·.1)) → Reps X.K (own R h) H' (ps.map (·.2)) (us.map (·.2)) → Q us H') → tPairs (TRs TL X Γ h ps) σ H Q
  | [], R, H, Q, _, hH, q => q [] H hH (Fr.refl h H) .nil .nil
  | p :: ps, R, H, Q, hE, hH, q => ⟨R, hE, hH, fun x H1 h1 f1 r1 => ⟨R, hE.fr f1, h1, fun y H2 h2 f2 r2 => trs_run (hE.fr (f1.trans f2)) h2 fun us H3 h3 f3 r3 r4 => q ((x, y) :: us) H3 h3 ((f1.trans f2).trans f3) (.cons (r1.fr (f2.trans f3)) r3) (.cons (r2.fr f3) r4)⟩⟩
theorem us_keys (T : TyK g) {K : PySem.W.Frag} {W : Own} {H : Hp} : ∀ {ps : List (κ × α)} {us : List (V × V)}, Reps K W H (ps.map fun q => g q.1) (us.map (·.1)) → ∃ kv : List (Key × V), us = kv.map (fun q => (kV q.1, q.2)) ∧ kv.map (·.1) = (ps.map fun q => T.key q.1) ∧ kv.map (·.2) = us.map (·.2) ∧ ∀ q ∈ kv, keyOk q.1 = true
  | [], [], _ => ⟨[], rfl, rfl, rfl, fun _ z => (by cases z)⟩
  | [], _ :: _, r => by simp [Reps] at r
  | _ :: _, [], r => by simp [Reps] at r
  | p :: ps, u :: us, r => by
    simp only [List.map_cons, Reps] at r
    obtain ⟨x, t, e, r1, r2⟩ := r
    injection e with e1 e2
    subst e1 e2
    obtain ⟨kv, k1, k2, k3, k4⟩ := us_keys T r2
    have ey := key_v T r1
    refine ⟨(T.key p.1, u.2) :: kv, ?_, ?_, ?_, ?_⟩
    · rw [List.map_cons, ← k1, ← ey]
    · rw [List.map_cons, List.map_cons, k2]
    · rw [List.map_cons, List.map_cons, k3]
    · intro q hq
      rcases List.mem_cons.mp hq with rfl | hq
      · rw [T.is] at r1
        show keyOk (T.key p.1) = true
        cases ek : T.key p.1 with
        | inl i => rfl
        | inr z => rw [ek] at r1; exact r1.str_eq.2
      · exact k4 q hq
/-- {k: v, ..} -/
theorem en_disp {ks : List (Option Expr)} {vs : List Expr} (T : TyK g) (ps : List (κ × α)) (q : EPs TL X Γ h ks vs (ps.map fun p => (g p.1, f p.2))) (hall : ks.all (·.isSome) = true := by rfl) (hl : ks.length = vs.length := by rfl) (h0 : ks ≠ [] := by simp) (h15 : ks.length ≤ 15 := by decide) (p15 : ps.length ≤ 15 := by decide) :
    EN TL X cA Wx (.Dict ks vs pos) Γ h (.ok (dictT ps) : Res ε (List (κ × α))) (NC (fun ps : List (κ × α) => .dic none false (ps.map fun q => g q.1) (ps.map fun q => f q.2)) fun _ => h) he :=
  PEimp (pe_disp (eps_pps q) hall hl h0 h15) fun σ H Q ⟨R, hE, hH, w⟩ p hp => by
    have hE1 : ER X.K (own (R1 R p) h) Γ σ (upd H p (.dK [])) := hE.in1 hp
    have hH1 : HR TL X.K (R1 R p) h (upd H p (.dK [])) := hH.in1 hp nu_of
    refine trs_run hE1 hH1 fun us H2 h2 f2 r1 r2 => ?_
    rw [List.map_map] at r1 r2
    obtain ⟨kv, k1, k2, k3, k4⟩ := us_keys T (ps := ps) r1
    have e2 : H2 p = some (.dK []) := by
      obtain ⟨_, o', x1, _, x2⟩ := f2 p _ (hH1.ap p (.inr rfl)).2 upd_same nt_of
      rw [x1, x2 (.inr rfl)]
    have lkv : kv.length = ps.length := by
      have := congrArg List.length k2
      rwa [List.length_map, List.length_map] at this
    refine ⟨e2, kv, k1, by omega, ?_⟩
    have r2' : Reps X.K (own (R1 R p) h) H2 (ps.map fun q => f q.2) (kv.map (·.2)) := by rw [k3]; exact r2
    obtain ⟨m1, m2⟩ := dk_merge T (ps := []) (kv := []) rfl (.nil : Reps X.K (own (R1 R p) h) H2 _ _) k2 r2'
    have h3 : HR TL X.K (R1 R p) h (upd H2 p (.dK (mergeK [] kv))) := h2.updR (.inr rfl) e2 rfl nu_of
    have h4 := h3.out1
    have np : ¬ own R h p := hH.notown hp
    have m3 : Reps X.K (own R h) (upd H2 p (.dK (mergeK [] kv))) ((dictT ps).map fun q => f q.2) ((mergeK [] kv).map (·.2)) := (Reps.updR m2 (.inr rfl)).out
    have f4 : Fr R h h H (upd H2 p (.dK (mergeK [] kv))) := fun b o n eb nt => by
      have nb : b ≠ p := ne_of_none eb hp
      obtain ⟨x1, o', x2, x3, x4⟩ := f2 b o n (by rw [upd_ne nb]; exact eb) nt
      exact ⟨x1, o', by rw [upd_ne nb]; exact x2, x3, fun z => x4 (.inl z)⟩
    have ko : ∀ q ∈ mergeK [] kv, keyOk q.1 = true := dk_ok T m1 fun q hq => by
      rcases mem_merge hq with ⟨_, z, _⟩ | ⟨p2, hp2, e⟩
      · cases z
      · rw [← e]
        obtain ⟨i, hi⟩ := List.getElem?_of_mem hp2
        have : (kv.map (·.1))[i]? = some (T.key p2.1) := by rw [k2, List.getElem?_map, hi] <;> rfl
        obtain ⟨q2, hq2, e2⟩ := List.mem_map.mp (List.mem_of_getElem? this)
        rw [← e2]
        exact k4 q2 hq2
    -- the new cell
    have dm : ∀ b, dom (h ++ [(p, O.dic none false ((dictT ps).map fun q => g q.1) ((dictT ps).map fun q => f q.2))]) b ↔ dom h b ∨ b = p := fun b => by rw [dom_app]; simp [dom]
    have f5 : Fr R h (h ++ [(p, O.dic none false ((dictT ps).map fun q => g q.1) ((dictT ps).map fun q => f q.2))]) H (upd H2 p (.dK (mergeK [] kv))) := fun b o n eb nt => by
      obtain ⟨x1, x2⟩ := f4 b o n eb nt
      exact ⟨fun z => ((dm b).mp z).elim x1 (ne_of_none eb hp), x2⟩
    have kk : ∀ b o, ¬ own R h b → ¬ b = p → upd H2 p (.dK (mergeK [] kv)) b = some o → NT o → ¬ own R (h ++ [(p, O.dic none false ((dictT ps).map fun q => g q.1) ((dictT ps).map fun q => f q.2))]) b ∧ ∃ o', upd H2 p (.dK (mergeK [] kv)) b = some o' ∧ Sim o o' := fun b o n nb eb _ => ⟨fun z => z.elim (fun z => n (.inl z)) fun z => ((dm b).mp z).elim (fun z => n (.inr z)) nb, o, eb, Sim.refl o⟩
    -- all that was there is read as before, p apart
    have kp : ∀ b o, ¬ own (R1 R p) h b → upd H2 p (.dK (mergeK [] kv)) b = some o → NT o → ¬ own R (h ++ [(p, O.dic none false ((dictT ps).map fun q => g q.1) ((dictT ps).map fun q => f q.2))]) b ∧ ∃ o', upd H2 p (.dK (mergeK [] kv)) b = some o' ∧ Sim o o' := fun b o n eb nt => kk b o (fun z => n (own_R1 z)) (fun z => n (.inl (.inr z))) eb nt
    refine w _ _ ⟨p, rfl, rfl⟩ _ _ ⟨?_, fun q hq => ?_, fun q hq => ?_, h3.tb⟩ f5 (by simp [Rep])
    · rw [List.map_append, List.nodup_append]
      exact ⟨hH.nd, by simp, fun a ha b hb e => np (.inr (by
        have hb' : b = p := by simpa using hb
        rw [← hb', ← e]
        exact ha))⟩
    · exact ⟨(h4.ap q hq).1, fun z => ((dm q).mp z).elim (h4.ap q hq).2 fun z => np (.inl (z ▸ hq))⟩
    · rcases List.mem_append.mp hq with hq | hq
      · exact (h3.at_ q hq).keep kp rfl
      · have eq : q = (p, O.dic none false ((dictT ps).map fun q => g q.1) ((dictT ps).map fun q => f q.2)) := by simpa using hq
        subst eq
        refine ⟨_, .inl ⟨_, .inl upd_same, rfl, dk_of_map T m1, ko, rfl⟩, Reps.keep kp _ _ (Reps.updR m2 (.inr rfl)), fun ob u z => ?_⟩
        have z : upd H2 p (.dK (mergeK [] kv)) p = some (.frz ob u) := z
        rw [upd_same] at z; cases z
end
end TH
set_option Elab.async false
set_option linter.all false
set_option maxRecDepth 100000
set_option maxHeartbeats 2000000
/-! TB37: dicts read, values and cells alike. -/
namespace TH
open PySem PySem.Spec PyProof.Rows L2
/-- a dict: a value, or a cell -/
def IsDk (h : SH) (d : D) (ks vs : List D) : Prop := d = .dic false ks vs ∨ ∃ a lk, d = .ref a ∧ (a, O.dic lk false ks vs) ∈ h
theorem IsDk.val {h : SH} {ks vs : List D} : IsDk h (.dic false ks vs) ks vs := .inl rfl
theorem IsDk.cell {h : SH} {ks vs : List D} {a : Addr} {lk : Option HO} (m : (a, O.dic lk false ks vs) ∈ h) : IsDk h (.ref a) ks vs := .inr ⟨a, lk, rfl, m⟩
section
variable {TL : List (Addr × Str)} {K : PySem.W.Frag} {R : Own} {h : SH} {H : Hp} {κ α : Type} [DecidableEq κ] {g : κ → D} {f : α → D} {ps : List (κ × α)} {d : D} {x : V}
theorem IsDk.at_ (i : IsDk h d (ps.map fun q => g q.1) (ps.map fun q => f q.2)) (T : TyK g) (hr : HR TL K R h H) (r : Rep K (own R h) H d x) :
    ∃ p kv, x = .ref p ∧ Rd H p (.dK kv) ∧ kv.map (·.1) = (ps.map fun q => T.key q.1) ∧ Reps K (own R h) H (ps.map fun q => f q.2) (kv.map (·.2)) ∧ ∀ q ∈ kv, keyOk q.1 = true := by
  rcases i with rfl | ⟨a, lk, rfl, m⟩
  · obtain ⟨p, kv, e, _, rd, ek, rs, ko⟩ := r.dic_at T
    exact ⟨p, kv, e, rd, ek, rs, ko⟩
  · have hv : x = .ref a := by simpa only [Rep] using r
    subst hv
    have key : ∀ xs, DK H a false (ps.map fun q => g q.1) xs → Reps K (own R h) H (ps.map fun q => f q.2) xs → ∃ p kv, V.ref a = .ref p ∧ Rd H p (.dK kv) ∧ kv.map (·.1) = (ps.map fun q => T.key q.1) ∧ Reps K (own R h) H (ps.map fun q => f q.2) (kv.map (·.2)) ∧ ∀ q ∈ kv, keyOk q.1 = true := fun xs dk rs => by
      rcases dk with ⟨kv, rd, _, ek, ko, ex⟩ | ⟨kv, rd, z, _⟩
      · subst ex
        exact ⟨a, kv, rfl, rd, dk_keys T ek, rs, ko⟩
      · cases z
    cases lk with
    | none => obtain ⟨xs, dk, rs, _⟩ := hr.at_ _ m; exact key xs dk rs
    | some u => obtain ⟨xs, dk, rs, _⟩ := hr.at_ _ m; exact key xs dk rs
theorem dk_len (T : TyK g) {kv : List (Key × V)} (e : kv.map (·.1) = (ps.map fun q => T.key q.1)) : kv.length = ps.length := by
  have := congrArg List.length e
  rwa [List.length_map, List.length_map] at this
end
section
variable {TL : List (Addr × Str)} {X : Cx} {cA : CA} {Wx : WX} {Γ : En} {h : SH} {ε β β1 β2 κ α : Type} [DecidableEq κ] {he : ε → SH} {e o e2 tg : Expr} {pos apos cpos p : Pos} {g : κ → D} {f : α → D} {ps qs : List (κ × α)} {da db : D}
/-- d[k] -/
theorem ev_dgetI {r : Res ε β} {oi : β → D} (kx : β → κ) (T : TyK g) (hu : X.A.units + 1 < cLine) (po : EP TL X o Γ h da) (is : IsDk h da (ps.map fun q => g q.1) (ps.map fun q => f q.2)) (pi : EV TL X cA Wx e Γ h r oi (fun _ => h) he) (ei : ∀ x, oi x = g (kx x) := by intros; rfl) (hs : NoSl e := by intro _ _; rfl) :
    EV TL X cA Wx (.Subscript o e pos) Γ h (r.bind fun x => Res.ofO (lookT ps (kx x))) f (fun _ => h) he :=
  PEimp (pe_dget hu po pi hs) fun σ H Q ⟨R, hE, hH, w⟩ => ⟨R, hE, hH, fun v H1 h1 f1 r1 => ⟨R, hE.fr f1, h1, Res.wp_mono (fun x w1 y H2 h2 f2 r2 => by
    obtain ⟨p, kv, rfl, rd, ek, rs, _⟩ := is.at_ T h2 (r1.fr f2)
    rw [ei] at r2
    have ey := key_v T r2
    rcases dk_get T (kx x) ek rs with ⟨e3, e4⟩ | ⟨a, u, e3, e4, e5⟩
    · rw [e3] at w1
      exact w1.elim
    · rw [e3] at w1
      have w1 : ∀ v H', HR TL X.K R h H' → Fr R h h H H' → Rep X.K (own R h) H' (f a) v → Q v H' := w1
      exact ⟨p, u, rfl, .inl ⟨kv, _, rd, ey, e4.symm⟩, w1 u H2 h2 (f1.trans f2) e5⟩) (fun x e k cls d H' a b c => k cls d H' a (f1.trans b) c) (Res.wp_bind.mp w)⟩⟩
/-- k in d -/
theorem oc_inD {k : κ} (T : TyK g) (hu : X.A.units + 1 < cLine) (is : IsDk h db (ps.map fun q => g q.1) (ps.map fun q => f q.2)) : OpR X (compareOp .In) (rOp TL X.K h (g k) db (some ()) fun _ => .bl (lookT ps k).isSome) := by
  rintro pins s σ H x y v u Q I rx ry ⟨R, hR, r1, r2, _, _, q⟩
  obtain ⟨p, kv, rfl, rd, ek, rs, _⟩ := is.at_ T hR r2
  obtain rfl : u = Value.ref p := ry
  refine d_in (o := valV kv (T.key k)) hu I (.inl ⟨kv, _, rd, key_v T r1, rfl⟩) rx fun s' I' => ⟨.bl _, H, I', rfl, q _ H hR (Fr.refl h H) ?_⟩
  rw [dk_isSome T k ek rs]
  exact Rep.bl
/-! ### == -/
def hitT [DecidableEq α] (qs : List (κ × α)) : List (κ × α) → Bool
  | [] => true
  | p :: ps => match lookT qs p.1 with
    | none => false
    | some b => decide (p.2 = b) && hitT qs ps
def eqDT [DecidableEq α] (ps qs : List (κ × α)) : Bool := decide (ps.length = qs.length) && hitT qs ps
theorem hits_of [DecidableEq α] {n : Nat} {pins : List (Addr × Obj)} {σ : L2.St} {H : Hp} {s : Shared} {A : Around} {W : Own} (I : Inv X pins σ H s) (T : TyK g) (E : TyE f n) (hn : n ≤ 60) (hu : A.units + 64 < cLine) {kq : List (Key × V)} {vq : List (Key × Value)} (rq : KV kq vq) (eq : kq.map (·.1) = (qs.map fun q => T.key q.1)) (sq : Reps X.K W H (qs.map fun q => f q.2) (kq.map (·.2))) :
    ∀ {ps : List (κ × α)} {kp : List (Key × V)} {vp : List (Key × Value)}, KV kp vp → kp.map (·.1) = (ps.map fun q => T.key q.1) → Reps X.K W H (ps.map fun q => f q.2) (kp.map (·.2)) → PySem.W.KeqHits A s vq vp (hitT qs ps)
  | [], [], _, .nil, _, _ => .nil
  | [], _ :: _, _, _, h, _ => by simp at h
  | _ :: _, [], _, _, h, _ => by simp at h
  | p :: ps, k :: kp, (key, v) :: vp, .cons hkv rr, h, r => by
    simp only [List.map_cons, List.cons.injEq] at h
    simp only [List.map_cons, Reps] at r
    obtain ⟨x, t, e, r1, r2⟩ := r
    injection e with e1 e2
    subst e1 e2
    obtain ⟨h1, h2⟩ := hkv
    have h1 : k.1 = key := h1
    have kk : key = T.key p.1 := by rw [← h1, h.1]
    have val := rq.val key
    rw [kk] at val
    unfold hitT
    rcases dk_get T p.1 eq sq with ⟨e3, e4⟩ | ⟨b, u, e3, e4, e5⟩
    · rw [e3]
      rw [e4] at val
      refine .miss ?_
      rw [kk]
      cases ev : valueAt vq (T.key p.1) with
      | none => rfl
      | some y => rw [ev] at val; exact val.elim
    · rw [e3]
      rw [e4] at val
      obtain ⟨y, hy, ry⟩ := val.some_of
      obtain ⟨d1, l1⟩ := Rep.dp _ _ r1 (E.is p.2)
      obtain ⟨d2, l2⟩ := Rep.dp _ _ e5 (E.is b)
      obtain ⟨as, q1⟩ := Dp.reads I _ _ _ d1 h2
      obtain ⟨bs, q2⟩ := Dp.reads I _ _ _ d2 ry
      have ea := SeqAt.eqAt_reads _ _ A s v y as bs q1 q2 l1 l2 (by
        have := E.dp p.2
        have : min (py (f p.2)).depth (py (f b)).depth ≤ (py (f p.2)).depth := Nat.min_le_left _ _
        omega)
      rw [E.eq] at ea
      exact .hit (by rw [kk]; exact hy) ea (hits_of I T E hn hu rq eq sq rr h.2 r2)
theorem oc_eqDk [DecidableEq α] {n : Nat} (T : TyK g) (E : TyE f n) (hu : X.A.units + 66 < cLine) (ia : IsDk h da (ps.map fun q => g q.1) (ps.map fun q => f q.2)) (ib : IsDk h db (qs.map fun q => g q.1) (qs.map fun q => f q.2)) (hn : n ≤ 60 := by decide) : OpR X (compareOp .Eq) (rOp TL X.K h da db (some ()) fun _ => .bl (eqDT ps qs)) := by
  rintro pins s σ H x y v u Q I rx ry ⟨R, hR, r1, r2, _, _, q⟩
  obtain ⟨a, ka, rfl, rda, eka, rsa, _⟩ := ia.at_ T hR r1
  obtain ⟨b, kb, rfl, rdb, ekb, rsb, _⟩ := ib.at_ T hR r2
  obtain rfl : v = Value.ref a := rx
  obtain rfl : u = Value.ref b := ry
  obtain ⟨_, ya, va, ra, dda⟩ := dk_rd I.hok rda
  obtain ⟨_, yb, vb, rb, ddb⟩ := dk_rd I.hok rdb
  refine PySem.W.keq_eq (knd := mixKind X.prog X.w) (r := hitT qs ps) ya yb dda ddb (by omega) (fun _ => hits_of (A := X.A.in1) I T E hn (by show X.A.units + 1 + 64 < cLine; omega) rb ekb rsb ra eka rsa) ⟨.bl _, H, I, ?_, q _ H hR (Fr.refl h H) Rep.bl⟩
  have e1 := dk_len T eka
  have e2 := dk_len T ekb
  have e3 : va.length = ps.length := by rw [← ra.length, e1]
  have e4 : vb.length = qs.length := by rw [← rb.length, e2]
  show Value.bool _ = Value.bool _
  rw [e3, e4]
  unfold eqDT
  congr 1
/-! ### dict(pairs) -/
theorem pairs_split (T : TyK g) {K : PySem.W.Frag} {W : Own} {H : Hp} : ∀ {ps : List (κ × α)} {xs : List V}, Reps K W H (ps.map fun q => D.tup [g q.1, f q.2]) xs → ∃ (as : List Addr) (kv : List (Key × V)), xs = as.map V.ref ∧ Paired (fun p kv => SqT K H p [kV kv.1, kv.2]) as kv ∧ kv.map (·.1) = (ps.map fun q => T.key q.1) ∧ Reps K W H (ps.map fun q => f q.2) (kv.map (·.2)) ∧ ∀ q ∈ ps, keyOk (T.key q.1) = true
  | [], xs, r => by
    simp only [List.map_nil, Reps] at r
    subst r
    exact ⟨[], [], rfl, .nil, rfl, .nil, fun _ z => by cases z⟩
  | p :: ps, xs, r => by
    simp only [List.map_cons, Reps] at r
    obtain ⟨x, t, e, r1, r2⟩ := r
    subst e
    obtain ⟨a, ys, e1, sq, rr⟩ := SqT.of_rep r1
    subst e1
    simp only [Reps] at rr
    obtain ⟨y, t1, e2, r3, z, t2, e3, r4, e4⟩ := rr
    subst e2 e3 e4
    obtain ⟨as, kv, e5, pr, ek, rs, ko⟩ := pairs_split T r2
    subst e5
    have ey := key_v T r3
    subst ey
    refine ⟨a :: as, (T.key p.1, z) :: kv, rfl, .cons sq pr, by rw [List.map_cons, List.map_cons, ek], .cons r4 rs, fun q hq => ?_⟩
    rcases List.mem_cons.mp hq with rfl | hq
    · rw [T.is] at r3
      cases ek : T.key q.1 with
      | inl i => rfl
      | inr z => rw [ek] at r3; exact r3.str_eq.2
    · exact ko q hq
theorem en_dictP {r : Res ε β} {oa : β → D} {ho : β → SH} (xs : β → List (κ × α)) (T : TyK g) (hc : X.calm = true) (hg : Gl X "dict") (hm : X.mg "dict" = none) (pa : EV TL X cA Wx e Γ h r oa ho he) (is : ∀ b, IsL (ho b) (oa b) ((xs b).map fun q => D.tup [g q.1, f q.2]))
    (hst : starEach [e] X.env = (false, eval e X.env) :: starEach [] X.env := by rfl) (hpl : (backTo pos (starEach [] X.env)).any (·.1) = false := by rfl) {ho' : List (κ × α) → SH} (e1 : ∀ b, ho' (dictT (xs b)) = ho b := by intros; rfl) :
    EN TL X cA Wx (.Call (.Name "dict" p) [e] [] pos) Γ h (r.bind fun b => .ok (dictT (xs b))) (NC (fun ps : List (κ × α) => .dic none false (ps.map fun q => g q.1) (ps.map fun q => f q.2)) ho') he := by
  have C : C1 X (.type "dict") (fun x H Q => ∃ b R, HR TL X.K R (ho b) H ∧ Rep X.K (own R (ho b)) H (oa b) x ∧ ∀ v H', HR TL X.K R (ho b ++ [(v, .dic none false ((dictT (xs b)).map fun q => g q.1) ((dictT (xs b)).map fun q => f q.2))]) H' → Fr R (ho b) (ho b ++ [(v, .dic none false ((dictT (xs b)).map fun q => g q.1) ((dictT (xs b)).map fun q => f q.2))]) H H' → Q (.ref v) H') :=
    C1.of (call_dictP hc) fun x H Q ⟨b, R, h1, r1, k⟩ => by
      obtain ⟨p, ys, rfl, sq, rs⟩ := (is b).sq h1 r1
      obtain ⟨as, kv, e5, pr, ek, rv, ko⟩ := pairs_split T rs
      subst e5
      obtain ⟨m1, m2⟩ := dk_merge T (ps := []) (kv := []) rfl (.nil : Reps X.K (own R (ho b)) H _ _) ek rv
      refine ⟨p, as, kv, rfl, sq, pr, fun q hq => ?_⟩
      obtain ⟨g1, g2⟩ := HR.newD T (ps := dictT (xs b)) h1 hq m1 m2 (dk_ok T m1 fun q hq => by
        rcases mem_merge hq with ⟨_, z, _⟩ | ⟨p2, hp2, e⟩
        · cases z
        · rw [← e]; exact ko p2 hp2)
      exact k q _ g1 g2
  refine PEimp ((one_Ty hg hm rfl (by decide) (by decide) hst hpl).pe C pa) fun σ H Q ⟨R, hE, hH, w⟩ => ⟨R, hE, hH, Res.wp_mono (fun b w1 v H1 h1 f1 r1 => ⟨b, R, h1, r1, fun a H' g1 g2 => ?_⟩) (fun _ _ k => k) (Res.wp_bind.mp w)⟩
  have w2 : ∀ d h', NC (fun ps : List (κ × α) => .dic none false (ps.map fun q => g q.1) (ps.map fun q => f q.2)) ho' (dictT (xs b)) d h' → ∀ v H', HR TL X.K R h' H' → Fr R h h' H H' → Rep X.K (own R h') H' d v → Q v H' := w1
  exact w2 _ _ ⟨a, rfl, rfl⟩ _ H' (by rw [e1]; exact g1) (by rw [e1]; exact f1.trans g2) (by simp [Rep])
/-! ### list(d.values()) -/
end
end TH
set_option Elab.async false
set_option linter.all false
set_option maxRecDepth 100000
set_option maxHeartbeats 2000000
/-! TB38: dicts walked: keys, values, items; of values and of locked cells. -/
namespace TH
open PySem PySem.Spec PyProof.Rows L2
section
variable {TL : List (Addr × Str)} {X : Cx} {cA : CA} {Wx : WX} {Γ : En} {h : SH} {ε κ α : Type} [DecidableEq κ] {he : ε → SH} {e tg : Expr} {pos apos cpos : Pos} {g : κ → D} {f : α → D} {ps : List (κ × α)}
theorem pe_dlen {t : TE} (p : PE X e t) : PE X e fun σ H Q => t σ H fun v H' => (∀ a kv, v = .ref a → Rd H' a (.dK kv) → kv.length ≤ sizeLine) → Q v H' :=
  ⟨fun pins s σ H Q I q => thn (p.run pins s σ H _ I q) fun u s' ⟨v, H', I', r, k⟩ => ⟨v, H', I', r, k fun a kv _ z => (dk_rd I'.hok z).1⟩⟩
/-- the locked dict stands, and what it holds -/
def Pers (TL : List (Addr × Str)) (K : PySem.W.Frag) (R : Own) (d : Addr) (od : Obj) (kv : List (Key × V)) (vs : List D) (h1 : SH) (H1 : Hp) (kp : SH → Prop) : Prop :=
  ∀ R' : Own, (∀ p, R p → R' p) → (∀ p, R' p → R p ∨ H1 p = none) → ∀ (hs : SH) (H : Hp), kp hs → HR TL K R' hs H → Fr R' h1 hs H1 H → H d = some (.frz od (.dK kv)) ∧ Reps K (own R' hs) H vs (kv.map (·.2))
variable {R : Own} {H1 : Hp} {d : Addr} {od : Obj} {kv : List (Key × V)} {kp : SH → Prop}
theorem dw_keys (T : TyK g) (ek : kv.map (·.1) = (ps.map fun q => T.key q.1)) (ko : ∀ q ∈ kv, keyOk q.1 = true) (hz : kv.length ≤ sizeLine) (P : Pers TL X.K R d od kv (ps.map fun q => f q.2) h H1 kp) : DW TL X.K R (Itk d od kv) (ps.map fun q => g q.1) h H1 kp := by
  have lk := dk_len T ek
  refine ⟨by rw [List.length_map]; omega, fun R' up dn i hs H3 k hr3 f3 => ?_⟩
  obtain ⟨e3, _⟩ := P R' up dn hs H3 k hr3 f3
  refine ⟨fun lt => ⟨e3, by rw [List.length_map] at lt; omega⟩, fun le => ⟨e3, by rw [List.length_map] at le; omega⟩, ?_⟩
  rintro y H4 dd ⟨rfl, kk, v, ekv, rfl⟩ ed2
  refine ⟨hr3, Fr.refl hs _, ?_⟩
  have e5 : (kv.map (·.1))[i]? = some kk := by rw [List.getElem?_map, ekv] <;> rfl
  rw [ek, List.getElem?_map] at e5
  rw [List.getElem?_map] at ed2
  cases ep : ps[i]? with
  | none => rw [ep] at ed2; cases ed2
  | some p =>
    rw [ep] at e5 ed2
    cases ed2
    have e6 : T.key p.1 = kk := Option.some.inj e5
    show Rep X.K (own R' hs) _ (g p.1) (kV kk)
    rw [T.is, e6]
    have kok := ko (kk, v) (List.mem_of_getElem? ekv)
    cases kk with
    | inl i => exact Rep.int
    | inr s => simp only [kD, Rep]; exact ⟨rfl, kok⟩
theorem dw_vals (T : TyK g) (ek : kv.map (·.1) = (ps.map fun q => T.key q.1)) (hz : kv.length ≤ sizeLine) (P : Pers TL X.K R d od kv (ps.map fun q => f q.2) h H1 kp) : DW TL X.K R (Itd d od kv) (ps.map fun q => f q.2) h H1 kp := by
  have lk := dk_len T ek
  refine ⟨by rw [List.length_map]; omega, fun R' up dn i hs H3 k hr3 f3 => ?_⟩
  obtain ⟨e3, rs3⟩ := P R' up dn hs H3 k hr3 f3
  refine ⟨fun lt => ⟨e3, by rw [List.length_map] at lt; omega⟩, fun le => ⟨e3, by rw [List.length_map] at le; omega⟩, ?_⟩
  rintro y H4 dd ⟨rfl, kk, ekv⟩ ed2
  refine ⟨hr3, Fr.refl hs _, ?_⟩
  have e5 : (kv.map (·.2))[i]? = some y := by rw [List.getElem?_map, ekv] <;> rfl
  obtain ⟨x2, e6, r6⟩ := rs3.get ed2
  rw [e5] at e6
  cases e6
  exact r6
theorem pers_val {K : PySem.W.Frag} {vs : List D} (nw : ¬ own R h d) (e : H1 d = some (.frz od (.dK kv))) (rs : Reps K (own R h) H1 vs (kv.map (·.2))) : Pers TL K R d od kv vs h H1 kp := fun R' up dn hs H _ hr f => by
  refine ⟨?_, (rs.more dn).fr f⟩
  obtain ⟨_, o', e', s, eq⟩ := f d _ (fun z => nw (.inr z)) e nt_of
  rcases s with z | ⟨z, _⟩
  · rw [e', z]
  · cases z
theorem pers_cell {K : PySem.W.Frag} {ks vs : List D} (ek : ks = kv.map fun q => kD q.1) : Pers TL K R d od kv vs h H1 fun hs => (d, O.dic (some (.frz od (.dK kv))) false ks vs) ∈ hs := fun R' up dn hs H m hr f => by
  obtain ⟨xs, dk, rs, e, _⟩ := hr.at_ _ m
  have e : H d = some (.frz od (.dK kv)) := e
  refine ⟨e, ?_⟩
  have rs : Reps K (own R' hs) H vs xs := rs
  rcases dk with ⟨kv', rd, _, _, _, ex⟩ | ⟨kv', rd, z, _⟩
  · rcases rd with rd | ⟨ob, rd⟩
    · rw [e] at rd; cases rd
    · rw [e] at rd
      cases rd
      rw [ex] at rs
      exact rs
  · cases z
/-! ### values -/
theorem dic_frz2 {x : V} {Q : VK} (T : TyK g) (hr : HR TL X.K R h H1) (r : Rep X.K (own R h) H1 (.dic false (ps.map fun q => g q.1) (ps.map fun q => f q.2)) x) (hl : ∀ a kv, x = .ref a → Rd H1 a (.dK kv) → kv.length ≤ sizeLine)
    (k : ∀ d od kv H', x = .ref d → H' d = some (.frz od (.dK kv)) → ¬ own R h d → kv.map (·.1) = (ps.map fun q => T.key q.1) → Reps X.K (own R h) H' (ps.map fun q => f q.2) (kv.map (·.2)) → (∀ q ∈ kv, keyOk q.1 = true) → kv.length ≤ sizeLine → HR TL X.K R h H' → Fr R h h H1 H' → Q x H') :
    ∃ d kv, x = .ref d ∧ ((H1 d = some (.dK kv) ∧ ∀ od, Q x (upd H1 d (.frz od (.dK kv)))) ∨ ∃ od, H1 d = some (.frz od (.dK kv)) ∧ Q x H1) := by
  obtain ⟨p, kv, ex, _, rd, ek, _, _⟩ := r.dic_at T
  have hz := hl p kv ex rd
  refine dic_frz T hr r fun d od kv' H' e1 e2 e3 e4 e5 e6 e7 e8 => k d od kv' H' e1 e2 e3 e4 e5 e6 ?_ e7 e8
  have l1 := dk_len T ek
  have l2 := dk_len T e4
  omega
theorem ei_keysV (T : TyK g) (q : EP TL X e Γ h (.dic false (ps.map fun q => g q.1) (ps.map fun q => f q.2))) : EI TL X cA Wx tg e Γ h (.ok () : Res ε Unit) (fun _ => ps.map fun q => g q.1) (fun _ => h) he fun _ _ => True :=
  PIimp (pi_keys (pe_frzD (pe_dlen q))) fun σ H Rr ⟨R, hE, hH, w⟩ => ⟨R, hE, hH, fun x H1 h1 f1 r1 hl => dic_frz2 (Q := fun x H1 => ∃ d o, x = .ref d ∧ ((∃ kvs, H1 d = some (.frz o (.dK kvs)) ∧ Rr (Itk d o kvs) H1) ∨ ∃ kvs, H1 d = some (.frz o (.dT kvs)) ∧ Rr (Itkt d o kvs) H1)) T h1 r1 hl fun d od kv H2 ed e2 nw ek rs ko hz h2 f2 => ⟨d, od, ed, .inl ⟨kv, e2, by
    have w1 : ∀ J H3, HR TL X.K R h H3 → Fr R h h H H3 → DW TL X.K R J (ps.map fun q => g q.1) h H3 (fun _ => True) → Rr J H3 := w
    exact w1 _ H2 h2 (f1.trans f2) (dw_keys T ek ko hz (pers_val nw e2 rs))⟩⟩⟩
theorem ei_valuesV (T : TyK g) (q : EP TL X e Γ h (.dic false (ps.map fun q => g q.1) (ps.map fun q => f q.2))) (hbase : attributeBase e "values" X.env (eval e X.env) = eval e X.env := by rfl) (hline : (apos.endLine == cpos.line) = true := by rfl) :
    EI TL X cA Wx tg (.Call (.Attribute e "values" apos) [] [] cpos) Γ h (.ok () : Res ε Unit) (fun _ => ps.map fun q => f q.2) (fun _ => h) he fun _ _ => True :=
  PIimp (pi_values (pe_frzD (pe_dlen q)) hbase hline) fun σ H Rr ⟨R, hE, hH, w⟩ => ⟨R, hE, hH, fun x H1 h1 f1 r1 hl => dic_frz2 (Q := fun x H1 => ∃ d o kvs, x = .ref d ∧ H1 d = some (.frz o (.dK kvs)) ∧ Rr (Itd d o kvs) H1) T h1 r1 hl fun d od kv H2 ed e2 nw ek rs ko hz h2 f2 => ⟨d, od, kv, ed, e2, by
    have w1 : ∀ J H3, HR TL X.K R h H3 → Fr R h h H H3 → DW TL X.K R J (ps.map fun q => f q.2) h H3 (fun _ => True) → Rr J H3 := w
    exact w1 _ H2 h2 (f1.trans f2) (dw_vals T ek hz (pers_val nw e2 rs))⟩⟩
/-! ### locked cells -/
theorem lcell {a : Addr} {x : V} (T : TyK g) (hr : HR TL X.K R h H1) (m : (a, O.dic (some (.frz od (.dK kv))) false (ps.map fun q => g q.1) (ps.map fun q => f q.2)) ∈ h) (r : Rep X.K (own R h) H1 (.ref a) x) :
    x = .ref a ∧ H1 a = some (.frz od (.dK kv)) ∧ kv.map (·.1) = (ps.map fun q => T.key q.1) ∧ (∀ q ∈ kv, keyOk q.1 = true) ∧ (ps.map fun q => g q.1) = kv.map fun q => kD q.1 := by
  obtain ⟨xs, dk, rs, e, _⟩ := hr.at_ _ m
  have e : H1 a = some (.frz od (.dK kv)) := e
  refine ⟨by simpa only [Rep] using r, e, ?_⟩
  rcases dk with ⟨kv', rd, _, ek, ko, ex⟩ | ⟨kv', rd, z, _⟩
  · rcases rd with rd | ⟨ob, rd⟩
    · rw [e] at rd; cases rd
    · rw [e] at rd
      cases rd
      exact ⟨dk_keys T ek, ko, ek⟩
  · cases z
theorem ei_valuesC {a : Addr} (T : TyK g) (q : EP TL X e Γ h (.ref a)) (m : (a, O.dic (some (.frz od (.dK kv))) false (ps.map fun q => g q.1) (ps.map fun q => f q.2)) ∈ h) (hbase : attributeBase e "values" X.env (eval e X.env) = eval e X.env := by rfl) (hline : (apos.endLine == cpos.line) = true := by rfl) :
    EI TL X cA Wx tg (.Call (.Attribute e "values" apos) [] [] cpos) Γ h (.ok () : Res ε Unit) (fun _ => ps.map fun q => f q.2) (fun _ => h) he fun _ hs => (a, O.dic (some (.frz od (.dK kv))) false (ps.map fun q => g q.1) (ps.map fun q => f q.2)) ∈ hs :=
  PIimp (pi_values (pe_dlen q) hbase hline) fun σ H Rr ⟨R, hE, hH, w⟩ => ⟨R, hE, hH, fun x H1 h1 f1 r1 hl => by
    obtain ⟨ex, e1, ek, ko, ekd⟩ := lcell T h1 m r1
    have w1 : ∀ J H3, HR TL X.K R h H3 → Fr R h h H H3 → DW TL X.K R J (ps.map fun q => f q.2) h H3 (fun hs => (a, O.dic (some (.frz od (.dK kv))) false (ps.map fun q => g q.1) (ps.map fun q => f q.2)) ∈ hs) → Rr J H3 := w
    exact ⟨a, od, kv, ex, e1, w1 _ H1 h1 f1 (dw_vals T ek (hl a kv ex (.inr ⟨_, e1⟩)) (pers_cell ekd))⟩⟩
end
/-! ### locking a cell while an expression, a statement runs -/
abbrev lkO (od : Obj) (kv : List (Key × V)) (ks vs : List D) : O := .dic (some (.frz od (.dK kv))) false ks vs
section
variable {TL : List (Addr × Str)} {X : Cx} {cA : CA} {Wx : WX} {Γ : En} {h : SH} {ε β γ ρ : Type} {he : ε → SH} {e : Expr} {a : Addr} {ks vs : List D} {R : Own} {H : Hp} {st : Stmt} {E : XK}
theorem cell_dk (hr : HR TL X.K R h H) {j : Nat} (hj : h[j]? = some (a, .dic none false ks vs)) : ∃ kv, H a = some (.dK kv) := by
  obtain ⟨xs, dk, rs, n⟩ := hr.at_ _ (List.mem_of_getElem? hj)
  rcases dk with ⟨kv, rd, _⟩ | ⟨kv, rd, z, _⟩
  · rcases rd with rd | ⟨ob, rd⟩
    · exact ⟨kv, rd⟩
    · exact absurd rd (n _ _)
  · cases z
theorem HR.lockD {j : Nat} {kv : List (Key × V)} (od : Obj) (hr : HR TL X.K R h H) (hj : h[j]? = some (a, .dic none false ks vs)) (e : H a = some (.dK kv)) :
    HR TL X.K R (h.set j (a, lkO od kv ks vs)) (upd H a (.frz od (.dK kv))) ∧ Fr R h (h.set j (a, lkO od kv ks vs)) H (upd H a (.frz od (.dK kv))) := by
  obtain ⟨xs, dk, rs, n⟩ := hr.at_ _ (List.mem_of_getElem? hj)
  refine hr.put hj e rfl rfl ⟨xs, ?_, Reps.put rs (dom_of hj), upd_same, _, _, rfl⟩
  rcases dk with ⟨kv', rd, z, ek, ko, ex⟩ | ⟨kv', rd, z, _⟩
  · rcases rd with rd | ⟨ob, rd⟩
    · rw [e] at rd
      cases rd
      exact .inl ⟨kv, .inr ⟨od, upd_same⟩, z, ek, ko, ex⟩
    · exact absurd rd (n _ _)
  · cases z
theorem HR.unlockD {j : Nat} {kv : List (Key × V)} {od : Obj} (hr : HR TL X.K R h H) (hj : h[j]? = some (a, lkO od kv ks vs)) :
    H a = some (.frz od (.dK kv)) ∧ HR TL X.K R (h.set j (a, .dic none false ks vs)) (upd H a (.dK kv)) ∧ Fr R h (h.set j (a, .dic none false ks vs)) H (upd H a (.dK kv)) := by
  obtain ⟨xs, dk, rs, e, _⟩ := hr.at_ _ (List.mem_of_getElem? hj)
  have e : H a = some (.frz od (.dK kv)) := e
  refine ⟨e, hr.put hj e rfl rfl ⟨xs, ?_, Reps.put rs (dom_of hj), fun ob u z => by rw [upd_same] at z; cases z⟩⟩
  rcases dk with ⟨kv', rd, z, ek, ko, ex⟩ | ⟨kv', rd, z, _⟩
  · rcases rd with rd | ⟨ob, rd⟩
    · rw [e] at rd; cases rd
    · rw [e] at rd
      cases rd
      exact .inl ⟨kv, .inl upd_same, z, ek, ko, ex⟩
  · cases z
theorem ER.any {K : PySem.W.Frag} {σ : L2.St} {H' : Hp} {h' : SH} (hE : ER K (own R h) Γ σ H) (f : Fr R h h' H H') : ER K (own R h') Γ σ H' := hE.fr f
theorem ev_lockD {r : Res Empty β} {out : β → D} {hE : Empty → SH} (j : Nat) (hj : h[j]? = some (a, .dic none false ks vs)) (p : ∀ od kv, EV TL X cA Wx e Γ (h.set j (a, lkO od kv ks vs)) r out (fun _ => h.set j (a, lkO od kv ks vs)) hE) :
    EV TL X cA Wx e Γ h (r.noE : Res ε β) out (fun _ => h) he :=
  PEimp (pe_lock (PEex fun i : Obj × List (Key × V) => p i.1 i.2)) fun σ H Q ⟨R, hE, hH, w⟩ => by
    obtain ⟨kv, ea⟩ := cell_dk hH hj
    refine ⟨a, _, ea, trivial, fun od => ⟨(od, kv), R, ?_⟩⟩
    obtain ⟨g1, g2⟩ := hH.lockD od hj ea
    have hl : j < h.length := (List.getElem?_eq_some_iff.mp hj).1
    refine ⟨hE.fr g2, g1, Res.wp_mono (fun b k v H1 h1 f1 r1 => ?_) (fun x e _ => e.elim) (Res.wp_noE.mp w)⟩
    have hj1 : (h.set j (a, lkO od kv ks vs))[j]? = some (a, lkO od kv ks vs) := List.getElem?_set_self hl
    obtain ⟨e1, u1, u2⟩ := HR.unlockD h1 hj1
    have eh : (h.set j (a, lkO od kv ks vs)).set j (a, .dic none false ks vs) = h := by
      rw [List.set_set]
      exact List.ext_getElem? fun i => by
        by_cases z : j = i
        · subst z; rw [List.getElem?_set_self hl, hj]
        · rw [List.getElem?_set_ne z]
    have u3 := r1.fr u2
    rw [eh] at u1 u2 u3
    exact ⟨e1, k v _ u1 ((g2.trans f1).trans u2) u3⟩
end
end TH
set_option Elab.async false
set_option linter.all false
set_option maxRecDepth 100000
set_option maxHeartbeats 2000000
/-! TB39: dict cells changed. -/
namespace TH
open PySem PySem.Spec PyProof.Rows L2
section
variable {TL : List (Addr × Str)} {X : Cx} {cA : CA} {E : XK} {Wx : WX} {Γ : En} {h : SH} {ε β β' γ' ρ α α0 γ κ : Type} [DecidableEq κ] {he : ε → SH} {e o i value : Expr} {pos pos' tpos apos cpos : Pos} {g : κ → D} {f : α0 → D} {rest : List Stmt} {oN : β → En × SH → Prop} {oJ : γ' → En × SH} {oR : ρ → D × SH → Prop} {a : Addr} {R : Own} {H : Hp}
abbrev dcO (g : κ → D) (f : α0 → D) (ps : List (κ × α0)) : O := .dic none false (ps.map fun q => g q.1) (ps.map fun q => f q.2)
end
end TH
set_option Elab.async false
set_option linter.all false
set_option maxRecDepth 100000
set_option maxHeartbeats 2000000
/-! TB40: small rules for the printer. -/
namespace TH
open PySem PySem.Spec PyProof.Rows L2
theorem u66 {k : Nat} {A : Around} (r : Room k A) : A.units + 66 < cLine := by have := r.un; omega
end TH
set_option Elab.async false
set_option linter.all false
set_option maxRecDepth 100000
set_option maxHeartbeats 2000000
/-! TB41: range of two and three arguments; list(range ..). -/
namespace TH
open PySem PySem.Spec PyProof.Rows L2
section
variable {TL : List (Addr × Str)} {X : Cx} {cA : CA} {Wx : WX} {Γ : En} {h : SH} {ε β β' : Type} {he : ε → SH} {a b c tg : Expr} {p pos p2 pos2 : Pos}
/-! ### list(range ..) -/
theorem Reps.intsR {K : PySem.W.Frag} {W : Own} {H : Hp} (ns : List Int) : Reps K W H (ns.map D.int) (ns.map V.int) := by
  induction ns with
  | nil => exact .nil
  | cons n ns ih => exact .cons Rep.int ih
end
end TH
set_option Elab.async false
set_option linter.all false
set_option maxRecDepth 100000
set_option maxHeartbeats 2000000
/-! TB42: three names at once; displays as cells. -/
namespace TH
open PySem PySem.Spec PyProof.Rows L2
end TH
set_option Elab.async false
set_option linter.all false
set_option maxRecDepth 100000
set_option maxHeartbeats 2000000
/-! TB43: is None. -/
namespace TH
open PySem PySem.Spec PyProof.Rows L2
end TH
namespace TH
open PySem PySem.Spec PyProof.Rows L2
end TH
set_option Elab.async false
set_option linter.all false
set_option maxRecDepth 100000
set_option maxHeartbeats 2000000
/-! TB44: and, or, not as values. -/
namespace TH
open PySem PySem.Spec PyProof.Rows L2
end TH
set_option Elab.async false
set_option linter.all false
set_option maxRecDepth 100000
set_option maxHeartbeats 2000000
/-! TB45: _law_rounds and law. -/
namespace TH
open PySem PySem.Spec PyProof.Rows L2
theorem ep_of {TL : List (Addr × Str)} {X : Cx} {e : Expr} {Γ : En} {h : SH} {β : Type} {b : β} {out : β → D} {ho : β → SH} (p : EV TL X (fun _ => (0 : Addr)) (fun _ _ _ _ => False) e Γ h (.ok b : Res Empty β) out ho (fun z => z.elim)) (hh : ho b = h := by rfl) : EP TL X e Γ h (out b) := ep_ev p hh
abbrev R0 : Own := fun _ => False
def spR (TL : List (Addr × Str)) (K : PySem.W.Frag) : Sp := fun vs H Q _ => ∃ (a : Addr) (ns : List Int), vs = [.ref a, .int 1] ∧ SqL K H a (ns.map V.int) ∧ HR TL K R0 [] H ∧
  ∀ x y z v H', diceOk x y z → HR TL K R0 [] H' → Rep K (own R0 []) H' (D.lst [D.lst [.int x, .int y, .int z]]) v → Q v H'
def spLaw (TL : List (Addr × Str)) (K : PySem.W.Frag) : Sp := fun vs H Q _ => ∃ (a : Addr) (ns : List Int), vs = [.ref a] ∧ SqL K H a (ns.map V.int) ∧ LamX.Tabs TL H ∧ ∀ H', Q (.bl true) H'
theorem hr0 {TL : List (Addr × Str)} {K : PySem.W.Frag} {H : Hp} (t : LamX.Tabs TL H) : HR TL K R0 [] H := ⟨by simp, fun p hp => hp.elim, (fun q hq => by cases hq), t⟩
section
variable {TL : List (Addr × Str)} {P : Program} {w : World} {K : PySem.W.Frag} {mg : Str → Option Value} {base : Heap} {cA : CA} {f : Addr} {fd : FuncData} {st : Stmt} {k : Nat}
theorem rounds_fn (F : FunD K "_law_rounds" "_law_rounds" (defArgs st) (defBody st) (defScope st) [] [] f fd) (S : FnScope ["script", "most", "cells", "cell"] ["script", "most"] (defScope st)) {rest : List Stmt} {px p1 p2 p3 p4 p5 : Pos}
    (eb : defBody st = .Assign [.Name "cells" px] (.Subscript (.Name "script" p1) (.Slice none (some (.Name "most" p2)) none p3) p4) p5 :: rest) (mrest : List Int → Res Empty (Fl Unit Empty (List (List Int))))
    (hb : ∀ (cs : List Int) (cdv : Value), fd.code = cdv → ∀ (A : Around) (outer : List Env) (s : Shared) (H : Hp) (E : XK), Room k (A.deeper (envOfC "_law_rounds" (defScope st) s.heap.objs.size f cdv)) →
      SS TL (cxOf (L2.CX P w) P w K mg base ["script", "most", "cells", "cell"] "_law_rounds" (defScope st) f cdv A outer s H E) cA E rest [none, some (D.int 1), some (D.lst (cs.map D.int)), none] [] (mrest cs) (fun _ _ => False) (fun z : Empty => z.elim) (fun b S => S = (D.lst (b.map fun l => D.lst (l.map D.int)), [])) (fun e : Empty => e.elim))
    (hs : Vis (defScope st) "script") (ht : Vis (defScope st) "most") (hl : Loc (defScope st) "cells")
    (hm : ∀ cs : List Int, cs.length ≤ 1 → ∃ x y z, mrest cs = .ok (.rt [[x, y, z]]) ∧ diceOk x y z) : FnOk P w K mg base (L2.CX P w) (k + 1) f fd ["script", "most"] (spR TL K) := by
  obtain ⟨oc, od, dV, kV, doc, pm, an, cdv, ct, osl, rfl, lk, hcd, _, _⟩ := F.ex
  refine fn_of lk hcd S (fun vs H Q E ⟨a, ns, e, _⟩ => by rw [e] <;> rfl) fun A outer s H vs Q E hr h => ?_
  rw [eb]
  refine ⟨_, pss_cons (ps_set (i := 2) S.nd rfl hl (pe_slice sl_list (pv 0 (hv := hs)) po_none (po_some (pv 1 (hv := ht))))) (PSsex fun cs => hb cs cdv rfl A outer s H E hr), ?_⟩
  obtain ⟨a, ns, rfl, hS, hH, q⟩ := h
  refine ⟨_, rfl, _, rfl, 1, rfl, a, _, rfl, hS, fun p hp => ⟨cutL ns none (some 1), ?_⟩⟩
  have e1 : cutV (ns.map V.int) none (some 1) = (cutL ns none (some 1)).map V.int := by
    unfold cutV cutL
    rw [List.map_take, List.map_drop, List.length_map]
  have l1 : (cutL ns none (some 1)).length ≤ 1 := by
    unfold cutL
    rw [List.length_take]
    have : HT.sIx ns.length ns.length (some 1) - HT.sIx ns.length 0 none ≤ 1 := by
      cases ns with
      | nil => simp [HT.sIx]
      | cons n ns => simp [HT.sIx] <;> omega
    omega
  rw [e1]
  obtain ⟨x, y, z, em, ok⟩ := hm _ l1
  have h1 : HR TL K R0 [] (upd H p (.lst ((cutL ns none (some 1)).map V.int))) := hH.fr0 (upd_keep hp)
  refine ⟨R0, ⟨rfl, fun i d hi => ?_⟩, h1, ?_⟩
  · match i with
    | 0 => simp at hi
    | 1 =>
      have : d = .int 1 := by simpa using hi.symm
      subst this
      exact ⟨_, rfl, Rep.int⟩
    | 2 =>
      have : d = .lst ((cutL ns none (some 1)).map D.int) := by simpa using hi.symm
      subst this
      refine ⟨_, rfl, Rep.newL hH hp ?_⟩
      exact Reps.intsR _
    | 3 => simp at hi
    | n + 4 => simp at hi
  · rw [em]
    intro S' eS v H' a1 a2 a3
    subst eS
    exact q x y z v H' ok a1 a3
/-- a turn that ends well -/
def okF : Fl Unit Empty Bool → Prop
  | .nx _ => True
  | .rt b => b = true
  | .bk _ => False
  | .ct _ => False
def StepOk (r : Res Empty (Fl Unit Empty Bool)) : Prop := r.wp okF (fun _ _ => False)
theorem law_fn (F : FunD K "law" "law" (defArgs st) (defBody st) (defScope st) [] [] f fd) {N : List Str} (S : FnScope N ["script"] (defScope st)) (n0 : N[0]? = some ("script" : Str)) (n1 : N[1]? = some ("dice" : Str)) {body : List Stmt} {p1 p2 p3 p4 p5 p6 p7 p8 : Pos} {j1 j2 : Nat}
    (eb : defBody st = [.For (.Name "dice" p1) (.Call (.Name "_law_rounds" p2) [.Name "script" p3, .Constant (.int 1) j1 p4] [] p5) body [] p6, .Return (some (.Constant (.bool true) j2 p7)) p8])
    {g : Addr} {gd : FuncData} (G : FnOk P w K mg base (L2.CX P w) k g gd ["script", "most"] (spR TL K)) (gm : mg "_law_rounds" = some (.ref g)) (gk : PySem.W.keepIn K (.ref g) = true) (gb : Binds K gd ["script", "most"] [])
    {step : Res Empty (Fl Unit Empty Bool)} {Γe : En}
    (hb : ∀ (cdv : Value), fd.code = cdv → ∀ (A : Around) (outer : List Env) (s : Shared) (H : Hp) (E : XK), Room k (A.deeper (envOfC "law" (defScope st) s.heap.objs.size f cdv)) → ∀ q : Addr,
      SS TL (cxOf (L2.CX P w) P w K mg base N "law" (defScope st) f cdv A outer s H E) cA E body (none :: some (D.ref q) :: List.replicate (N.length - 2) none) [(q, .dice)] step (fun _ S => S = (Γe, [(q, .dice)])) (fun z : Empty => z.elim) (fun b S => S = (D.bl b, [(q, .dice)])) (fun e : Empty => e.elim))
    (hs : Vis (defScope st) "script") (hd : Loc (defScope st) "dice") (hg : ∀ cdv A outer s H E, Gl (cxOf (L2.CX P w) P w K mg base N "law" (defScope st) f cdv A outer s H E) "_law_rounds")
    (hl2 : 2 ≤ N.length)
    (hm : StepOk step) : FnOk P w K mg base (L2.CX P w) (k + 1) f fd ["script"] (spLaw TL K) := by
  obtain ⟨oc, od, dV, kV, doc, pm, an, cdv, ct, osl, rfl, lk, hcd, _, _⟩ := F.ex
  refine fn_of lk hcd S (fun vs H Q E ⟨a, ns, e, _⟩ => by rw [e] <;> rfl) fun A outer s H vs Q E hr h => ?_
  rw [eb]
  refine ⟨_, pss_cons (ps_for (passes_of rfl) rfl (pi_list (pe_callS (E := fun σ => E) G hr (hg _ _ _ _ _ _) gm gk gb (fun σ => passAt (takes_of rfl rfl rfl rfl) σ) (pa_cons (pv 0 (hN := n0) (hv := hs)) (pa_cons pe_int pa_nil)) (by decide) rfl rfl)) (pg_name S.nd n1 hd) (PSsex fun q => hb cdv rfl A outer s H E hr q)) (pss_one (ps_ret pe_bl)), ?_⟩
  obtain ⟨a, ns, rfl, hS, hT, hQ⟩ := h
  have s0 : (L2.start N [V.ref a])[0]? = some (some (.ref a)) := by
    cases N with
    | nil => simp at hl2
    | cons n N => rfl
  have lst : (L2.start N [V.ref a]).length = N.length := by
    unfold L2.start
    simp
    omega
  refine ⟨_, s0, ⟨a, ns, rfl, hS, hr0 hT, fun x y z v H1 ok h1 r1 => ?_⟩⟩
  simp only [Rep, Reps] at r1
  obtain ⟨p, xs, rfl, np, hp, x1, t1, rfl, ⟨q, ys, rfl, nq, hq, x2, t2, rfl, e2, x3, t3, rfl, e3, x4, t4, rfl, e4, e5⟩, rfl⟩ := r1
  subst e2 e3 e4 e5
  have npq : p ≠ q := fun z => by
    rw [z, hq] at hp
    cases hp
  have hS1 : ∀ H, H p = some (.lst [.ref q]) → SqL K H p [.ref q] := fun H e => .inl (.inl e)
  refine ⟨p, rfl, ⟨_, hS1 _ hp⟩, ?_⟩
  have h2 : HR TL K R0 [(q, .dice)] H1 := ⟨by simp, fun p hp => hp.elim, fun o ho => by
    have : o = (q, O.dice) := by simpa using ho
    subst this
    exact ⟨x, y, z, hq, ok⟩, h1.tb⟩
  refine ⟨fun i m σ' H' => (i = 0 ∧ m = 1 ∧ σ' = L2.start N [V.ref a] ∧ H' = H1) ∨ (i = 1 ∧ m = 0 ∧ H' p = some (.lst [.ref q])), ⟨1, .inl ⟨rfl, rfl, rfl, rfl⟩⟩, ?_⟩
  rintro i m σ' H' (⟨rfl, rfl, rfl, rfl⟩ | ⟨rfl, rfl, hp'⟩)
  · refine .inr ⟨⟨_, _, hS1 _ hp, rfl⟩, fun σ'' H'' => H'' p = some (.lst [.ref q]), fun σ'' H'' e => ⟨0, by omega, .inr ⟨rfl, rfl, e⟩⟩, ?_⟩
    rintro v H'' ⟨rfl, hv⟩
    have ev : v = .ref q := by
      have := hv _ (hS1 _ hp)
      exact (Option.some.inj this).symm
    subst ev
    refine ⟨q, R0, ⟨?_, fun i d hi => ?_⟩, h2, ?_⟩
    · simp only [List.length_cons, List.length_replicate, List.length_set, lst]
      omega
    · match i with
      | 0 => simp at hi
      | 1 =>
        have : d = .ref q := by simpa using hi.symm
        subst this
        exact ⟨_, List.getElem?_set_self (by rw [lst]; omega), by simp [Rep]⟩
      | n + 2 =>
        simp only [List.getElem?_cons_succ, List.getElem?_replicate] at hi
        split at hi <;> simp at hi
    · have kp : ∀ Hz, Fr R0 [(q, .dice)] [(q, .dice)] H'' Hz → Hz p = some (.lst [.ref q]) := fun Hz f => by
        obtain ⟨_, o', e', s', _⟩ := f p _ (by simpa [dom] using npq) hp nt_of
        rcases s' with z | ⟨z, _⟩
        · rw [e', z]
        · cases z
      refine Res.wp_mono (fun z k => ?_) (fun _ e _ => e.elim) hm
      cases z with
      | nx b => exact fun S eS σ3 H3 a3 b3 c3 => by subst eS; exact kp _ c3
      | bk c => exact k.elim
      | ct c => exact k.elim
      | rt b =>
        intro S eS x H3 a3 b3 c3
        subst eS
        have kb : b = true := k
        subst kb
        have : x = .bl true := by simpa only [Rep] using c3
        subst this
        exact hQ H3
  · exact .inl ⟨⟨_, hS1 _ hp', by simp⟩, hQ H'⟩
end
end TH
set_option Elab.async false
set_option linter.all false
set_option maxRecDepth 100000
set_option maxHeartbeats 2000000
/-! TB46: the head: facts, tables, the end. -/
namespace TH
open PySem PySem.Spec PyProof.Rows L2
/-- a def that makes code objects, and the name that they bear -/
structure Tb where
  at_ : Str × Option Str
  q : Str
def codeV (K : PySem.W.Frag) (p : Str × Option Str) : Option Value := match K.lookup (He.fAd K p) with
  | some ⟨_, _, .func fd, _⟩ => some fd.code
  | _ => none
def codeOf (K : PySem.W.Frag) (p : Str × Option Str) : Addr := match codeV K p with
  | some (.ref c) => c
  | _ => 0
def tabOf (g : Addr → Option Obj) (c : Addr) : Addr := match g c with
  | some ⟨_, _, .fields vs, _⟩ => (match (vs[11]? : Option Value) with
    | some (.ref P) => P
    | _ => 0)
  | _ => 0
def csOf (g : Addr → Option Obj) (K : PySem.W.Frag) (ts : List Tb) : List (Addr × Addr) := ts.map fun t => (codeOf K t.at_, tabOf g (codeOf K t.at_))
def kOf (g : Addr → Option Obj) (n : Nat) (ts : List Tb) : PySem.W.Frag :=
  let K0 := He.frG g (He.asD g n)
  let bad := (csOf g K0 ts).map (fun z => z.2)
  K0.filter fun p => !(bad.contains p.1)
def emptyB : Option Obj → Bool
  | some ⟨.none, none, .fields vs, sl⟩ => vs.size == 0 && sl.size == 0
  | _ => false
theorem emptyB_ok {o : Option Obj} (h : emptyB o = true) : o = some { cls := .none, data := .fields #[] } := by
  unfold emptyB at h
  split at h
  · simp only [Bool.and_eq_true, beq_iff_eq] at h
    obtain ⟨h1, h2⟩ := h
    rw [Array.eq_empty_of_size_eq_zero h1, Array.eq_empty_of_size_eq_zero h2]
  · cases h
def codeHdB (o : Option Obj) (c P : Addr) : Bool := match o with
  | some ⟨.type n, _, .fields vs, _⟩ => decide (n = "code") && (!(c == P) && ((match (vs[11]? : Option Value) with
    | some (.ref Q) => Q == P
    | _ => false) && ((match vs.getD 11 .none with
    | .ref Q => Q == P
    | _ => false) && ((match vs.getD 18 .none with
    | .str _ _ => true
    | _ => false) && ((match vs.getD 7 .none with
    | .int _ _ => true
    | _ => false) && ((match vs.getD 9 .none with
    | .bool _ => true
    | _ => false) && (match vs.getD 10 .none with
    | .int _ _ => true
    | _ => false)))))))
  | _ => false
theorem codeHdB_ok {h : Heap} {c P : Addr} (k : codeHdB (h.get? c) c P = true) : PySem.W.CodeHd h c P := by
  cases e : h.get? c with
  | none => rw [e] at k; cases k
  | some o =>
    rw [e] at k
    obtain ⟨oc, od, dt, sl⟩ := o
    cases oc with
    | type n =>
      cases dt with
      | fields vs =>
        simp only [codeHdB, Bool.and_eq_true, decide_eq_true_eq, Bool.not_eq_true', beq_eq_false_iff_ne] at k
        obtain ⟨k1, k2, k3, k4, k5, k6, k7, k8⟩ := k
        subst k1
        have a3 : vs[11]? = some (.ref P) := by
          split at k3
          · rename_i Q z; rw [z, beq_iff_eq.mp k3]
          · cases k3
        have a4 : vs.getD 11 .none = .ref P := by
          split at k4
          · rename_i Q z; rw [z, beq_iff_eq.mp k4]
          · cases k4
        have a5 : ∃ x t, vs.getD 18 .none = .str x t := by
          split at k5
          · rename_i x t z; exact ⟨x, t, z⟩
          · cases k5
        have a6 : ∃ x t, vs.getD 7 .none = .int x t := by
          split at k6
          · rename_i x t z; exact ⟨x, t, z⟩
          · cases k6
        have a7 : ∃ x, vs.getD 9 .none = .bool x := by
          split at k7
          · rename_i x z; exact ⟨x, z⟩
          · cases k7
        have a8 : ∃ x t, vs.getD 10 .none = .int x t := by
          split at k8
          · rename_i x t z; exact ⟨x, t, z⟩
          · cases k8
        obtain ⟨x5, t5, a5⟩ := a5
        obtain ⟨x6, t6, a6⟩ := a6
        obtain ⟨x7, a7⟩ := a7
        obtain ⟨x8, t8, a8⟩ := a8
        exact ⟨_, vs, x5, t5, x6, t6, x7, x8, t8, e, rfl, rfl, a3, a4, a5, a6, a7, a8, k2⟩
      | _ => cases k
    | _ => cases k
def noneB : Option Obj → Bool
  | none => true
  | _ => false
def isRef : Option Value → Bool
  | some (.ref _) => true
  | _ => false
def tabB (g : Addr → Option Obj) (K : PySem.W.Frag) (ts : List Tb) : Bool :=
  (ts.all fun t => isRef (codeV K t.at_) && (noneB (K.lookup (tabOf g (codeOf K t.at_))) && (emptyB (g (tabOf g (codeOf K t.at_))) && codeHdB (g (codeOf K t.at_)) (codeOf K t.at_) (tabOf g (codeOf K t.at_))))) &&
    (ts.all fun t => ts.all fun u => !(tabOf g (codeOf K t.at_) == tabOf g (codeOf K u.at_)) || decide (t.q = u.q))
abbrev AlX : Type := Bool × He.AlD
/-- what the head's heap holds -/
structure Says (fa : List He.Fa) (fn : List He.DefD) (ts : List Tb) (ext : PySem.W.Frag → Bool) (K : PySem.W.Frag) (tb : Addr → Addr) (h : Heap) : Prop where
  i : K.In h
  s : He.SaysD fa fn K
  x : ext K = true
  c : ∀ t ∈ ts, codeV K t.at_ = some (.ref (codeOf K t.at_))
  n : ∀ t ∈ ts, K.lookup (tb (codeOf K t.at_)) = none
  e : ∀ t ∈ ts, h.get? (tb (codeOf K t.at_)) = some { cls := .none, data := .fields #[] }
  d : ∀ t ∈ ts, PySem.W.CodeHd h (codeOf K t.at_) (tb (codeOf K t.at_))
  a : ∀ t ∈ ts, ∀ u ∈ ts, tb (codeOf K t.at_) = tb (codeOf K u.at_) → t.q = u.q
theorem lookup_filter {K : PySem.W.Frag} {f : Addr → Bool} {a : Addr} {o : Obj} (h : (K.filter fun p => f p.1).lookup a = some o) : K.lookup a = some o := by
  induction K with
  | nil => exact h
  | cons p K ih =>
    rw [List.filter_cons] at h
    obtain ⟨b, ob⟩ := p
    split at h
    · rename_i c
      rw [List.lookup_cons] at h ⊢
      cases e : (a == b) with
      | true => rw [e] at h; exact h
      | false => rw [e] at h; exact ih h
    · rename_i c
      rw [List.lookup_cons]
      cases e : (a == b) with
      | true =>
        exfalso
        have eab : a = b := beq_iff_eq.mp e
        have key : ∀ K : PySem.W.Frag, (K.filter fun p => f p.1).lookup a = some o → f a = true := fun K => by
          induction K with
          | nil => intro h; cases h
          | cons q K ih2 =>
            intro h
            rw [List.filter_cons] at h
            split at h
            · rename_i c2
              rw [List.lookup_cons] at h
              cases e2 : (a == q.1) with
              | true => rw [beq_iff_eq.mp e2]; exact c2
              | false => rw [e2] at h; exact ih2 h
            · exact ih2 h
        have := key K h
        rw [eab] at this
        exact c this
      | false => exact ih h
theorem kOf_in {n : Nat} {ts : List Tb} {h : Heap} : (kOf h.get? n ts).In h := fun a o e => He.frG_in a o (by
  unfold kOf at e
  exact lookup_filter (f := fun a => !(((csOf h.get? (He.frG h.get? (He.asD h.get? n)) ts).map (fun z => z.2)).contains a)) e)
def tlOf (K : PySem.W.Frag) (tb : Addr → Addr) (ts : List Tb) : List (Addr × Str) := ts.map fun t => (tb (codeOf K t.at_), t.q)
/-- a def's own table, from the head -/
theorem tab_of {fa : List He.Fa} {fn : List He.DefD} {ts : List Tb} {ext : PySem.W.Frag → Bool} {K : PySem.W.Frag} {tb : Addr → Addr} {h : Heap} (S : Says fa fn ts ext K tb h) {base : Heap} {mg : Str → Option Value}
    (hT : ∀ p ∈ ts.map (fun t => (codeOf K t.at_, tb (codeOf K t.at_))), LamX.TabB base mg p.1 p.2) (i : Nat) {t : Tb} (ht : ts[i]? = some t) {x qual : Str} {pm : Arguments} {bd : List Stmt} {sc : Scope} {fd : FuncData} (F : FunD K x qual pm bd sc [] [] (He.fAd K t.at_) fd) : TabF K mg base (tlOf K tb ts) fd t.q := by
  have m := List.mem_of_getElem? ht
  obtain ⟨oc, od, dV, kV, doc, pmm, an, cdv, ct, osl, rfl, lk, _⟩ := F.ex
  have e : codeV K t.at_ = some cdv := by
    unfold codeV
    rw [lk] <;> rfl
  have e2 := S.c t m
  rw [e] at e2
  refine ⟨codeOf K t.at_, tb (codeOf K t.at_), Option.some.inj e2, hT _ (List.mem_map.mpr ⟨t, m, rfl⟩), List.mem_map.mpr ⟨t, m, rfl⟩, fun p hp ep => ?_⟩
  obtain ⟨u, hu, eu⟩ := List.mem_map.mp hp
  rw [← eu] at ep ⊢
  exact S.a u hu t m ep
/-- the law, at the head's heap -/
theorem law_at {l : PySem.W.OpenLaw} {w : World} {fa : List He.Fa} {fn : List He.DefD} {ts : List Tb} {ext : PySem.W.Frag → Bool} {K : PySem.W.Frag} {tb : Addr → Addr} {h : Heap} {mg : Str → Option Value} {f : Addr} {k : Nat} (S : Says fa fn ts ext K tb h) {d : He.DefD} (i : Nat) (hd : fn[i]? = some d) (d0 : d.dfl = []) (d1 : d.kwd = [])
    (ef : f = He.fAd K d.at_) {px : Arguments} (hb : ∀ fd, FunD K d.name d.qual d.params d.body d.scope [] [] (He.fAd K d.at_) fd → ∀ (s : Shared) (u : Value), BindsTo s fd ⟨[u], []⟩ [("script", u)])
    (ok : ∀ fd, FunD K d.name d.qual d.params d.body d.scope [] [] (He.fAd K d.at_) fd → ∀ base : Heap, K.In base → base.Ns mainGlobals mg → (∀ p ∈ ts.map (fun t => (codeOf K t.at_, tb (codeOf K t.at_))), LamX.TabB base mg p.1 p.2) → FnOk l.prog w K mg base (L2.CX l.prog w) k (He.fAd K d.at_) fd ["script"] (spLaw (tlOf K tb ts) K)) :
    LamX.LawAtS l w K (L2.CX l.prog w) k 63 "script" mg f h := by
  obtain ⟨fd, FD⟩ := S.s.def_ i hd
  have FD : FunD K d.name d.qual d.params d.body d.scope [] [] (He.fAd K d.at_) fd := by
    have e0 : d.dvs K = [] := by unfold He.DefD.dvs; rw [d0] <;> rfl
    have e1 : d.kws K = [] := by unfold He.DefD.kws; rw [d1] <;> rfl
    rw [e0, e1] at FD
    exact FD
  subst ef
  refine ⟨fd, ts.map (fun t => (codeOf K t.at_, tb (codeOf K t.at_))), spLaw (tlOf K tb ts) K, fun p hp => ?_, fun p hp => ?_, fun p hp => ?_, hb fd FD, fun H a ns hl hbits hH hS => ⟨a, ns, rfl, hS, fun p hp => ?_, fun _ => rfl⟩, fun base b1 b2 b3 => ok fd FD base b1 b2 b3⟩
  · obtain ⟨t, ht, e⟩ := List.mem_map.mp hp
    rw [← e]; exact S.e t ht
  · obtain ⟨t, ht, e⟩ := List.mem_map.mp hp
    rw [← e]; exact S.n t ht
  · obtain ⟨t, ht, e⟩ := List.mem_map.mp hp
    rw [← e]; exact S.d t ht
  · obtain ⟨t, ht, e⟩ := List.mem_map.mp hp
    rw [← e]
    exact LamX.TabS.nil (hH _ (List.mem_map.mpr ⟨t, ht, rfl⟩))
theorem cx_end {l : PySem.W.OpenLaw} : ∀ (w : World) (H : Hp) (s : Shared) (e : Value) (s' : Shared), L2.CX l.prog w [] H s (fun _ _ _ => False) e s' → False := fun w H s e s' ⟨_, _, _, _, _, _, _, _, _, _, _, _, z⟩ => z
end TH
set_option Elab.async false
set_option linter.all false
set_option maxRecDepth 100000
set_option maxHeartbeats 2000000
/-! TB47: while with a test that may fail; min, max of three; text by index; a value among many. -/
namespace TH
open PySem PySem.Spec PyProof.Rows L2
end TH
set_option Elab.async false
set_option linter.all false
set_option maxRecDepth 100000
set_option maxHeartbeats 2000000
/-! TB48: new cells, told by their addresses. -/
namespace TH
open PySem PySem.Spec PyProof.Rows L2
abbrev NE {β ν : Type} (out : β → ν → D) (ho : β → ν → SH) : β → D → SH → Prop := fun b d h' => ∃ n, d = out b n ∧ h' = ho b n
abbrev NEs {β ν : Type} (out : β → ν → List D) (ho : β → ν → SH) : β → List D → SH → Prop := fun b ds h' => ∃ n, ds = out b n ∧ h' = ho b n
section
variable {TL : List (Addr × Str)} {X : Cx} {cA : CA} {E : XK} {Wx : WX} {Γ : En} {h : SH} {ε α α1 α2 β γ ρ ν ν1 ν2 : Type} {he : ε → SH} {e a b c tg : Expr} {es : List Expr} {pos p : Pos} {rest : List Stmt} {d : D} {x y z : Str} {oN : β → En × SH → Prop} {oJ : γ → En × SH} {oR : ρ → D × SH → Prop}
theorem en_sub {r : Res ε β} {po po' : β → D → SH → Prop} (q : EN TL X cA Wx e Γ h r po he) (k : ∀ b d h', po b d h' → po' b d h') : EN TL X cA Wx e Γ h r po' he :=
  PEimp q fun σ H Q ⟨R, hE, hH, w⟩ => ⟨R, hE, hH, Res.wp_mono (fun b w1 d h' z v H' => w1 d h' (k b d h' z) v H') (fun _ _ k => k) w⟩
theorem ean_sub {r : Res ε β} {po po' : β → List D → SH → Prop} (q : EAN TL X cA Wx es Γ h r po he) (k : ∀ b d h', po b d h' → po' b d h') : EAN TL X cA Wx es Γ h r po' he :=
  PAimp q fun σ H Q ⟨R, hE, hH, w⟩ => ⟨R, hE, hH, Res.wp_mono (fun b w1 d h' z v H' => w1 d h' (k b d h' z) v H') (fun _ _ k => k) w⟩
/-- told -/
theorem asN {r : Res ε β} (out : β → ν → D) (ho : β → ν → SH) (q : EN TL X cA Wx e Γ h r (NE out ho) he) : EN TL X cA Wx e Γ h r (NE out ho) he := q
theorem ne_ev {r : Res ε β} {out : β → D} {ho : β → SH} (q : EV TL X cA Wx e Γ h r out ho he) : EN TL X cA Wx e Γ h r (NE (ν := Unit) (fun b _ => out b) fun b _ => ho b) he :=
  en_sub (en_ev q) fun b d h' ⟨e1, e2⟩ => ⟨(), e1, e2⟩
theorem ne_nc {r : Res ε β} {o : β → O} {ho : β → SH} {ho' : β → Addr → SH} (q : EN TL X cA Wx e Γ h r (NC o ho) he) (e1 : ∀ b n, ho' b n = ho b ++ [(n, o b)] := by intros; rfl) : EN TL X cA Wx e Γ h r (NE (fun _ n => D.ref n) ho') he :=
  en_sub q fun b d h' ⟨n, e2, e3⟩ => ⟨n, e2, by rw [e1]; exact e3⟩
theorem nea_nil : EAN TL X cA Wx [] Γ h (.ok () : Res ε Unit) (NEs (ν := Unit) (fun _ _ => []) fun _ _ => h) he := ean_sub ean_nil fun b d h' ⟨e1, e2⟩ => ⟨(), e1, e2⟩
theorem nea_cons {ra : Res ε α1} {rb : α1 → Res ε α2} {oa : α1 → ν1 → D} {ha : α1 → ν1 → SH} {ob : α1 → ν1 → α2 → ν2 → List D} {hb : α1 → ν1 → α2 → ν2 → SH} (pk : α1 → α2 → β) {out : β → ν1 × ν2 → List D} {ho : β → ν1 × ν2 → SH}
    (q : EN TL X cA Wx e Γ h ra (NE oa ha) he) (q2 : ∀ x n, EAN TL X cA Wx es Γ (ha x n) (rb x) (NEs (ob x n) (hb x n)) he)
    (e1 : ∀ x n y m, out (pk x y) (n, m) = oa x n :: ob x n y m := by intros; rfl) (e2 : ∀ x n y m, ho (pk x y) (n, m) = hb x n y m := by intros; rfl)
    (hs : starEach (e :: es) X.env = (false, eval e X.env) :: starEach es X.env := by rfl) : EAN TL X cA Wx (e :: es) Γ h (ra.bind fun x => (rb x).bind fun y => .ok (pk x y)) (NEs out ho) he :=
  ean_cons pk (pb := fun x d1 h1 y ds h2 => ∃ n, d1 = oa x n ∧ h1 = ha x n ∧ ∃ m, ds = ob x n y m ∧ h2 = hb x n y m) q
    (fun x d1 h1 ⟨n, e3, e4⟩ => by subst e3 e4; exact ean_sub (q2 x n) fun y ds h2 ⟨m, e5, e6⟩ => ⟨n, rfl, rfl, m, e5, e6⟩)
    (fun x d1 h1 y ds h2 _ ⟨n, e3, e4, m, e5, e6⟩ => ⟨(n, m), by rw [e1, e3, e5], by rw [e2, e6]⟩) hs
theorem ss_tupE {re : Res ε α} {out : α → ν → List D} {ha : α → ν → SH} {k0 : α → Res ε (Fl β γ ρ)} {Γ1 : α → ν → En} {k2 : Nat} {pt2 : Pos} (q : EAN TL X cA (WK E) es Γ h re (NEs out ha) he) (g : ∀ x n, EG TL X tg Γ (ha x n) (.tup (out x n)) (Γ1 x n)) (q2 : ∀ x n, SS TL X cA E rest (Γ1 x n) (ha x n) (k0 x) oN oJ oR he)
    (hl : ∀ x n, Nat.ble (out x n).length 1000 = true := by intros; rfl) (hs : swapsWithSole [tg] (.Tuple es k2 pt2) pos.line X.env = pure false := by rfl) (hw : swappedStores [tg] (.Tuple es k2 pt2) X.env = pure none := by rfl) (h1 : (assignEach [tg] X.env).map (·.2) = [assign tg X.env] := by rfl) :
    SS TL X cA E (.Assign [tg] (.Tuple es k2 pt2) pos :: rest) Γ h (re.bind k0) oN oJ oR he :=
  PSsimp (pss_cons (ps_asg (pe_tup q) (PGex fun i : α × ν => g i.1 i.2) hs hw h1) (PSsex fun i : α × ν => q2 i.1 i.2)) fun Dn σ H ⟨R, hE, hH, w⟩ =>
    ⟨R, hE, hH, Res.wp_mono (fun x k' ds h' ⟨n, ed, eh⟩ vs H' a b c => by
      subst ed eh
      exact ⟨by rw [← c.length]; exact Nat.le_trans (Nat.le_of_ble_eq_true (hl x n)) (by decide), fun q hq => ⟨(x, n), R, (hE.fr b).fr (Fr.ext (upd_keep hq)), a.fr0 (upd_keep hq), Rep.newT a hq c, fun σ2 H2 a2 b2 f2 =>
        ⟨(x, n), tS_step a2 b2 ((b.trans (Fr.ext (upd_keep hq))).trans f2) k'⟩⟩⟩) (fun x e k => k) (Res.wp_bind.mp w)⟩
end
end TH
set_option Elab.async false
set_option linter.all false
set_option maxRecDepth 100000
set_option maxHeartbeats 2000000
/-! TB49: d[k] op= v where v changes the dict; an object that holds a new dict, as a value. -/
namespace TH
open PySem PySem.Spec PyProof.Rows L2
theorem Reps.setAt {K : PySem.W.Frag} {W : Own} {H : Hp} : ∀ {ds : List D} {xs : List V} {i : Nat} {d : D} {v : V}, Reps K W H ds xs → xs[i]? = some v → Rep K W H d v → Reps K W H (ds.set i d) xs
  | [], xs, i, d, v, r, e, q => by
    simp only [Reps] at r
    subst r
    simp at e
  | d0 :: ds, xs, i, d, v, r, e, q => by
    simp only [Reps] at r
    obtain ⟨x, t, rfl, r1, r2⟩ := r
    cases i with
    | zero =>
      have : x = v := by simpa using e
      subst this
      exact .cons q r2
    | succ i => exact .cons r1 (Reps.setAt r2 (by simpa using e) q)
section
variable {TL : List (Addr × Str)} {X : Cx} {cA : CA} {Wx : WX} {Γ : En} {h : SH} {ε β α : Type} {he : ε → SH} {e : Expr} {C : Addr} {f : α → D} {es : List Expr} {pos : Pos}
theorem ev_enOD {r : Res ε β} {ns : List Str} (i : Nat) {vr : β → Addr → List D} {vs : β → List D} {ks ws : β → List D} {ha : β → SH} {out : β → D}
    (q : EN TL X cA Wx e Γ h r (NE (ν := Addr × Addr) (fun _ n => D.ref n.1) (fun b n => ha b ++ [(n.1, .ins C ns (vr b n.2)), (n.2, .dic none false (ks b) (ws b))])) he)
    (e0 : ∀ b n, (vr b n)[i]? = some (.ref n) := by intros; rfl) (e1 : ∀ b, out b = .obj C ns (vs b) := by intros; rfl) (e2 : ∀ b n, vs b = (vr b n).set i (.dic false (ks b) (ws b)) := by intros; rfl) : EV TL X cA Wx e Γ h r out ha he :=
  PEimp q fun σ H Q ⟨R, hE, hH, w⟩ => ⟨R, hE, hH, Res.wp_mono (fun b k d h' ⟨⟨a, y⟩, ed, eh⟩ v H' x f c => by
    subst ed eh
    dsimp only at x f c
    have hv : v = .ref a := by simpa only [Rep] using c
    subst hv
    have s : List.Sublist (ha b) (ha b ++ [(a, O.ins C ns (vr b y)), (y, .dic none false (ks b) (ws b))]) := List.sublist_append_left _ _
    have s1 : List.Sublist (ha b) (ha b ++ [(a, O.ins C ns (vr b y))]) := List.sublist_append_left _ _
    refine k _ H' (x.drop s) (f.trans (Fr.drop s)) ?_
    rw [e1]
    obtain ⟨dx, fs, e, en, r⟩ := x.at_ (a, O.ins C ns (vr b y)) (List.mem_append_right _ List.mem_cons_self)
    have na : ¬ own R (ha b) a := by
      rintro (z | z)
      · exact (x.ap a z).2 (dom_app.mpr (.inr (by simp [dom])))
      · have nd := x.nd
        rw [List.map_append, List.nodup_append] at nd
        exact nd.2.2 a z a (by simp) rfl
    have x2 : HR TL X.K R ((ha b ++ [(a, O.ins C ns (vr b y))]) ++ [(y, .dic none false (ks b) (ws b))]) H' := by simpa using x
    have rd := (Rep.frzDc x2).keep (W' := own R (ha b)) (H' := H') (fun p o n e nt => ⟨fun z => n (drop_own s1 p z), o, e, Sim.refl o⟩)
    obtain ⟨v, ev, rv⟩ := r.get (e0 b y)
    have ev2 : v = .ref y := by simpa only [Rep] using rv
    subst ev2
    simp only [Rep]
    refine ⟨a, dx, fs, rfl, na, e, en, ?_⟩
    rw [e2 b y]
    exact Reps.setAt (r.drop' s) ev rd) (fun _ _ k => k) w⟩
end
end TH
set_option Elab.async false
set_option linter.all false
set_option maxRecDepth 100000
set_option maxHeartbeats 2000000
/-! TB50: sorted of dicts and of their items. -/
namespace TH
open PySem PySem.Spec PyProof.Rows L2
section
variable {TL : List (Addr × Str)} {X : Cx} {K : PySem.W.Frag} {W : Own} {R : Own} {h : SH} {H : Hp} {α : Type} {f : α → D} {da : D} {n : Nat}
theorem srt_mid {pins : List (Addr × Obj)} {σ : L2.St} {s : Shared} {u : Value} {kw : List (Str × Value)} {b : Bool} {xs : List α} {Q : VK} (T : TyS f n) (hu : X.A.units + 70 < cLine) (hn60 : n ≤ 60)
    (hcol : ∀ Q' : List Value → Shared → Prop, (∀ s1 H1 its ys, Inv X pins σ H1 s1 → HR TL X.K R h H1 → Fr R h h H H1 → Reps X.K (own R h) H1 (xs.map f) ys → Vals ys its → its.length ≤ sizeLine → Q' its s1) → wpAny (model X.prog X.w) X.A.in1 (collect u) Q' X.xe s)
    (hk : ∀ a : Addr, Builtin.«list.sort» ⟨[.ref a], kw⟩ = Builtin.«list.sort» ⟨[.ref a], [(Str.ofString "reverse", .bool b)]⟩) (ha1 : argsOk "sorted" ⟨[u], kw⟩) (ha2 : ∀ x : Addr, argsOk "list.sort" ⟨[.ref x], kw⟩)
    (q : ∀ v H', HR TL X.K R h H' → Fr R h h H H' → Rep X.K (own R h) H' (.lst ((sortT b f xs).map f)) v → Q v H') : wpAny (model X.prog X.w) X.A (call (.builtin "sorted") [u] kw) (L2.EP X pins σ Q) X.xe s := by
  refine call_function_entry_kw kind_sorted plain_sorted entry_sorted ha1 ?_
  unfold Builtin.«sorted»
  refine wpAny_bind (m := checkCount "sorted" 1 1 _) (wpAny_pure ?_)
  refine wpAny_bind (hcol _ fun s1 H1 its ys I1 hR fH rs rv hL => ?_)
  let h' := s1.heap
  refine wpAny_bind (wpAny_newList ?_ (by simpa using hL))
  have hoL : (h'.push (seqObj "list" its.toArray 0)).get? h'.objs.size = some (seqObj "list" its.toArray 0) := Heap.get?_push_size _ rfl
  have I2 : Inv X pins σ H1 { s1 with heap := h'.push (seqObj "list" its.toArray 0) } := I1.kept (t' := s1.toks) fun b o e => Heap.get?_push_of_some _ e
  show wpAny _ _ _ _ _ { s1 with heap := h'.push (seqObj "list" its.toArray 0) }
  obtain ⟨eR, eD⟩ := each_of T.toTyO I2 rs rv
  have eD' : PySem.W.EachIs (fun v a => ∃ as, Reads (PySem.W.sortingHeap (h'.push (seqObj "list" its.toArray 0)) h'.objs.size its) v (py (f a)) as) its xs := by
    obtain ⟨_, eD1⟩ := each_of T.toTyO I1 rs rv
    refine eD1.mono fun v a ⟨as, r⟩ => ⟨as, PyProof.Rows.Reads.keeps (fun b o e => ?_) r⟩
    exact PySem.W.sortingHeap_old (Nat.ne_of_lt (Heap.lt_size e)) (Heap.get?_push_of_some _ e)
  have hal : PySem.W.AllAlike (xs.map fun a => py (f a)) := PySem.W.AllAlike.of fun x y => T.al x y
  have hsb : PySem.W.Sortable (xs.map fun a => py (f a)) := by
    rcases T.so with so | so
    · exact PySem.W.Sortable.tuples so
    · exact PySem.W.Sortable.others so
  refine wpAny_bind (wpAny_holding (wpAny_call_entry_kw slot_list_sort ⟨_, hoL, rfl⟩ entry_list_sort (b := Builtin.«list.sort») ?_ (ha2 _)))
  rw [hk]
  refine PySem.W.list_sort_rev_vals (s := { s1 with heap := h'.push (seqObj "list" its.toArray 0) }) (κ := PySem.W.dataKind (PySem.W.sortingHeap (h'.push (seqObj "list" its.toArray 0)) h'.objs.size its) (xs.map fun a => py (f a))) hoL
    (PySem.W.SortsAt.data (s := { s1 with heap := PySem.W.sortingHeap (h'.push (seqObj "list" its.toArray 0)) h'.objs.size its }) (PySem.W.each_map (R := fun v d => ∃ as, Reads (PySem.W.sortingHeap (h'.push (seqObj "list" its.toArray 0)) h'.objs.size its) v d as) (fun a => py (f a)) eD') hal hsb (fun d hd => ?_)) hL ⟨_, rfl, wpAny_pure ⟨_, rfl, ?_⟩⟩
  · obtain ⟨a, ha, rfl⟩ := List.mem_map.mp hd
    have := T.dp a
    show X.A.units + 1 + 1 + (py (f a)).depth < cLine
    omega
  · have out := PySem.W.sortVals_data b eR eD' hal
    obtain ⟨zs, vz, rz⟩ := each_back out
    have lz : (PySem.W.sortVals (PySem.W.dataKind (PySem.W.sortingHeap (h'.push (seqObj "list" its.toArray 0)) h'.objs.size its) (xs.map fun a => py (f a))) b its its).length = its.length := PySem.W.sortVals_length b rfl
    obtain ⟨e, he⟩ := sortedHeap_at (vs := its) (out := (PySem.W.sortVals (PySem.W.dataKind (PySem.W.sortingHeap (h'.push (seqObj "list" its.toArray 0)) h'.objs.size its) (xs.map fun a => py (f a))) b its its).toArray) hoL
    have hnew : H1 h'.objs.size = none := I1.hok.fresh (Nat.le_refl _)
    have zlen : zs.length ≤ sizeLine := by rw [vz.length, lz]; exact hL
    refine ⟨.ref h'.objs.size, upd H1 h'.objs.size (.lst zs), I1.laid (a := h'.objs.size) (t' := s1.toks) (fun b u e => ?_) (Nat.le_refl _) (show ObjOk X.prog X.w _ _ _ (.lst zs) from ⟨zlen, _, e, vz, he⟩), rfl, q _ _ (hR.fr0 (upd_keep hnew)) (fH.trans (Fr.ext (upd_keep hnew))) (Rep.newL hR hnew rz)⟩
    have hb : b < h'.objs.size := Heap.lt_size e
    rw [sortedHeap_old (Nat.ne_of_lt hb) (by rw [size_push']; exact Nat.lt_succ_of_lt hb)]
    exact Heap.get?_push_of_some _ e
end
section
variable {TL : List (Addr × Str)} {X : Cx} {R : Own} {h : SH} {H : Hp} {κ α : Type} [DecidableEq κ] {g : κ → D} {f : α → D} {da : D} {n : Nat} {ps : List (κ × α)} {Γ : En} {e : Expr} {p apos cpos pos : Pos}
theorem c_sortedDk (T : TyK g) (S : TyS g n) (hc : X.calm = true) (is : IsDk h da (ps.map fun q => g q.1) (ps.map fun q => f q.2)) (hu : X.A.units + 70 < cLine) (hn60 : n ≤ 60 := by decide) : C1 X (.builtin "sorted") (rUn TL X.K h da (some ()) fun _ => .lst ((sortT false g (ps.map (·.1))).map g)) := by
  intro pins s σ H vs us Q I r q
  unfold l1 at q
  split at q
  · obtain ⟨R, hR, rx, _, _, q⟩ := q
    obtain ⟨a, kv, rfl, rd, ek, rs, ko⟩ := is.at_ T hR rx
    obtain ⟨u, eu, ru⟩ := vals1 r
    subst eu
    cases ru
    obtain ⟨z, lo, ws, rel, dd⟩ := dk_rd I.hok rd
    obtain ⟨ep, hat⟩ := dd.dictAt
    have lk : kv.length = ws.length := rel.length
    have e2 : (kv.map fun q => kV q.1) = ws.map fun q => kV q.1 := by
      have := congrArg (List.map kV) rel.keys
      rw [List.map_map, List.map_map] at this
      exact this
    refine srt_mid (xs := ps.map (·.1)) (h := h) (R := R) S hu hn60 (fun Q' k => PySem.W.kdu_collect (PySem.W.kdl_dict (kvs := ws) (ep := ep) lo) (I.ok.hd hc) hat (by omega) fun h' tk acc hk hacc => k _ H _ (kv.map fun q => kV q.1) (I.kept hk) hR (Fr.refl h H) (by rw [List.map_map]; exact keys_reps T ek ko) ?_ ?_) (fun a => PySem.W.plain_is_rev a) (args_sorted1 _) (fun _ => args_list_sort _) q
    · rw [e2]
      exact keys_at (by rw [Array.length_toList]; exact hacc.1) fun j v e => hacc.2 j v (by rw [← Array.getElem?_toList]; exact e)
    · rw [Array.length_toList, hacc.1]
      omega
  · exact q.elim
/-! ### items, each a new tuple -/
/-! ### f(e.items()), f(e.values()) -/
end
end TH
set_option Elab.async false
set_option linter.all false
set_option maxRecDepth 100000
set_option maxHeartbeats 2000000
/-! TB51: sum(e.values()). -/
namespace TH
open PySem PySem.Spec PyProof.Rows L2
section
variable {TL : List (Addr × Str)} {X : Cx} {cA : CA} {Wx : WX} {Γ : En} {h : SH} {ε β : Type} {he : ε → SH} {e : Expr} {out : β → D} {r : Res ε β}
/-- the heap told otherwise -/
theorem asH (h' : SH) (p : EV TL X cA Wx e Γ h' r out (fun _ => h') he) (eh : h = h' := by rfl) : EV TL X cA Wx e Γ h r out (fun _ => h) he := by
  subst eh
  exact p
end
end TH
set_option Elab.async false
set_option linter.all false
set_option maxRecDepth 100000
set_option maxHeartbeats 2000000
/-! TB52: a statement over a locked dict cell. -/
namespace TH
open PySem PySem.Spec PyProof.Rows L2
end TH
set_option Elab.async false
set_option linter.all false
set_option maxRecDepth 100000
set_option maxHeartbeats 2000000
/-! TB53: dicts copied, dicts in unions compared; get with a default of another type; methods of new objects; dict cells handed back. -/
namespace TH
open PySem PySem.Spec PyProof.Rows L2
/-! ### values read back -/
end TH
set_option Elab.async false
set_option linter.all false
set_option maxRecDepth 100000
set_option maxHeartbeats 2000000
/-! TB54: dict(d), dict(d.items()), get with a default of another type, dict cells handed back, methods of new objects. -/
namespace TH
open PySem PySem.Spec PyProof.Rows L2
/-! ### promises without exceptions -/
section
variable {X : Cx} {TL : List (Addr × Str)} {cA : CA} {ι ε' β' : Type} {k : Nat} {ps : List Str} {x m : Str} {C : Addr} {args : ι → List D} {hin : ι → SH} {rf : ι → Res ε' β'} {po : ι → β' → D × SH → Prop} {hef : ι → ε' → SH}
theorem fn_noE {P : Program} {w : World} {K : PySem.W.Frag} {mg : Str → Option Value} {base : Heap} {f : Addr} {fd : FuncData} (F : FnOk P w K mg base (L2.CX P w) k f fd ps (spM TL K cA args hin rf po hef)) : FnOk P w K mg base (L2.CX P w) k f fd ps (spM TL K cA args hin (fun i => (rf i).noE (ε' := Empty)) po fun _ e => e.elim) :=
  ⟨fun vs H Q E ⟨i, R, a, b, c⟩ => F.len vs H Q (fun _ _ _ => False) ⟨i, R, a, b, Res.wp_mono (fun _ k => k) (fun _ _ k => k.elim) (Res.wp_noE.mp c)⟩, fun A outer s H as us vs Q E h1 h2 h3 h4 ⟨i, R, a, b, c⟩ => F.run A outer s H as us vs Q E h1 h2 h3 h4 ⟨i, R, a, b, Res.wp_mono (fun _ k => k) (fun _ _ k => k.elim) (Res.wp_noE.mp c)⟩⟩
theorem MF.noE (M : MF X C m k ps (spM TL X.K cA args hin rf po hef)) : MF X C m k ps (spM TL X.K cA args hin (fun i => (rf i).noE (ε' := Empty)) po fun _ e => e.elim) := by
  obtain ⟨c, f, fd, F, hm, hb⟩ := M
  exact ⟨c, f, fd, fn_noE F, hm, hb⟩
theorem GF.noE (M : GF X x k ps (spM TL X.K cA args hin rf po hef)) : GF X x k ps (spM TL X.K cA args hin (fun i => (rf i).noE (ε' := Empty)) po fun _ e => e.elim) := by
  obtain ⟨f, fd, F, hm, hk, hb⟩ := M
  exact ⟨f, fd, fn_noE F, hm, hk, hb⟩
end
section
variable {TL : List (Addr × Str)} {X : Cx} {cA : CA} {Wx : WX} {Γ : En} {h : SH} {ι ε ε' α β β' β1 ν : Type} {he : ε → SH} {k : Nat} {ps : List Str} {m : Str} {C : Addr} {o e : Expr} {es : List Expr} {pos apos : Pos} {args : ι → List D} {hin : ι → SH} {rf : ι → Res ε' β'} {of : ι → β' → D} {hf : ι → β' → SH} {hef : ι → ε' → SH}
/-- a method of what may be a new object -/
theorem ev_methE {pl : Sem Bool} (M : MF X C m k ps (spM TL X.K cA args hin rf (fun i b S => S = (of i b, hf i b)) hef)) (hr : Room k X.A) (tk : Takes X Wx) {r0 : Res ε β1} {o0 : β1 → ν → D} {h0 : β1 → ν → SH} (po : EN TL X cA Wx o Γ h r0 (NE o0 h0) he) (hi : ∀ z n, IsIns (h0 z n) (o0 z n) C m)
    {ra : β1 → Res ε α} {oa : β1 → ν → α → List D} {ha : β1 → ν → α → SH} (pa : ∀ z n, EA TL X cA Wx (e :: es) Γ (h0 z n) (ra z) (oa z n) (ha z n) he)
    (ix : β1 → ν → α → ι) (r1 : β1 → α → Res ε' β') (nn : Nat) (is rs : List Nat) (pk : β1 → α → β' → β) (g : β1 → α → ε' → ε) (hx : β1 → ν → α → β' → SH) {out : β → D} {ho : β → SH} (e5 : ∀ z n y x, SubP (he (g z y x)) (hef (ix z n y) x ++ rs.map (gD (ha z n y))))
    (er : ∀ z n y, rf (ix z n y) = r1 z y := by intros; rfl) (ei : ∀ z n y, o0 z n :: oa z n y = args (ix z n y) := by intros; rfl) (en : ∀ z n y, (ha z n y).length = nn := by intros; rfl) (eh : ∀ z n y, is.map (gD (ha z n y)) = hin (ix z n y) := by intros; rfl)
    (e1 : ∀ z n y b, out (pk z y b) = of (ix z n y) b := by intros; rfl) (e2 : ∀ z n y b, (hx z n y b).length = nn := by intros; rfl) (e3 : ∀ z n y b, is.map (gD (hx z n y b)) = hf (ix z n y) b := by intros; rfl) (e4 : ∀ z n y b, rs.map (gD (hx z n y b)) = rs.map (gD (ha z n y)) := by intros; rfl)
    (e6 : ∀ z n y b, List.Sublist (ho (pk z y b)) (hx z n y b))
    (pm : (List.range nn).Perm (is ++ rs) := by decide) (hst : starEach (e :: es) X.env = (false, eval e X.env) :: starEach es X.env := by rfl) (hpl : (backTo pos (starEach es X.env)).any (·.1) = false := by rfl)
    (ht : eval (.Call (.Attribute o m apos) (e :: es) [] pos) X.env = (do
      let ov ← eval o X.env
      standAt apos.atName
      let (f, first) ← holding [ov] (getMethod ov m pl)
      callWith pos f first (backTo pos (starEach (e :: es) X.env)) (backToKw pos (keywordEach [] X.env))) := by rfl) :
    EV TL X cA Wx (.Call (.Attribute o m apos) (e :: es) [] pos) Γ h (r0.bind fun z => (ra z).bind fun y => ((r1 z y).mapE (g z y)).bind fun b => .ok (pk z y b)) out ho he := by
  obtain ⟨c, f, fd, F, hm, hb⟩ := M
  refine PEimp (pe_methS (pl := pl) po c hm F hr hb (fun σ => passAt tk σ) (PAex fun i : β1 × ν => pa i.1 i.2) hst hpl ht) fun σ H Q ⟨R, hE, hH, w⟩ => ⟨R, hE, hH, Res.wp_mono (fun z w1 d h' ⟨n, ed, eh'⟩ v H1 h1 f1 r1 => ?_) (fun _ _ k => k) (Res.wp_bind.mp w)⟩
  subst ed eh'
  obtain ⟨q, dx, fs, ev, eq, l⟩ := (hi z n).use h1 r1
  refine ⟨q, dx, fs, ev, eq, l, (z, n), R, hE.fr f1, h1, Res.wp_mono (fun y k vs H2 h2 f2 r2 => ?_) (fun x e k cls d H' a b c => k cls d H' a (f1.trans b) c) (Res.wp_bind.mp w1)⟩
  refine call_use (β := β') pm (en z n y) (eh z n y) (fun b => b) (out := of (ix z n y)) (ho := hx z n y) (g z y) h2 (f1.trans f2) (by rw [← ei]; exact .cons (r1.fr f2) r2) (fun _ => rfl) (e2 z n y) (e3 z n y) (e4 z n y) (e5 z n y) ?_
  rw [er]
  exact Res.wp_bind.mpr (Res.wp_mono (fun b k2 v H' a f3 c => by
    have k2 : ∀ v H', HR TL X.K R (ho (pk z y b)) H' → Fr R h (ho (pk z y b)) H H' → Rep X.K (own R (ho (pk z y b))) H' (out (pk z y b)) v → Q v H' := k2
    exact k2 v H' (a.drop (e6 z n y b)) (f3.trans (Fr.drop (e6 z n y b))) (by rw [e1 z n y b]; exact c.drop (e6 z n y b))) (fun _ _ k => k) (Res.wp_bind.mp k))
theorem ev_methE0 {pl : Sem Bool} (M : MF X C m k ps (spM TL X.K cA args hin rf (fun i b S => S = (of i b, hf i b)) hef)) (hr : Room k X.A) (tk : Takes X Wx) {r0 : Res ε β1} {o0 : β1 → ν → D} {h0 : β1 → ν → SH} (po : EN TL X cA Wx o Γ h r0 (NE o0 h0) he) (hi : ∀ z n, IsIns (h0 z n) (o0 z n) C m)
    (ix : β1 → ν → ι) (r1 : β1 → Res ε' β') (nn : Nat) (is rs : List Nat) (pk : β1 → β' → β) (g : β1 → ε' → ε) (hx : β1 → ν → β' → SH) {out : β → D} {ho : β → SH} (e5 : ∀ z n x, SubP (he (g z x)) (hef (ix z n) x ++ rs.map (gD (h0 z n))))
    (er : ∀ z n, rf (ix z n) = r1 z := by intros; rfl) (ei : ∀ z n, [o0 z n] = args (ix z n) := by intros; rfl) (en : ∀ z n, (h0 z n).length = nn := by intros; rfl) (eh : ∀ z n, is.map (gD (h0 z n)) = hin (ix z n) := by intros; rfl)
    (e1 : ∀ z n b, out (pk z b) = of (ix z n) b := by intros; rfl) (e2 : ∀ z n b, (hx z n b).length = nn := by intros; rfl) (e3 : ∀ z n b, is.map (gD (hx z n b)) = hf (ix z n) b := by intros; rfl) (e4 : ∀ z n b, rs.map (gD (hx z n b)) = rs.map (gD (h0 z n)) := by intros; rfl)
    (e6 : ∀ z n b, List.Sublist (ho (pk z b)) (hx z n b))
    (pm : (List.range nn).Perm (is ++ rs) := by decide)
    (ht : eval (.Call (.Attribute o m apos) [] [] pos) X.env = (do
      let ov ← eval o X.env
      standAt apos.atName
      let (f, first) ← holding [ov] (getMethod ov m pl)
      callWith pos f first (backTo pos (starEach [] X.env)) (backToKw pos (keywordEach [] X.env))) := by rfl) :
    EV TL X cA Wx (.Call (.Attribute o m apos) [] [] pos) Γ h (r0.bind fun z => ((r1 z).mapE (g z)).bind fun b => .ok (pk z b)) out ho he := by
  obtain ⟨c, f, fd, F, hm, hb⟩ := M
  refine PEimp (pe_methS0 (pl := pl) po c hm F hr hb (fun σ => passAt tk σ) ht) fun σ H Q ⟨R, hE, hH, w⟩ => ⟨R, hE, hH, Res.wp_mono (fun z w1 d h' ⟨n, ed, eh'⟩ v H1 h1 f1 r1 => ?_) (fun _ _ k => k) (Res.wp_bind.mp w)⟩
  subst ed eh'
  obtain ⟨q, dx, fs, ev, eq, l⟩ := (hi z n).use h1 r1
  refine ⟨q, dx, fs, ev, eq, l, ?_⟩
  refine call_use (β := β') pm (en z n) (eh z n) (fun b => b) (out := of (ix z n)) (ho := hx z n) (g z) h1 f1 (by rw [← ei]; exact .cons r1 .nil) (fun _ => rfl) (e2 z n) (e3 z n) (e4 z n) (e5 z n) ?_
  rw [er]
  exact Res.wp_bind.mpr (Res.wp_mono (fun b k2 v H' a f3 c => by
    have k2 : ∀ v H', HR TL X.K R (ho (pk z b)) H' → Fr R h (ho (pk z b)) H H' → Rep X.K (own R (ho (pk z b))) H' (out (pk z b)) v → Q v H' := k2
    exact k2 v H' (a.drop (e6 z n b)) (f3.trans (Fr.drop (e6 z n b))) (by rw [e1 z n b]; exact c.drop (e6 z n b))) (fun _ _ k => k) (Res.wp_bind.mp w1))
end
end TH
set_option Elab.async false
set_option linter.all false
set_option maxRecDepth 100000
set_option maxHeartbeats 2000000
/-! TB55: dict displays as total values. -/
namespace TH
open PySem PySem.Spec PyProof.Rows L2
section
variable {TL : List (Addr × Str)} {X : Cx} {Γ : En} {h : SH} {κ α : Type} [DecidableEq κ] {pos : Pos} {g : κ → D} {f : α → D}
theorem ep_dnil : EP TL X (.Dict [] [] pos) Γ h (.dic false [] []) :=
  ep_of (β := List (Int × Int)) (b := []) (out := fun ps => .dic false (ps.map fun q => D.int q.1) (ps.map fun q => D.int q.2)) (ho := fun _ => h) (ev_enD (en_dnil (g := D.int) (f := D.int)))
theorem ep_disp {ks : List (Option Expr)} {vs : List Expr} (T : TyK g) (ps : List (κ × α)) (q : EPs TL X Γ h ks vs (ps.map fun p => (g p.1, f p.2))) (hall : ks.all (·.isSome) = true := by rfl) (hl : ks.length = vs.length := by rfl) (h0 : ks ≠ [] := by simp) (h15 : ks.length ≤ 15 := by decide) (p15 : ps.length ≤ 15 := by exact Nat.le_of_ble_eq_true rfl) :
    EP TL X (.Dict ks vs pos) Γ h (.dic false ((dictT ps).map fun q => g q.1) ((dictT ps).map fun q => f q.2)) :=
  ep_of (β := List (κ × α)) (b := dictT ps) (out := fun ps => .dic false (ps.map fun q => g q.1) (ps.map fun q => f q.2)) (ho := fun _ => h) (ev_enD (en_disp T ps q hall hl h0 h15 p15))
end
end TH
set_option Elab.async false
set_option linter.all false
set_option maxRecDepth 100000
set_option maxHeartbeats 2000000
/-! TB56: a lambda with one parameter, called by a built-in; min(e, key=lambda ..). -/
namespace TH
open PySem PySem.Spec PyProof.Rows L2
/-! ### the lambda's names -/
structure LamP (N : List Str) (sc scope : Scope) (x : Str) (i : Nat) : Prop where
  kind : scope.kind = .function
  co : scope.isCoroutine = false
  gen : scope.isGenerator = false
  at_ : N[i]? = some x
  par : scope.names.lookup x = some .local
  own : ∀ y ∈ scope.names, y.2 ≠ .cell ∧ (y.2 = .local → y.1 = x)
  nf : ∀ y ∈ scope.names, y.1 = x → y.2 = .local
  free : ∀ y ∈ scope.names, y.2 = .free → sc.names.lookup y.1 = some .cell ∨ sc.names.lookup y.1 = some .free
theorem LamP.has {X : Cx} {N : List Str} {scope : Scope} {x : Str} {i : Nat} (L : LamP N X.env.scope scope x i) (ok : X.Ok) : ∀ y ∈ scope.names, y.2 = .free → ∃ c, X.env.cells.lookup y.1 = some c := fun y hy e => by
  rcases L.free y hy e with k | k
  · exact ok.has _ (.inl k)
  · exact ok.has _ (.inr k)
end TH
set_option Elab.async false
set_option linter.all false
set_option maxRecDepth 100000
set_option maxHeartbeats 2000000
/-! TB57: min(e, key=lambda ..). -/
namespace TH
open PySem PySem.Spec PyProof.Rows L2
/-! ### the loop -/
end TH
set_option Elab.async false
set_option linter.all false
set_option maxRecDepth 100000
set_option maxHeartbeats 2000000
/-! TB58: min(e, key=lambda ..): the first turn, the rule. -/
namespace TH
open PySem PySem.Spec PyProof.Rows L2
end TH
set_option Elab.async false
set_option linter.all false
set_option maxRecDepth 100000
set_option maxHeartbeats 2000000
/-! TB59: o.remove(e); new lists told by an if; min with a key, the env told. -/
namespace TH
open PySem PySem.Spec PyProof.Rows L2
/-! ### a tuple of anything against () -/
end TH
namespace TH
open PySem PySem.Spec PyProof.Rows L2
end TH
namespace TH
open PySem PySem.Spec PyProof.Rows L2
end TH
set_option Elab.async false
set_option linter.all false
set_option maxRecDepth 100000
set_option maxHeartbeats 2000000
/-! TB60: texts: order, length, signs walked, split, join; lists times ints; dict values that may fail; t1 = t2 = e; list += e. -/
namespace TH
open PySem PySem.Spec PyProof.Rows L2
/-! ### the signs of a text -/
section
variable {TL : List (Addr × Str)} {X : Cx} {cA : CA} {Wx : WX} {Γ : En} {h : SH} {ε α β β1 γ γ' ρ : Type} {he : ε → SH} {o e a b c tg : Expr} {apos cpos p pos p2 pos2 : Pos} {da : D}
/-! ### methods of texts -/
/-- o.m(e), o a text -/
theorem ev_tm1 {nm : Str} {id : String} {rr : V → List V → Hp → VK → Prop} {ra : Res ε α} {oa : α → D} {rb : α → Res ε β1} {ob : α → β1 → D} {rop : α → β1 → Option γ} {oo : α → β1 → γ → D} (pk : α → β1 → γ → β) {out : β → D} (slot : Slot "str" nm id) (hty : typeOf (.builtin id) = pure (.type "method_descriptor")) (rule : MtR X id rr)
    (po : EV TL X cA Wx o Γ h ra oa (fun _ => h) he) (pa : ∀ x, EV TL X cA Wx e Γ h (rb x) (ob x) (fun _ => h) he) (hs : ∀ x, ∃ z, oa x = .str z) (hop : ∀ x y u v H Q, rOp TL X.K h (oa x) (ob x y) (rop x y) (oo x y) u v H Q → rr u [v] H Q) (e1 : ∀ x y g, out (pk x y g) = oo x y g := by intros; rfl)
    (hst : starEach [e] X.env = [(false, eval e X.env)] := by rfl) (hbase : attributeBase o nm X.env (eval o X.env) = eval o X.env := by rfl) (hline : (apos.endLine == pos.line) = true := by rfl) :
    EV TL X cA Wx (.Call (.Attribute o nm apos) [e] [] pos) Γ h (ra.bind fun x => (rb x).bind fun y => (Res.ofO (rop x y)).bind fun g => .ok (pk x y g)) out (fun _ => h) he :=
  PEimp (pe_m1 slot hty rule po (PEex pa) hst hbase hline) fun σ H Q ⟨R, hE, hH, w⟩ => ⟨R, hE, hH, Res.wp_mono (fun x k u H1 h1 f1 r1 => by
    obtain ⟨z, ez⟩ := hs x
    have k := Res.wp_bind.mp k
    refine ⟨⟨z, by rw [ez] at r1; exact r1.str_eq.1⟩, x, R, hE.fr f1, h1, Res.wp_mono (fun y k v H2 h2 f2 r2 => ?_) (fun _ _ k cls d H' a b c => k cls d H' a (f1.trans b) c) k⟩
    cases eg : rop x y with
    | none => rw [eg] at k; exact False.elim k
    | some g =>
      rw [eg] at k
      have k3 : ∀ v H', HR TL X.K R h H' → Fr R h h H H' → Rep X.K (own R h) H' (out (pk x y g)) v → Q v H' := k
      rw [e1] at k3
      exact hop x y u v H2 Q ⟨R, h2, r1.fr f2, r2, g, eg, fun v' H' a b c => k3 v' H' a ((f1.trans f2).trans b) c⟩) (fun _ _ k => k) (Res.wp_bind.mp w)⟩
def splitG (a b : Str) : Option (List Str) := if (b.length == 0) = false ∧ a.length ≤ 1000000 ∧ (Txt.split a b).all PyData.strOk = true then some (Txt.split a b) else none
theorem reps_strs {K : PySem.W.Frag} {W : Own} {H : Hp} : ∀ {ys : List Str}, ys.all PyData.strOk = true → Reps K W H (ys.map D.str) (ys.map V.str)
  | [], _ => .nil
  | y :: ys, hh => by
    simp only [List.all_cons, Bool.and_eq_true] at hh
    exact .cons (by simp only [Rep]; exact ⟨trivial, hh.1⟩) (reps_strs hh.2)
theorem tm_split (a b : Str) (u v : V) (H : Hp) (Q : VK) (q : rOp TL X.K h (.str a) (.str b) (splitG a b) (fun zs => .lst (zs.map D.str)) u v H Q) : ∃ a b, u = .str a ∧ [v] = [.str b] ∧ (b.length == 0) = false ∧ a.length + 2 ≤ sizeLine ∧ rNewStrs (Txt.split a b) H Q := by
  obtain ⟨R, hR, rx, ry, z, ez, q⟩ := q
  unfold splitG at ez
  split at ez
  · rename_i c
    cases ez
    have z1 : 1000000 + 2 ≤ sizeLine := by decide
    refine ⟨a, b, rx.str_eq.1, by rw [ry.str_eq.1], c.1, by omega, fun p hp => q _ _ (hR.fr0 (upd_keep hp)) (Fr.ext (upd_keep hp)) (Rep.newL hR hp (reps_strs c.2.2))⟩
  · cases ez
end
end TH
set_option Elab.async false
set_option linter.all false
set_option maxRecDepth 100000
set_option maxHeartbeats 2000000
/-! TB61: dict values that may fail; t1 = t2 = e; list += e; sorted as a new cell. -/
namespace TH
open PySem PySem.Spec PyProof.Rows L2
end TH
set_option Elab.async false
set_option linter.all false
set_option maxRecDepth 1000000
set_option maxHeartbeats 4000000
/-! TB62: tuple(d.items()); t1 = t2 = e; list += e; list(range(a, b)), a may fail. -/
namespace PySem
open PySem.W
end PySem
namespace TH
open PySem PySem.Spec PyProof.Rows L2
end TH
set_option Elab.async false
set_option linter.all false
set_option maxRecDepth 100000
set_option maxHeartbeats 2000000
/-! TB63: max(d.values()), min(d.values()). -/
namespace TH
open PySem PySem.Spec PyProof.Rows L2
end TH
set_option Elab.async false
set_option linter.all false
set_option maxRecDepth 100000
set_option maxHeartbeats 2000000
/-! TB64: texts put together, told, cut; `in range`; loops over locked dict cells; dict cells that become values; sorted(.., reverse=True) of what may fail. -/
namespace TH
open PySem PySem.Spec PyProof.Rows L2
end TH
set_option Elab.async false
set_option linter.all false
set_option maxRecDepth 100000
set_option maxHeartbeats 2000000
/-! TB65: a < b <= c, all parts may fail; texts put behind texts. -/
namespace TH
open PySem PySem.Spec PyProof.Rows L2
end TH
set_option Elab.async false
set_option linter.all false
set_option maxRecDepth 100000
set_option maxHeartbeats 2000000
/-! TB66: remove for lists of tuples. -/
namespace TH
open PySem PySem.Spec PyProof.Rows L2
end TH
set_option Elab.async false
set_option linter.all false
set_option maxRecDepth 100000
set_option maxHeartbeats 2000000
/-! TB67: enumerate; the sum of a tuple. -/
namespace TH
open PySem PySem.Spec PyProof.Rows L2
end TH
set_option Elab.async false
set_option linter.all false
set_option maxRecDepth 100000
set_option maxHeartbeats 2000000
/-! TB68: dict displays whose values may fail. -/
namespace TH
open PySem PySem.Spec PyProof.Rows L2
end TH
set_option Elab.async false
set_option linter.all false
set_option maxRecDepth 100000
set_option maxHeartbeats 2000000
/-! TB69: code that is not reached; try around an append; texts in texts, counted, walked by number. -/
namespace TH
open PySem PySem.Spec PyProof.Rows L2
section
variable {TL : List (Addr × Str)} {X : Cx} {cA : CA} {Wx : WX} {E : XK} {Γ : En} {h : SH} {ε α β γ γ' ρ : Type} {he : ε → SH} {o e : Expr} {ss : List Stmt} {oN : β → En × SH → Prop} {oJ : γ → En × SH} {oR : ρ → D × SH → Prop} {apos cpos pos np pos' p tpos : Pos} {i j : Str}
/-- nothing is claimed from here on -/
theorem ss_bad : SS TL X cA E ss Γ h (.bad : Res ε (Fl β γ ρ)) oN oJ oR he := ⟨fun pins s σ H D I ⟨_, _, _, w⟩ => w.elim⟩
end
end TH
set_option Elab.async false
set_option linter.all false
set_option maxRecDepth 100000
set_option maxHeartbeats 2000000
/-! TB70: enumerate(text). -/
namespace TH
open PySem PySem.Spec PyProof.Rows L2
end TH
set_option Elab.async false
set_option linter.all false
set_option maxRecDepth 100000
set_option maxHeartbeats 2000000
/-! TB71: list cells that become values. -/
namespace TH
open PySem PySem.Spec PyProof.Rows L2
end TH
set_option Elab.async false
set_option linter.all false
set_option maxRecDepth 100000
set_option maxHeartbeats 2000000
/-! TB72: dict of a tuple of pairs. -/
namespace TH
open PySem PySem.Spec PyProof.Rows L2
end TH
set_option Elab.async false
set_option linter.all false
set_option maxRecDepth 100000
set_option maxHeartbeats 2000000
/-! TB73: o.f += e of texts. -/
namespace TH
open PySem PySem.Spec PyProof.Rows L2
end TH
set_option Elab.async false
set_option linter.all false
set_option maxRecDepth 100000
set_option maxHeartbeats 2000000
/-! TB74: lists of objects; `is` between objects; a number that is nought or one. -/
namespace TH
open PySem PySem.Spec PyProof.Rows L2
end TH
set_option Elab.async false
set_option linter.all false
set_option maxRecDepth 100000
set_option maxHeartbeats 2000000
/-! TB75: sorted(e, key=lambda x: ..). -/
namespace TH
open PySem PySem.Spec PyProof.Rows L2
end TH
set_option Elab.async false
set_option linter.all false
set_option maxRecDepth 100000
set_option maxHeartbeats 2000000
/-! TB76: enumerate(tuple). -/
namespace TH
open PySem PySem.Spec PyProof.Rows L2
end TH
set_option Elab.async false
set_option linter.all false
set_option maxRecDepth 100000
set_option maxHeartbeats 2000000
/-! TB77: an object's cell that becomes a value. -/
namespace TH
open PySem PySem.Spec PyProof.Rows L2
end TH
set_option Elab.async false
set_option linter.all false
set_option maxRecDepth 100000
set_option maxHeartbeats 2000000
/-! TB78: tuple(list) as a new cell that is known to have no dict; its index. -/
namespace TH
open PySem PySem.Spec PyProof.Rows L2
end TH
set_option Elab.async false
set_option linter.all false
set_option maxRecDepth 100000
set_option maxHeartbeats 2000000
/-! TB79: dicts whose keys are tuples (printed by tbt.py from the rules for plain keys, but for what differs). -/
namespace TH
open PySem PySem.Spec PyProof.Rows L2
abbrev kDs (ks : List Key) : D := .tupH (ks.map kD)
def KsOk (ks : List Key) : Prop := ∀ k ∈ ks, keyOk k = true
theorem kmap_inj : ∀ {a b : List Key}, a.map kD = b.map kD → a = b
  | [], [], _ => rfl
  | [], _ :: _, h => by simp at h
  | _ :: _, [], h => by simp at h
  | a :: as, b :: bs, h => by
    simp only [List.map_cons, List.cons.injEq] at h
    rw [kD_inj h.1, kmap_inj h.2]
theorem kDs_inj {a b : List Key} (h : kDs a = kDs b) : a = b := kmap_inj (by injection h)
/-- a type of tuple keys -/
structure TyH {κ : Type} (g : κ → D) where
  key : κ → List Key
  is : ∀ k, g k = kDs (key k)
  inj : ∀ a b, key a = key b → a = b
theorem DK.sw {H : Hp} {p : Addr} {ks : List D} {xs : List V} (h : DK H p true ks xs) :
    (∃ kv : List (List Key × V), Rd H p (.dT kv) ∧ true = true ∧ ks = kv.map (fun q => kDs q.1) ∧ (∀ q ∈ kv, KsOk q.1) ∧ xs = kv.map (·.2)) ∨ (∃ kv : List (Key × V), Rd H p (.dK kv) ∧ true = false ∧ True ∧ True ∧ True) := by
  rcases h with ⟨kv, rd, z, _⟩ | ⟨kv, rd, _, e, k, x⟩
  · cases z
  · exact .inl ⟨kv, rd, rfl, e, k, x⟩
/-- a tuple is never owned -/
theorem HR.free {TL : List (Addr × Str)} {K : PySem.W.Frag} {R : Own} {h : SH} {H : Hp} {q : Addr} {xs : List V} (hr : HR TL K R h H) (e : H q = some (.tup xs)) : ¬ own R h q := by
  rintro (z | z)
  · obtain ⟨o, eo, n⟩ := (hr.ap q z).1
    rw [e] at eo
    cases eo
    exact n.2.1 _ rfl
  · obtain ⟨c, hc, ec⟩ := List.mem_map.mp z
    obtain ⟨o, eo, n⟩ := (hr.at_ c hc).thereU
    rw [ec, e] at eo
    cases eo
    exact n.2.1 _ rfl
namespace T
section
variable {K : PySem.W.Frag} {W : Own} {H : Hp} {κ α : Type} [DecidableEq κ] {g : κ → D} {f : α → D}
theorem dk_keys (T : TyH g) : ∀ {ps : List (κ × α)} {kv : List (List Key × V)}, ps.map (fun q => g q.1) = kv.map (fun q => kDs q.1) → kv.map (·.1) = ps.map fun q => T.key q.1
  | [], [], _ => rfl
  | [], _ :: _, h => by simp at h
  | _ :: _, [], h => by simp at h
  | p :: ps, q :: kv, h => by
    simp only [List.map_cons, List.cons.injEq] at h ⊢
    rw [T.is] at h
    exact ⟨(kDs_inj h.1).symm, dk_keys T h.2⟩
theorem Rep.dic_at {ps : List (κ × α)} {x : V} (T : TyH g) (r : Rep K W H (.dic true (ps.map fun q => g q.1) (ps.map fun q => f q.2)) x) :
    ∃ p kv, x = .ref p ∧ ¬ W p ∧ Rd H p (.dT kv) ∧ kv.map (·.1) = (ps.map fun q => T.key q.1) ∧ Reps K W H (ps.map fun q => f q.2) (kv.map (·.2)) ∧ ∀ q ∈ kv, KsOk q.1 := by
  simp only [Rep] at r
  obtain ⟨p, xs, e, nw, d, rs⟩ := r
  rcases DK.sw d with ⟨kv, rd, _, ek, ko, ex⟩ | ⟨kv, rd, z, _⟩
  · subst ex
    exact ⟨p, kv, e, nw, rd, dk_keys T ek, rs, ko⟩
  · cases z
theorem dk_of_map (T : TyH g) {ps : List (κ × α)} {kv : List (List Key × V)} (e : kv.map (·.1) = (ps.map fun q => T.key q.1)) : (ps.map fun q => g q.1) = kv.map (fun q => kDs q.1) := by
  have : (ps.map fun q => g q.1) = (ps.map fun q => T.key q.1).map kDs := by
    rw [List.map_map]
    exact List.map_congr_left fun q _ => T.is q.1
  rw [this, ← e, List.map_map] <;> rfl
end
section
variable {TL : List (Addr × Str)} {K : PySem.W.Frag} {R : Own} {h : SH} {H : Hp} {κ α : Type} [DecidableEq κ] {g : κ → D} {f : α → D} {ps : List (κ × α)} {d : D} {x : V}
theorem HR.newD {p : Addr} {kv : List (List Key × V)} {ps : List (κ × α)} (T : TyH g) (hr : HR TL K R h H) (hp : H p = none) (e : kv.map (·.1) = (ps.map fun q => T.key q.1)) (r : Reps K (own R h) H (ps.map fun q => f q.2) (kv.map (·.2))) (ko : ∀ q ∈ kv, KsOk q.1) :
    HR TL K R (h ++ [(p, .dic none true (ps.map fun q => g q.1) (ps.map fun q => f q.2))]) (upd H p (.dT kv)) ∧ Fr R h (h ++ [(p, .dic none true (ps.map fun q => g q.1) (ps.map fun q => f q.2))]) H (upd H p (.dT kv)) := by
  refine hr.new hp ⟨kv.map (·.2), .inr ⟨kv, .inl upd_same, rfl, dk_of_map T e, ko, rfl⟩, ?_, fun ob u z => ?_⟩ (fun ps z => by cases z)
  · exact Reps.keep (fun q o n e nt => ⟨fun z => z.elim (fun z => n (.inl z)) fun z => (dom_app.mp z).elim (fun z => n (.inr z)) fun z => ne_of_none e hp (by simpa [dom] using z), o, upd_keep hp q o e, Sim.refl o⟩) _ _ r
  · rw [upd_same] at z; cases z
/-- a dict: a value, or a cell -/
def IsDk (h : SH) (d : D) (ks vs : List D) : Prop := d = .dic true ks vs ∨ ∃ a lk, d = .ref a ∧ (a, O.dic lk true ks vs) ∈ h
theorem IsDk.val {h : SH} {ks vs : List D} : IsDk h (.dic true ks vs) ks vs := .inl rfl
theorem IsDk.cell {h : SH} {ks vs : List D} {a : Addr} {lk : Option HO} (m : (a, O.dic lk true ks vs) ∈ h) : IsDk h (.ref a) ks vs := .inr ⟨a, lk, rfl, m⟩
theorem IsDk.at_ (i : IsDk h d (ps.map fun q => g q.1) (ps.map fun q => f q.2)) (T : TyH g) (hr : HR TL K R h H) (r : Rep K (own R h) H d x) :
    ∃ p kv, x = .ref p ∧ Rd H p (.dT kv) ∧ kv.map (·.1) = (ps.map fun q => T.key q.1) ∧ Reps K (own R h) H (ps.map fun q => f q.2) (kv.map (·.2)) ∧ ∀ q ∈ kv, KsOk q.1 := by
  rcases i with rfl | ⟨a, lk, rfl, m⟩
  · obtain ⟨p, kv, e, _, rd, ek, rs, ko⟩ := Rep.dic_at T r
    exact ⟨p, kv, e, rd, ek, rs, ko⟩
  · have hv : x = .ref a := by simpa only [Rep] using r
    subst hv
    have key : ∀ xs, DK H a true (ps.map fun q => g q.1) xs → Reps K (own R h) H (ps.map fun q => f q.2) xs → ∃ p kv, V.ref a = .ref p ∧ Rd H p (.dT kv) ∧ kv.map (·.1) = (ps.map fun q => T.key q.1) ∧ Reps K (own R h) H (ps.map fun q => f q.2) (kv.map (·.2)) ∧ ∀ q ∈ kv, KsOk q.1 := fun xs dk rs => by
      rcases DK.sw dk with ⟨kv, rd, _, ek, ko, ex⟩ | ⟨kv, rd, z, _⟩
      · subst ex
        exact ⟨a, kv, rfl, rd, dk_keys T ek, rs, ko⟩
      · cases z
    cases lk with
    | none => obtain ⟨xs, dk, rs, _⟩ := hr.at_ _ m; exact key xs dk rs
    | some u => obtain ⟨xs, dk, rs, _⟩ := hr.at_ _ m; exact key xs dk rs
end
end T
end TH
set_option Elab.async false
set_option linter.all false
set_option maxRecDepth 100000
set_option maxHeartbeats 2000000
/-! TB80: dicts whose keys are tuples: made of pairs, deleted from, walked, locked. -/
namespace TH
open PySem PySem.Spec PyProof.Rows L2
end TH
set_option Elab.async false
set_option linter.all false
set_option maxRecDepth 100000
set_option maxHeartbeats 2000000
/-! TB81: tuples that are known to stand in the heap: made, weakened, unpacked; their types. -/
namespace TH
open PySem PySem.Spec PyProof.Rows L2
/-- what is d is d' too -/
def Wk (d d' : D) : Prop := ∀ {K : PySem.W.Frag} {W : Own} {H : Hp} {v : V}, Rep K W H d v → Rep K W H d' v
def Wks (ds ds' : List D) : Prop := ∀ {K : PySem.W.Frag} {W : Own} {H : Hp} {vs : List V}, Reps K W H ds vs → Reps K W H ds' vs
theorem wk_H {ds ds' : List D} (a : Wks ds ds') : Wk (.tupH ds) (.tup ds') := fun r => by
  simp only [Rep] at r ⊢
  obtain ⟨p, xs, e, q, rs⟩ := r
  exact ⟨p, xs, e, .inl q, a rs⟩
section
variable {TL : List (Addr × Str)} {X : Cx} {cA : CA} {Wx : WX} {Γ : En} {h : SH} {ε β : Type} {he : ε → SH} {e : Expr} {es : List Expr} {d d' : D} {ds : List D} {pos : Pos} {vs : List Nat}
theorem Rep.newTH {K : PySem.W.Frag} {R : Own} {H : Hp} {ds : List D} {xs : List V} {p : Addr} (hr : HR TL K R h H) (hp : H p = none) (r : Reps K (own R h) H ds xs) : Rep K (own R h) (upd H p (.tup xs)) (.tupH ds) (.ref p) := by
  simp only [Rep]
  exact ⟨p, xs, rfl, ⟨hr.notown hp, upd_same⟩, r.fr (Fr.ext (upd_keep hp))⟩
theorem ep_tupH {k} (p : EAP TL X es Γ h ds) (hl : Nat.ble ds.length 1000 = true := by rfl) : EP TL X (.Tuple es k pos) Γ h (.tupH ds) :=
  PEimp (pe_tup p) fun σ H Q ⟨R, hE, hH, w⟩ => ⟨R, hE, hH, fun vs H1 h1 f1 r1 => ⟨by rw [← r1.length]; exact smol hl, fun p hp => w _ _ (h1.fr0 (upd_keep hp)) (f1.trans (Fr.ext (upd_keep hp))) (Rep.newTH h1 hp r1)⟩⟩
theorem egw_wk {Γ' : En} (p : EGW vs TL X e Γ h d' Γ') (w : Wk d d') : EGW vs TL X e Γ h d Γ' := PGimp p fun v σ H Q ⟨R, hE, hH, r, k⟩ => ⟨R, hE, hH, w r, k⟩
end
section
variable {α β : Type} {f : α → D} {g : β → D} {n m : Nat}
theorem wk_2 : ∀ x : α × β, Wk (D.tupH [f x.1, g x.2]) (D.tup [f x.1, g x.2]) := fun x => wk_H fun r => r
theorem tye_2H [DecidableEq α] [DecidableEq β] (T : TyE f n) (U : TyE g m) : TyE (fun p : α × β => D.tupH [f p.1, g p.2]) (max n m + 1) :=
  ⟨fun x => by simp [isPy, isPys, T.is, U.is], fun x => by have := T.dp x.1; have := U.dp x.2; simp only [py, pys, PyData.depth, PyData.depthAll]; omega,
   fun x y => by simp only [py, pys, PyData.eqv, PyData.eqvAll, T.eq, U.eq]; rw [Bool.and_true, ← Bool.decide_and]; simp [Prod.ext_iff]⟩
end
end TH
set_option Elab.async false
set_option linter.all false
set_option maxRecDepth 100000
set_option maxHeartbeats 2000000
/-! TB82: dicts keyed by tuples: sorted keys, lists of values and items, sorted items. -/
namespace TH
open PySem PySem.Spec PyProof.Rows L2
end TH
set_option Elab.async false
set_option linter.all false
set_option maxRecDepth 100000
set_option maxHeartbeats 2000000
/-! TB83: dicts keyed by tuples: their items. -/
namespace TH
open PySem PySem.Spec PyProof.Rows L2
end TH
set_option Elab.async false
set_option linter.all false
set_option maxRecDepth 100000
set_option maxHeartbeats 2000000
/-! TB84: small things for tuple keys. -/
namespace TH
open PySem PySem.Spec PyProof.Rows L2
theorem u2 {k : Nat} {A : Around} (r : Room k A) : A.units + 2 < cLine := by have := r.un; omega
end TH
set_option Elab.async false
set_option linter.all false
set_option maxRecDepth 20000
/-! TB85: list(e) as a new cell. -/
namespace TH
open PySem PySem.Spec PyProof.Rows L2
end TH
namespace TH
open PySem PySem.Spec PyProof.Rows L2
section
variable {TL : List (Addr × Str)} {X : Cx} {h : SH} {ds : List D}
/-- tuple(t), t a tuple that is a key -/
theorem c_tupleH : C1 X (.type "tuple") (rUn TL X.K h (.tupH ds) (some ()) fun _ => .tupH ds) := C1.of call_tuple_of fun x H Q ⟨R, hR, rx, g, _, q⟩ => by
  obtain ⟨p, xs, rfl, sq, rs⟩ := SqT.of_rep (wk_H (fun r => r) rx)
  exact ⟨p, xs, rfl, .inr ⟨sq, q _ H hR (Fr.refl h H) rx⟩⟩
end
end TH
set_option Elab.async false
set_option linter.all false
set_option maxRecDepth 100000
set_option maxHeartbeats 2000000
/-! TB86: index on a module constant. -/
namespace TH
open PySem PySem.Spec PyProof.Rows L2
end TH
set_option Elab.async false
set_option linter.all false
set_option maxRecDepth 100000
set_option maxHeartbeats 2000000
/-! TB87: zip of two lists. -/
namespace TH
open PySem PySem.Spec PyProof.Rows L2
section
variable {TL : List (Addr × Str)} {X : Cx} {cA : CA} {Wx : WX} {Γ : En} {h : SH} {ε α β : Type} {he : ε → SH} {e e2 : Expr} {f : α → D} {g : β → D} {pos p tpos : Pos} {elts : List Expr} {kk : Nat} {as : List α} {bs : List β}
theorem lst_at {K : PySem.W.Frag} {R R' : Own} {h1 hs : SH} {H1 H : Hp} {q : Addr} {xs : List V} (hR2 : ∀ p, R' p → R p ∨ H1 p = none) (fr : Fr R' h1 hs H1 H) (nw : ¬ own R h1 q) (sq : H1 q = some (.lst xs)) : SqL K H q xs := by
  obtain ⟨_, o', e', s, _⟩ := fr q _ (fun z => nw (.inr z)) sq nt_of
  have eo : o' = .lst xs := by
    rcases s with z | ⟨z, _⟩
    · exact z
    · cases z
  exact .inl (.inl (by rw [e', eo]))
end
end TH
set_option Elab.async false
set_option linter.all false
set_option maxRecDepth 100000
set_option maxHeartbeats 2000000
/-! TB88: reversed of a tuple. -/
namespace TH
open PySem PySem.Spec PyProof.Rows L2
end TH
set_option Elab.async false
set_option linter.all false
set_option maxRecDepth 100000
set_option maxHeartbeats 2000000
/-! TB89: tuple(range(a, b)). -/
namespace TH
open PySem PySem.Spec PyProof.Rows L2
end TH
set_option Elab.async false
set_option linter.all false
set_option maxRecDepth 100000
set_option maxHeartbeats 2000000
/-! TB90: data before data: <. -/
namespace TH
open PySem PySem.Spec PyProof.Rows L2
end TH
set_option Elab.async false
set_option linter.all false
set_option maxRecDepth 100000
set_option maxHeartbeats 2000000
/-! TB91: dict(zip(s, t)) of two tuples. -/
namespace TH
open PySem PySem.Spec PyProof.Rows L2
end TH
set_option Elab.async false
set_option linter.all false
set_option maxRecDepth 100000
set_option maxHeartbeats 2000000
/-! TB92: {k: v} with a key that is a tuple. -/
namespace TH
open PySem PySem.Spec PyProof.Rows L2
end TH
set_option Elab.async false
set_option linter.all false
set_option maxRecDepth 100000
set_option maxHeartbeats 2000000
/-! TB93: a list of lists, each changed in place. -/
namespace TH
open PySem PySem.Spec PyProof.Rows L2
/-- empty parts -/
def e0 (as : List Addr) : SH := as.map fun a => (a, O.lst [])
end TH
set_option Elab.async false
set_option linter.all false
set_option maxRecDepth 100000
set_option maxHeartbeats 2000000
/-! TB94: targets that are places of dicts, several at once; a variable's value read back as a typed one. -/
namespace TH
open PySem PySem.Spec PyProof.Rows L2
end TH
set_option Elab.async false
set_option linter.all false
set_option maxRecDepth 100000
set_option maxHeartbeats 2000000
/-! TB95: a value read back within an expression; `x or []`, x a list or None; is None of any value. -/
namespace TH
open PySem PySem.Spec PyProof.Rows L2
end TH
set_option Elab.async false
set_option linter.all false
set_option maxRecDepth 100000
set_option maxHeartbeats 2000000
/-! TB96: text * int. -/
namespace TH
open PySem PySem.Spec PyProof.Rows L2
def mulS (z : Str) (n : Int) : Option Str := if 0 ≤ n ∧ n ≤ 1000 ∧ z.length ≤ 1000 ∧ PyData.strOk (Txt.mul z n) = true then some (Txt.mul z n) else none
section
variable {TL : List (Addr × Str)} {X : Cx} {h : SH} {z : Str} {n : Int}
theorem mulOk_of (h0 : 0 ≤ n) (h1 : n ≤ 1000) (h2 : z.length ≤ 1000) : MulOk z n := by
  refine ⟨?_, fun h _ => ?_, fun h _ => ?_⟩
  · simp only [Bool.or_eq_false_iff, decide_eq_false_iff_not]
    omega
  · have a : (9223372036854775807 : Int) / 1000 ≤ 9223372036854775807 / n := by
      refine Int.le_ediv_of_mul_le (by omega) ?_
      have : (9223372036854775807 : Int) / 1000 = 9223372036854775 := by decide
      rw [this]
      omega
    have b : (9223372036854775807 : Int) / 1000 = 9223372036854775 := by decide
    have c : ((2 : Int) ^ 63 - 1) = 9223372036854775807 := by decide
    rw [c]
    omega
  · have a : z.length * n.toNat ≤ 1000 * 1000 := Nat.mul_le_mul h2 (by omega)
    unfold Builtin.Str.tooLong
    simp only [decide_eq_false_iff_not]
    have : (1000 * 1000 : Nat) ≤ sizeLine := by decide
    omega
theorem op_mul_str : OpR X (binaryOp .Mult) (fun x y H Q => ∃ i k, x = .str i ∧ y = .int k ∧ MulOk i k ∧ Q (.str (Txt.mul i k)) H) := by
  intro pins s σ H x y v u Q I rx ry h
  obtain ⟨i, k, rfl, rfl, hz, q⟩ := h
  obtain ⟨t, rfl⟩ := rx
  obtain ⟨t', rfl⟩ := ry
  exact SB.mul hz fun t' tk => ⟨.str (Txt.mul i k), H, I.tok _, ⟨_, rfl⟩, q⟩
theorem oi_mulS : OpR X (binaryOp .Mult) (rOp TL X.K h (.str z) (.int n) (mulS z n) fun w => .str w) :=
  OpR.imp op_mul_str fun x y H Q ⟨R, hR, rx, ry, g, eg, q⟩ => by
    unfold mulS at eg
    split at eg
    · rename_i c
      cases eg
      refine ⟨z, n, rx.str_eq.1, ry.int_eq, mulOk_of c.1 c.2.1 c.2.2.1, q _ H hR (Fr.refl h H) ?_⟩
      simp only [Rep]
      exact ⟨trivial, c.2.2.2⟩
    · cases eg
end
end TH
set_option Elab.async false
set_option linter.all false
set_option maxRecDepth 100000
set_option maxHeartbeats 2000000
/-! TB97: generator expressions of two clauses: the turns. -/
namespace TH
open PySem PySem.Spec PyProof.Rows L2 GenW
end TH
set_option Elab.async false
set_option linter.all false
set_option maxRecDepth 100000
set_option maxHeartbeats 2000000
/-! TB98: generator expressions of two clauses: the protocol. -/
namespace TH
open PySem PySem.Spec PyProof.Rows L2 GenW
/-- where it stands: in the outer loop at i; in the inner one -/
inductive G2 where
  | out (i : Nat)
  | inn (i : Nat) (J : It) (fp1 : List Addr) (it1 : Addr) (tn1 : Nat → Heap → Prop) (j : Nat)
def G2.tn (tn0 : Nat → Heap → Prop) : G2 → Heap → Prop
  | .out i, h => tn0 i h
  | .inn i _ _ _ tn1 j, h => tn0 i h ∧ tn1 j h
def G2.fp : G2 → List Addr
  | .out _ => []
  | .inn _ _ fp1 _ _ _ => fp1
def G2.W (W0 : Nat → Nat → Hp → Prop) (W1 : Nat → It → Nat → Nat → Hp → Prop) : G2 → Nat → Hp → Prop
  | .out i, m, H => W0 i m H
  | .inn i J _ _ _ j, m, H => W1 i J j m H
def G2.Nx (N1 : Nat → It → Nat → Nat → V → Hp → Prop) : G2 → Nat → V → Hp → Prop
  | .out _, _, _, _ => False
  | .inn i J _ _ _ j, m, y, H => N1 i J j m y H
section
variable (X : Cx) (A : Around) (s4 : Shared) (H4 : Hp) (env : Env) (fp : List Addr) (tn0 : Nat → Heap → Prop) (a : Addr) (go : Obj) (W0 : Nat → Nat → Hp → Prop) (W1 : Nat → It → Nat → Nat → Hp → Prop) (N1 : Nat → It → Nat → Nat → V → Hp → Prop) (Fi : Hp → Prop) (σ0 : L2.St)
def GxI2 (c : G2) (m : Nat) (H : Hp) (s : Shared) : Prop := Inv (gxCx X A s4 H4 env fp) [(a, go)] σ0 H s ∧ c.tn tn0 s.heap ∧ (∀ b ∈ fp, H b = none) ∧ (∀ b ∈ c.fp, H b = none) ∧ c.W W0 W1 m H
def GxY2 : Protocol := fun n s₀ v s kap => ∃ y H c m, Inv (gxCx X A s4 H4 env fp) [(a, go)] σ0 H s ∧ c.tn tn0 s.heap ∧ (∀ b ∈ fp, H b = none) ∧ (∀ b ∈ c.fp, H b = none) ∧ RelV y v ∧ c.Nx N1 m y H ∧ m ≤ n + 1 ∧
  ∀ m' H' s', m' < m → GxI2 X A s4 H4 env fp tn0 a go W0 W1 σ0 c m' H' s' → kap (.send .none) s'
def GxE2 (s : Shared) : Prop := ∃ H, Inv (gxCx X A s4 H4 env fp) [(a, go)] σ0 H s ∧ Fi H
end
section
variable {X : Cx} {A : Around} {s4 : Shared} {H4 : Hp} {env : Env} {fp : List Addr} {tn0 : Nat → Heap → Prop} {a it : Addr} {go : Obj} {W0 : Nat → Nat → Hp → Prop} {W1 : Nat → It → Nat → Nat → Hp → Prop} {N1 : Nat → It → Nat → Nat → V → Hp → Prop} {Fi : Hp → Prop} {σ0 : L2.St}
  {t0 i0 t1 i1 elt : Expr} {c0 c1 : List Expr} {scope : Scope} {gpos : Pos} {J0 : It} {g0 g1 : TG} {tt0 tt1 : TT} {te : TE} {wi1 : TI} {vs : List Nat}
/-- what a seg of it promises -/
abbrev Sg (X : Cx) (A : Around) (s4 : Shared) (H4 : Hp) (env : Env) (fp : List Addr) (tn0 : Nat → Heap → Prop) (a : Addr) (go : Obj) (W0 : Nat → Nat → Hp → Prop) (W1 : Nat → It → Nat → Nat → Hp → Prop) (N1 : Nat → It → Nat → Nat → V → Hp → Prop) (Fi : Hp → Prop) (σ0 : L2.St) (n : Nat) (s₀ : Shared) (c : Code) (S : Sem Fin) (fs : List Frame) (s : Shared) : Prop :=
  Seg (model X.prog X.w) A (fun n s₀ r s1 => r = .ok .next ∧ GxE2 X A s4 H4 env fp a go Fi σ0 s1) (GxY2 X A s4 H4 env fp tn0 a go W0 W1 N1 σ0) n s₀ c S fs s
end
end TH
set_option Elab.async false
set_option linter.all false
set_option maxRecDepth 100000
set_option maxHeartbeats 2000000
/-! TB99: generator expressions of two clauses handed to any, all. -/
namespace TH
open PySem PySem.Spec PyProof.Rows L2 GenW
end TH
set_option Elab.async false
set_option linter.all false
set_option maxRecDepth 100000
set_option maxHeartbeats 2000000
/-! TB100: generator expressions of several clauses: made. -/
namespace TH
open PySem PySem.Spec PyProof.Rows L2 GenW
end TH
set_option Elab.async false
set_option linter.all false
set_option maxRecDepth 100000
set_option maxHeartbeats 2000000
/-! TB101: any(.. for .. in .. for .. in ..). -/
namespace TH
open PySem PySem.Spec PyProof.Rows L2 GenW
end TH
set_option Elab.async false
set_option linter.all false
set_option maxRecDepth 100000
set_option maxHeartbeats 2000000
/-! TB102: any over two clauses, as an expression. -/
namespace TH
open PySem PySem.Spec PyProof.Rows L2
end TH
set_option Elab.async false
set_option linter.all false
set_option maxRecDepth 100000
set_option maxHeartbeats 2000000
/-! TB103: the lesser, the greater of two texts. -/
namespace TH
open PySem PySem.Spec PyProof.Rows L2
end TH
set_option Elab.async false
set_option linter.all false
set_option maxRecDepth 100000
set_option maxHeartbeats 2000000
/-! TB104: list(a text). -/
namespace TH
open PySem PySem.Spec PyProof.Rows L2
end TH
set_option Elab.async false
set_option linter.all false
set_option maxRecDepth 100000
set_option maxHeartbeats 2000000
/-! TB105: an if-expression as a test. -/
namespace TH
open PySem PySem.Spec PyProof.Rows L2
end TH
set_option Elab.async false
set_option linter.all false
set_option maxRecDepth 100000
set_option maxHeartbeats 2000000
/-! TB106: int of a text; try whose body raises nothing. -/
namespace TH
open PySem PySem.Spec PyProof.Rows L2
end TH
set_option Elab.async false
set_option linter.all false
set_option maxRecDepth 100000
set_option maxHeartbeats 2000000
/-! TB107: names and cells that are not used again are forgotten. -/
namespace TH
open PySem PySem.Spec PyProof.Rows L2
end TH
set_option Elab.async false
set_option linter.all false
set_option maxRecDepth 100000
set_option maxHeartbeats 2000000
/-! TB108: a list comprehension whose elements change cells. -/
namespace TH
open PySem PySem.Spec PyProof.Rows L2
end TH
set_option Elab.async false
set_option linter.all false
set_option maxRecDepth 100000
set_option maxHeartbeats 2000000
/-! TB109: short forms: defs whose mirror is found by the walk itself. -/
namespace TH
open PySem PySem.Spec PyProof.Rows L2
section
variable {TL : List (Addr × Str)} {P : Program} {w : World} {K : PySem.W.Frag} {mg : Str → Option Value} {base : Heap} {cA : CA}
section
variable {X : Cx} {E : XK} {ε β γ ρ α : Type} {ss : List Stmt} {Γ : En} {h : SH} {oN : β → En × SH → Prop} {oJ : γ → En × SH} {oR : ρ → D × SH → Prop} {he : ε → SH}
theorem sn (b : β) {Γ' : En} {h' : SH} (lh : List.Sublist h' h) (eo : oN b (Γ', h') := by rfl) (lg : LeG Γ Γ' := by first | exact LeG.refl _ | repeat (first | exact trivial | refine And.intro rfl ?_)) : SS TL X cA E [] Γ h (.ok (.nx b) : Res ε (Fl β γ ρ)) oN oJ oR he := ss_nil eo lg lh
theorem sc {cc : γ} {Γ' : En} {h' : SH} {pos : Pos} {oN : β → En × SH → Prop} (lh : List.Sublist h' h) (eo : oJ cc = (Γ', h') := by rfl) (lg : LeG Γ Γ' := by repeat (first | exact trivial | refine And.intro rfl ?_)) : SS TL X cA E [.Continue pos] Γ h (.ok (.ct cc) : Res ε (Fl β γ ρ)) oN oJ oR he := ss_one (s1_contL eo lg lh)
end
end
end TH
set_option Elab.async false
set_option linter.all false
set_option maxRecDepth 100000
set_option maxHeartbeats 2000000
/-! TB110: short forms of outcomes where no cell changes. -/
namespace TH
open PySem PySem.Spec PyProof.Rows L2
end TH
set_option Elab.async false
set_option linter.all false
set_option maxRecDepth 100000
set_option maxHeartbeats 2000000
/-! PL1: plain reckoning with results. -/
namespace TH
open PySem PySem.Spec PyProof.Rows L2
/-! ### sorting -/
theorem dle_total {α : Type} (rev : Bool) (k : α → PyData) : PySem.W.TotalLe (PySem.W.dataLe rev k) := PySem.W.sortLe_total _ rev _
theorem sortT_perm {α : Type} (rev : Bool) (f : α → D) (xs : List α) : (sortT rev f xs).Perm xs := List.mergeSort_perm _ _
/-! ### data compared -/
end TH
set_option Elab.async false
set_option linter.all false
set_option maxRecDepth 100000
set_option maxHeartbeats 2000000
/-! PL2: plain reckoning: division, ranges, lists drawn. -/
namespace TH
open PySem PySem.Spec PyProof.Rows L2
end TH
set_option Elab.async false
set_option linter.all false
set_option maxRecDepth 100000
set_option maxHeartbeats 2000000
/-! PL3: plain reckoning: while, products, dicts by lists. -/
namespace TH
open PySem PySem.Spec PyProof.Rows L2
/-! ### dicts whose keys are told apart -/
/-! ### a value among texts -/
end TH
set_option Elab.async false
set_option linter.all false
set_option maxRecDepth 100000
set_option maxHeartbeats 1000000
/-! PL4: more plain reckoning: dicts compared, roots, items of lists. -/
namespace TH
open PySem PySem.Spec PyProof.Rows L2
end TH
set_option Elab.async false
set_option linter.all false
set_option maxRecDepth 100000
/-! PL5: the steps of Res as equations that simp does not take for definitional (the kernel would unfold the guards). -/
namespace TH
open PySem PySem.Spec PyProof.Rows L2
end TH
set_option Elab.async false
set_option linter.all false
set_option maxRecDepth 100000
/-! PL6: loops by places; dicts put. -/
namespace TH
open PySem PySem.Spec PyProof.Rows L2
/-! ### texts in order -/
end TH
set_option Elab.async false
set_option linter.all false
set_option maxRecDepth 100000
/-! PL7: typed data compared; dicts by keys; minima mapped. -/
namespace TH
open PySem PySem.Spec PyProof.Rows L2
end TH
set_option Elab.async false
set_option linter.all false
set_option maxRecDepth 100000
/-! PL8: the order of data; minima. -/
namespace TH
open PySem PySem.Spec PyProof.Rows L2
section
variable {α : Type} {f : α → D} {n m : Nat}
abbrev ltT (f : α → D) (x y : α) : Bool := PySem.W.dataLt (py (f x)) (py (f y))
theorem ltT_irr (x : α) : ltT f x x = false := lex_irrefl _
theorem ltT_trans {x y z : α} (h1 : ltT f x y = true) (h2 : ltT f y z = true) : ltT f x z = true := lex_trans _ _ _ h1 h2
theorem ltT_asym {x y : α} (h1 : ltT f x y = true) : ltT f y x = false := by
  cases h2 : ltT f y x with
  | false => rfl
  | true => have := ltT_trans h1 h2; rw [ltT_irr] at this; cases this
theorem ltT_conn [DecidableEq α] (T : TyO f n) (E : TyE f m) {x y : α} (h1 : ltT f x y = false) (h2 : ltT f y x = false) : x = y := by
  have e := lex_total _ _ h1 h2
  cases q : PyData.eqv (py (f x)) (py (f y)) with
  | true =>
    rw [E.eq] at q
    exact of_decide_eq_true q
  | false =>
    have h := (PySem.W.toks_eqv _ _ (T.al x y)).2 q [] [.inl 0]
    rw [← e, List.append_nil, lex_irrefl] at h
    have h3 : lexLt itemOrd (PySem.W.keyToks (py (f x)) ++ []) (PySem.W.keyToks (py (f x)) ++ [.inl 0]) = true := by
      rw [PySem.W.lex_pre]
      rfl
    rw [List.append_nil] at h3
    rw [h3] at h
    cases h
end
end TH
set_option Elab.async false
set_option linter.all false
set_option maxRecDepth 100000
/-! PL9: sorted lists of any ordered type; sorts of permutations. -/
namespace TH
open PySem PySem.Spec PyProof.Rows L2
section
variable {α : Type} [DecidableEq α] {f : α → D} {n m : Nat}
theorem dle_lt (a b : α) : PySem.W.dataLe false (fun x : α => py (f x)) a b = !ltT f b a := by
  rw [PySem.W.dataLe_eq]
  rfl
theorem sort_pw (S : List α) : (sortT false f S).Pairwise fun a b => ltT f b a = false := by
  have h : (sortT false f S).Pairwise fun a b => PySem.W.dataLe false (fun x : α => py (f x)) a b = true := PySem.W.sort_pairwise (dle_total false fun x : α => py (f x)) S
  exact h.imp fun {a b} h => by
    rw [dle_lt] at h
    simpa using h
/-- a sorted list is what any permutation is sorted to -/
theorem sort_is (T : TyO f n) (E : TyE f m) {L S : List α} (h : L.Pairwise fun a b => ltT f b a = false) (hp : S.Perm L) : sortT false f S = L := by
  have h1 : (sortT false f S).Perm L := (sortT_perm false f S).trans hp
  exact List.Perm.eq_of_pairwise (le := fun a b => ltT f b a = false) (fun a b ha hb p q => ltT_conn T E q p) (sort_pw S) h h1
end
end TH
set_option Elab.async false
set_option linter.all false
set_option maxRecDepth 100000
set_option maxHeartbeats 2000000
/-! TB111: sorts as insertion (they reduce). -/
namespace TH
open PySem PySem.Spec PyProof.Rows L2
section
variable {α : Type} [DecidableEq α] {f : α → D} {n m : Nat}
def insT (f : α → D) (x : α) : List α → List α
  | [] => [x]
  | y :: ys => if ltT f y x = true then y :: insT f x ys else x :: y :: ys
def isortT (f : α → D) : List α → List α
  | [] => []
  | x :: xs => insT f x (isortT f xs)
theorem insT_perm (x : α) : ∀ ys : List α, (insT f x ys).Perm (x :: ys)
  | [] => List.Perm.refl _
  | y :: ys => by
    unfold insT
    split
    · exact ((insT_perm x ys).cons y).trans (List.Perm.swap x y ys)
    · exact List.Perm.refl _
theorem insT_pw (x : α) : ∀ ys : List α, (ys.Pairwise fun a b => ltT f b a = false) → (insT f x ys).Pairwise fun a b => ltT f b a = false
  | [], _ => List.pairwise_singleton _ _
  | y :: ys, h => by
    obtain ⟨h1, h2⟩ := List.pairwise_cons.mp h
    unfold insT
    split
    · rename_i c
      refine List.pairwise_cons.mpr ⟨fun z hz => ?_, insT_pw x ys h2⟩
      rcases List.mem_cons.mp ((insT_perm x ys).mem_iff.mp hz) with e | e
      · rw [e]; exact ltT_asym c
      · exact h1 z e
    · rename_i c
      have c : ltT f y x = false := by simpa using c
      refine List.pairwise_cons.mpr ⟨fun z hz => ?_, h⟩
      rcases List.mem_cons.mp hz with e | e
      · rw [e]; exact c
      · cases hc : ltT f z x with
        | false => rfl
        | true => exact (lex_negTrans _ (PySem.W.keyToks (py (f y))) _ hc).elim (fun e2 => absurd e2 (by rw [show PyProof.Rows.lexLt _ _ _ = false from h1 z e]; exact Bool.false_ne_true)) fun e2 => absurd e2 (by rw [show PyProof.Rows.lexLt _ _ _ = false from c]; exact Bool.false_ne_true)
theorem isortT_perm : ∀ xs : List α, (isortT f xs).Perm xs
  | [] => List.Perm.refl _
  | x :: xs => (insT_perm x _).trans ((isortT_perm xs).cons x)
theorem isortT_pw : ∀ xs : List α, (isortT f xs).Pairwise fun a b => ltT f b a = false
  | [] => List.Pairwise.nil
  | x :: xs => insT_pw x _ (isortT_pw xs)
theorem isort_eq (T : TyO f n) (E : TyE f m) (S : List α) : sortT false f S = isortT f S := sort_is T E (isortT_pw S) (isortT_perm S).symm
end
section
variable {TL : List (Addr × Str)} {X : Cx} {cA : CA} {Wx : WX} {Γ : En} {h : SH} {α β κ ε : Type} [DecidableEq α] [DecidableEq κ] {f : α → D} {g : κ → D} {n m : Nat} {da : D} {he : ε → SH} {e : Expr} {pos p apos cpos kpos kpos2 : Pos}
theorem c_sortedDkI {ps : List (κ × α)} (T : TyK g) (S : TyS g n) (E : TyE g m) (hc : X.calm = true) (is : IsDk h da (ps.map fun q => g q.1) (ps.map fun q => f q.2)) (hu : X.A.units + 70 < cLine) (hn60 : n ≤ 60 := by decide) : C1 X (.builtin "sorted") (rUn TL X.K h da (some ()) fun _ => .lst ((isortT g (ps.map (·.1))).map g)) := by
  rw [← isort_eq S.toTyO E]
  exact c_sortedDk T S hc is hu hn60
end
end TH
set_option Elab.async false
set_option linter.all false
set_option maxRecDepth 100000
set_option maxHeartbeats 2000000
/-! TB112: a block in parts; the parts' outcomes by reckoning. -/
namespace TH
open PySem PySem.Spec PyProof.Rows L2
/-! ### outcomes reckoned -/
section
variable {ε β : Type}
def allN : Nat → (Nat → Bool) → Bool
  | 0, _ => true
  | n + 1, f => f n && allN n f
theorem allN_ok {f : Nat → Bool} : ∀ {n : Nat}, allN n f = true → ∀ i, i < n → f i = true
  | n + 1, h, i, hi => by
    unfold allN at h
    rw [Bool.and_eq_true] at h
    by_cases e : i = n
    · rw [e]; exact h.1
    · exact allN_ok h.2 i (by omega)
/-- all draws, any addresses: the outcome is told by p -/
noncomputable def chk (p : β → Bool) (r : Res ε β) : (Nat → Nat) → Bool :=
  Res.rec (motive := fun _ => (Nat → Nat) → Bool) (fun b _ => p b) (fun _ _ _ => false) (fun _ => false) (fun n _ ih e => allN n fun i => ih i e) (fun _ ih e => ih (e 0) fun j => e (j + 1)) r
theorem chk_ok {p : β → Bool} : ∀ {r : Res ε β}, (∀ e, chk p r e = true) → r.wp (fun b => p b = true) (fun _ _ => False)
  | .ok b, h => h fun _ => 0
  | .err _ _, h => Bool.false_ne_true (h fun _ => 0)
  | .bad, h => Bool.false_ne_true (h fun _ => 0)
  | .pick n k, h => fun i hi => chk_ok (r := k i) fun e => allN_ok (f := fun i => chk p (k i) e) (h e) i hi
  | .any k, h => fun i => chk_ok (r := k i) fun e => h fun j => match j with | 0 => i | j + 1 => e j
/-- a part falls through -/
def isNx {γ ρ : Type} : Fl Unit γ ρ → Bool
  | .nx _ => true
  | _ => false
end
end TH
set_option Elab.async false
set_option linter.all false
set_option maxRecDepth 100000
set_option maxHeartbeats 2000000
/-! TB113: raise C(n), C's own __init__: super().__init__(a text), self.row = n. -/
namespace TH
open PySem PySem.Spec PySem.Calls PyProof.Rows PySem.W
abbrev btBody (p0 p1 p2 p3 p4 p5 q0 q1 q2 q3 : Pos) (j : Nat) (tx : Str) : List Stmt :=
  [.Expr (.Call (.Attribute (.Call (.Name "super" p0) [] [] p1) "__init__" p2) [.Constant (.str tx) j p3] [] p4) p5,
   .Assign [.Attribute (.Name "self" q0) "row" q1] (.Name "row" q2) q3]
/-- the def __init__ of such a class, closed over __class__ -/
structure BtF (P : Program) (K : Frag) (C : Addr) (fI : Addr) (params : Arguments) (body : List Stmt) (scope : Scope) : Prop where
  ini : findIn K (.ref C) "__init__" = some (some (.ref fI))
  typ : typeIn K (.ref fI) = some (.type "function")
  fd : ∃ (oc : Value) (od : Option Addr) (osl : Array (Option Value)) (name qual : Str) (doc pm ct : Value) (an : Option Addr) (cda cc : Addr), K.lookup fI = some ⟨oc, od, .func (ksFn name qual params body scope .none .none doc pm an (.ref cda) ct cc), osl⟩ ∧ codeIn K (.ref cda) qual = true ∧
    (∃ ccl cdd vs ccs file tf, K.lookup cda = some ⟨ccl, cdd, .fields vs, ccs⟩ ∧ vs[2]? = some (.str file tf) ∧ ((P.main.file : Str) == file) = true) ∧ (∃ cl cld csl, K.lookup cc = some ⟨cl, cld, .cell (some (.ref C)), csl⟩)
  bind : ∀ (s : Shared) (name qual : Str) (doc pm ct cdv : Value) (an : Option Addr) (cc : Addr) (e n : Value), BindsTo s (ksFn name qual params body scope .none .none doc pm an cdv ct cc) ⟨[e, n], []⟩ [("self", e), ("row", n)]
  ar : ∃ ar : Arg, (params.posonlyargs ++ params.args).head? = some ar ∧ ar.arg = ("self" : Str)
  body : ∃ p0 p1 p2 p3 p4 p5 q0 q1 q2 q3 j tx, body = btBody p0 p1 p2 p3 p4 p5 q0 q1 q2 q3 j tx ∧ ∀ (qual : Str) (L f : Addr) (cdv : Value) (cc : Addr), ∃ pl : Sem Bool, eval (.Call (.Attribute (.Call (.Name "super" p0) [] [] p1) "__init__" p2) [.Constant (.str tx) j p3] [] p4) (ksEnv qual scope L f cdv cc) = (do
    let ov ← attributeBase (.Call (.Name "super" p0) [] [] p1) "__init__" (ksEnv qual scope L f cdv cc) (eval (.Call (.Name "super" p0) [] [] p1) (ksEnv qual scope L f cdv cc))
    standAt p2.atName
    let (f', first) ← holding [ov] (getMethod ov "__init__" pl)
    callWith p4 f' first (backTo p4 (starEach [.Constant (.str tx) j p3] (ksEnv qual scope L f cdv cc))) [])
  inter : ∀ (qual : Str) (L f : Addr) (cdv : Value) (cc : Addr), interactive (ksEnv qual scope L f cdv cc) = false
  kind : scope.kind = .function
  co : scope.isCoroutine = false
  gen : scope.isGenerator = false
  nocell : ∀ x ∈ scope.names, x.2 ≠ .cell
  sup : scope.names.lookup ("super" : Str) = some .globalImplicit
  cls : scope.names.lookup ("__class__" : Str) = some .free
  self_ : scope.names.lookup ("self" : Str) = some .local
  row : scope.names.lookup ("row" : Str) = some .local
/-- what the written part says of the class -/
structure BtC (P : Program) (K : Frag) (C : Addr) : Prop where
  oex : L2.OexC K C
  nr : findIn K (.ref C) "row" = some none
  ei : excInitIn K C [.type "ValueError", .type "Exception", .type "BaseException", .type "object"] "ValueError.__new__" = true
  sup : ks_superIn K C C "__init__" = some (some (.builtin "ValueError.__init__"))
  ve : subIn K (.ref C) (.type "ValueError") = some true
  me : mroIn K C (.ref C) = some true
  tp : nsIn K cStatics "thirdparty.any" = some none
  sp : nsIn K mainGlobals "super" = some none
  top : (P.main.scope.names.lookup ("super" : Str)).isSome = false
theorem bt_ld {M : Model} {A : Around} {E : Value → Shared → Prop} {s : Shared} {env : Env} {m : Str → Option Value} {x : Str} {pos : Pos} {v : Value} {Q : Value → Shared → Prop} (hn : s.heap.Ns env.locals m) (hv : m x = some v) (h : Q v s)
    (hk : env.scope.kind = .function) (hl : env.kindOf x = some .local) (hd : (x == ("__debug__" : Str)) = false := by decide) : wpAny M A (eval (.Name x pos) env) Q E s := wpAny_Name (wpAny_loadName_local hk hl hn hv h) hd
section
variable {prog : Program} {w : World} {A : Around} {K : Frag} {C fI e t0 : Addr} {mg : Str → Option Value} {hp : Heap} {g : Array GenState} {d : Drawn} {t : Nat} {os : OsState} {R : Result → Shared → Prop} {n : Value} {params : Arguments} {body : List Stmt} {scope : Scope}
theorem bt_init (B : BtC prog K C) (F : BtF prog K C fI params body scope) (X : K.In hp) (G : hp.Ns mainGlobals mg) (hb : ∃ mb, hp.Ns builtinsNs mb ∧ ∀ x : Str, x ≠ "__name__" → mb x = bootBuiltins x) (lim : hp.NoLimit) (hroom : A.depth < recursionLimit)
    (he : hp.get? e = some (HandSPX.excO C t0)) (hKe : K.lookup e = none)
    (q : ∀ h' t' t1 dx, (∀ b o, b ≠ e → hp.get? b = some o → h'.get? b = some o) → hp.objs.size ≤ dx → dx ≠ e → h'.get? e = some { cls := .ref C, dict := some dx, data := .fields #[.ref t1, .none, .none, .none, .bool false, .none] } →
      h'.Ns1 dx (fun y => if y = "row" then some n else none) → R (.ok (.ret .none)) ⟨h', g, d, t', os⟩) :
    codeAny (model prog w) A (.call (.ref fI) ⟨[.ref e, n], []⟩) R ⟨hp, g, d, t, os⟩ := by
  obtain ⟨oc, od, osl, name, qual, doc, pm, ct, an, cda, cc, lk, hcd, ⟨ccl, cdd, vs, ccs, file, tf, lkc, hvs, hfile⟩, cl, cld, csl, lkcell⟩ := F.fd
  obtain ⟨p0, p1, p2, p3, p4, p5, q0, q1, q2, q3, j, tx, eb, hev⟩ := F.body
  obtain ⟨pl, hev⟩ := hev qual hp.objs.size fI (.ref cda) cc
  obtain ⟨ar, har, ea⟩ := F.ar
  obtain ⟨mb, hmb, hbb⟩ := hb
  have hbind := F.bind ⟨hp, g, d, t, os⟩ name qual doc pm ct (.ref cda) an cc (.ref e) n
  subst eb
  refine ks_codeAny_call_defAt (fd := ksFn name qual params (btBody p0 p1 p2 p3 p4 p5 q0 q1 q2 q3 j tx) scope .none .none doc pm an (.ref cda) ct cc) (body := btBody p0 p1 p2 p3 p4 p5 q0 q1 q2 q3 j tx) (binds := [("self", .ref e), ("row", n)]) hroom (X _ _ lk) rfl lim (codeRec_of X hcd) rfl hbind F.nocell ?_ (fun h1 hns hk1 => ?_) F.co F.gen F.kind
  · intro y hy
    rcases List.mem_cons.mp hy with z | hy
    · subst z; exact F.self_
    · rcases List.mem_cons.mp hy with z | hy
      · subst z; exact F.row
      · cases hy
  have X0 : K.In (hideAll hp [e]) := fun b o z => hideAll_get _ (X b o z) (fun zz => by
    rcases List.mem_cons.mp zz with z2 | z2
    · subst z2; rw [hKe] at z; cases z
    · cases z2)
  have hk1 : ∀ b o, hp.get? b = some o → h1.get? b = some o := hk1
  have hns : h1.Ns hp.objs.size fun x => ([("self", .ref e), ("row", n)] : List (Str × Value)).reverse.lookup x := hns
  have F1 : PyProof.Rows.Fr (hideAll hp [e]) hp.objs.size h1 (fun x => ([("self", .ref e), ("row", n)] : List (Str × Value)).reverse.lookup x) := ⟨hns, fun b o z => hk1 b o (of_hideAll _ z), Nat.le_of_eq (hideAll_size _ _)⟩
  have N1 : News (hideAll hp [e]) hp.objs.size h1 [(e, excObj C t0 none .none)] := fun p hp' => by
    rcases List.mem_cons.mp hp' with z | z
    · subst z
      exact ⟨hk1 _ _ he, Nat.ne_of_lt (Heap.lt_size he), hideAll_none _ (List.mem_cons_self)⟩
    · cases z
  have hself : (fun x => ([("self", Value.ref e), ("row", n)] : List (Str × Value)).reverse.lookup x) "self" = some (.ref e) := rfl
  have hrow : (fun x => ([("self", Value.ref e), ("row", n)] : List (Str × Value)).reverse.lookup x) "row" = some n := rfl
  show _root_.PySem.wpAt (model prog w) (A.deeper (ksEnv qual scope hp.objs.size fI (.ref cda) cc)) (.func _ (ksEnv qual scope hp.objs.size fI (.ref cda) cc)) (execs _ (ksEnv qual scope hp.objs.size fI (.ref cda) cc)) _ _ _
  refine ks_wpAt_execs_cons (ks_wpAt_Expr_any (ks_wpAt_MethodCall (pl := pl) ?_ hev) (F.inter _ _ _ _ _))
  have X1 : K.In h1 := X0.keeps F1.keep
  obtain ⟨nm, N', qn, bs, bm, hdct, sn, sub, ab, col, dd, k0, k1, k2, k3, k5, hC, hT⟩ := excInit_of X1 B.ei
  refine ks_wpAt_super_base (env := ksEnv qual scope hp.objs.size fI (.ref cda) cc) F.sup F.cls (by decide) rfl (X1 _ _ lk) rfl har rfl (X1 _ _ lkc) rfl hvs hfile B.top ?_
  refine ks_loadName_global F.kind F.sup (loadGlobal_builtin (env := ksEnv qual scope hp.objs.size fI (.ref cda) cc) (G.keeps hk1) (mg_none_of X G B.sp) (hmb.keeps hk1) ((hbb _ (by decide)).trans (by first | rfl | kernel_rfl)) ⟨rfl, ?_⟩)
  refine wpAny_loadName_free F.kind F.cls rfl ⟨_, X1 _ _ lkcell, rfl⟩ ?_
  rw [ea]
  refine wpAny_loadName_local F.kind F.self_ F1.ns hself ?_
  refine ks_wpAny_isType_cls hC rfl ⟨rfl, ?_⟩
  refine ks_wpAny_call_super hC rfl (hk1 _ _ he) rfl (fun c z => by cases z) (looks_mroIn X1 B.me) (fun h2 e2 k2 => ?_)
  obtain ⟨F2, N2, l2⟩ := ks_newsPush (s := ⟨h1, g, d, t, os⟩) F1 N1 rfl e2 k2
  refine kxs_method kxs_ValueError F2 X0 N2 (List.mem_cons_self) (InstAt.of_exc0 N2 (List.mem_cons_of_mem _ List.mem_cons_self)) B.tp B.sup B.ve (by decide) fun u h3 F3 N3 l3 => ?_
  refine kxs_callWith1 N3 List.mem_cons_self ?_
  show wpAny _ _ (spliced ((false, eval (.Constant (.str tx) j p3) (ksEnv qual scope hp.objs.size fI (.ref cda) cc)) :: backTo p4 (starEach [] (ksEnv qual scope hp.objs.size fI (.ref cda) cc)))) _ _ _
  refine Calls.spliced_cons (wpAny_Constant_str ?_)
  refine Calls.spliced_nil ⟨kxs_at N3 List.mem_cons_self, ?_⟩
  have hso : h1.objs.size ≠ e := (Nat.ne_of_lt (l2 (e, excObj C t0 none .none) List.mem_cons_self)).symm
  have hu : u ≠ e := (Nat.ne_of_lt (l3 (e, excObj C t0 none .none) (List.mem_cons_of_mem _ List.mem_cons_self))).symm
  have U : UpdF e (excObj C t0 none .none) ((u, kxs_mw "ValueError.__init__" e) :: (h1.objs.size, ks_superObj C e C) :: [(e, excObj C t0 none .none)]) _ := .tail hu (.tail hso (.head fun p z => by cases z))
  refine kxs_call F3 X0 N3 PySem.F.excBase_ValueError B.ei List.mem_cons_self U (by rw [sizeLine_eq]; show 1 ≤ _; omega) fun t1 h4 F4 N4 l4 => ?_
  refine ks_wpAt_execs_cons (ks_wpAt_Assign_Attr (wpAt_of_wpAny ?_))
  refine bt_ld F4.ns hrow ?_ F.kind F.row
  refine bt_ld F4.ns hself ?_ F.kind F.self_
  obtain ⟨nm, q', N, bs, bm, sn, sub, ab, col, dd, k0, k1, k2, k3, k5, hC, hbm⟩ := B.oex.cls
  have hcl : clsIn K C = some { name := nm, bases := bs, mro := .ref C :: bm, ns := N, qualname := q', hasDict := true, slotNames := sn, subclasses := sub, abstract := ab, collection := col, hasDel := false } := by unfold clsIn; rw [hC] <;> rfl
  have ho : h4.get? e = some (excObj C t1 none .none) := (N4 _ (List.mem_cons_of_mem _ (List.mem_cons_of_mem _ (List.mem_cons_of_mem _ List.mem_cons_self)))).1
  have X4 : K.In h4 := X0.keeps F4.keep
  refine set_plain X4 (ox := excObj C t1 none .none) (od := none) ⟨ho, rfl, rfl, trivial⟩ B.oex.sa ?_
  refine HandSPX.exc_osa X4 ho hcl (show HandSPX.refsVE (.ref C :: bm) = true from hbm) rfl B.nr (fun h' tk' dx k dn dne hx hn => ?_)
  refine wpAt_of_wpAny (wpAny_pure ?_)
  refine q h' tk' t1 dx (fun b o hb ho => k b o hb (F4.keep b o (hideAll_get _ ho (fun z => by
    rcases List.mem_cons.mp z with z2 | z2
    · exact hb z2
    · cases z2)))) (Nat.le_trans (Nat.le_of_lt (F4.ns.lt)) dn) dne hx hn
end
end TH
set_option Elab.async false
set_option linter.all false
set_option maxRecDepth 100000
set_option maxHeartbeats 2000000
/-! TB114: raise C(n), told of the row. -/
namespace TH
open PySem PySem.Spec PyProof.Rows L2
section
variable {X : Cx} {x : Str} {C fI : Addr} {k : Nat} {params : Arguments} {body : List Stmt} {scope : Scope} {e : Expr} {ta : TA} {p pos : Pos}
theorem pmk_bt (B : BtC X.prog X.K C) (F : BtF X.prog X.K C fI params body scope) (hr : Room (k + 1) X.A) (hg : Gl X x) (hm : X.mg x = some (.ref C)) (ha : PA X [e] ta)
    (hdb : (x == ("__debug__" : Str)) = false := by decide) (he : starEach [e] X.env = (false, eval e X.env) :: starEach [] X.env := by rfl) (hpl : (backTo pos (starEach [] X.env)).any (·.1) = false := by rfl) :
    PMk X (.Call (.Name x p) [e] [] pos) (fun σ H Q => ta σ H fun vs H1 => ∃ y, vs = [y] ∧ ∀ d, H1 d = none → Q (.ref C) (some d) (upd H1 d (.xd [(("row" : Str), y)]))) := by
  intro pins s σ H Q I h
  obtain ⟨nm, q, N, bs, bm, sn, sub, ab, col, dd, k0, k1, k2, k3, k5, hC, hbm⟩ := B.oex.cls
  refine wpAny_Call_Name_kw (ld_glob I hg hm ?_ hdb)
  refine PySem.W.callWith_K (h₀ := X.base) I.ok.mod.kin B.oex.kC (thn (ha.run pos pins s σ H _ I h) fun us s1 ⟨vs, H1, I1, r1, y, ey, q1⟩ => ⟨I1.kIn, ?_⟩) he hpl
  subst ey
  obtain ⟨hp, g, dr, tk, os⟩ := s1
  cases r1 with
  | @cons _ u _ _ ry rr =>
  cases rr
  show wpAny _ _ (call (.ref C) [u]) _ _ _
  have hsz : hp.objs.size ≤ hp.objs.size + 1 := Nat.le_succ _
  have hn : H1 (hp.objs.size + 1) = none := I1.hok.fresh hsz
  have grow : ∀ b o, hp.get? b = some o → ((hp.push (PySem.W.kdv_tup [u])).push (PySem.HandSPX.excO C hp.objs.size)).get? b = some o := fun b o z => Heap.get?_push_of_some _ (Heap.get?_push_of_some _ z)
  have made : ((hp.push (PySem.W.kdv_tup [u])).push (PySem.HandSPX.excO C hp.objs.size)).get? (hp.objs.size + 1) = some (PySem.HandSPX.excO C hp.objs.size) := by heap_get
  have I2 : Inv X pins σ (upd H1 (hp.objs.size + 1) (exo (hp.objs.size + 1) C none)) ⟨(hp.push (PySem.W.kdv_tup [u])).push (PySem.HandSPX.excO C hp.objs.size), g, dr, tk, os⟩ :=
    I1.laid (t' := tk) grow hsz (exo_ok made)
  obtain ⟨mb, b1, b2⟩ := I2.ok.mod.blt
  have hKe : X.K.lookup (hp.objs.size + 1) = none := by
    cases z : X.K.lookup (hp.objs.size + 1) with
    | none => rfl
    | some o => exact absurd (Heap.lt_size (I1.kIn _ _ z)) (Nat.not_lt.mpr hsz)
  have hlen : [u].length ≤ sizeLine := by rw [sizeLine_eq]; show 1 ≤ _; omega
  refine wpAny_call (PySem.HandSPX.call_own PySem.F.excBase_ValueError (fun Y => PySem.HandSPX.refsVE_contains Y bm hbm) (I1.kIn _ _ hC) (PySem.W.looks_findIn I1.kIn F.ini) (fun self => PySem.W.bind_fn I1.kIn self F.typ) hlen
    (bt_init B F I2.kIn (I2.ok.mod.glob.keeps I2.bk) ⟨mb, b1.keeps I2.bk, b2⟩ I2.nolimit (hr.make C [u] []).depth made hKe fun h' t' t1 dx kk dn dne hx hns => ?_))
  refine ⟨rfl, ?_⟩
  have big : hp.objs.size ≤ dx := Nat.le_trans (by rw [Heap.size_push, Heap.size_push]; omega) dn
  have hd1 : H1 dx = none := I1.hok.fresh big
  have hd2 : (upd H1 (hp.objs.size + 1) (exo (hp.objs.size + 1) C none)) dx = none := by rw [upd_ne dne]; exact hd1
  have ndx : ∀ {b : Addr} {o : Obj}, ((hp.push (PySem.W.kdv_tup [u])).push (PySem.HandSPX.excO C hp.objs.size)).get? b = some o → b ≠ dx := fun {b o} z => Nat.ne_of_lt (Nat.lt_of_lt_of_le (Heap.lt_size z) dn)
  have ea2 : (upd H1 (hp.objs.size + 1) (exo (hp.objs.size + 1) C none)) (hp.objs.size + 1) = some (exo (hp.objs.size + 1) C none) := upd_same
  have nna : ∀ {b : Addr}, (upd H1 (hp.objs.size + 1) (exo (hp.objs.size + 1) C none)) b = none → b ≠ hp.objs.size + 1 := fun {b} n z => by
    rw [z, upd_same] at n
    cases n
  have un : ∀ fs, Un fs [] (upd H1 (hp.objs.size + 1) (exo (hp.objs.size + 1) C none)) (upd (upd (upd H1 (hp.objs.size + 1) (exo (hp.objs.size + 1) C none)) dx (exd dx [(("row" : Str), y)])) (hp.objs.size + 1) (exo (hp.objs.size + 1) C (some dx)))
      ((hp.push (PySem.W.kdv_tup [u])).push (PySem.HandSPX.excO C hp.objs.size)) h' := fun fs => {
    keep := fun b o z n _ _ => kk b o (nna n) z
    slot := fun b o z n _ _ => ⟨o.slots, kk b o (nna n) z⟩
    free := fun b o z n _ => by rw [upd_ne (nna n), upd_ne (ndx z)]; exact n
    there := fun b o z _ => by
      by_cases hb : b = hp.objs.size + 1
      · exact ⟨_, by rw [hb]; exact hx⟩
      · exact ⟨o, kk b o hb z⟩
    tups := fun b xs z => by rw [upd_ne (at_ne ea2 z exo_tup), upd_ne (ne_of_none z hd2)]; exact z
    frzs := fun b o v z => by rw [upd_ne (at_ne ea2 z exo_frz), upd_ne (ne_of_none z hd2)]; exact z
    tbls := fun b ps z => ⟨#[], by rw [upd_ne (at_ne ea2 z exo_tbl), upd_ne (ne_of_none z hd2), z]; simp⟩ }
  have J := I2.un (h' := h') (t' := t') (un X.fs) fun b o z => by
    by_cases hb : b = hp.objs.size + 1
    · subst hb
      rw [upd_same] at z
      cases z
      exact exo_ok hx
    · rw [upd_ne hb] at z
      by_cases hd : b = dx
      · subst hd
        rw [upd_same] at z
        cases z
        exact exd_ok hns (relO_put (fs := []) ry fun g => True.intro)
      · rw [upd_ne hd] at z
        exact (I2.hok b o z).stay (fun c v hc w => kk c v (by
            rcases hc with hc | hc
            · rw [hc]; exact hb
            · exact at_ne ea2 hc exo_own) w)
          (fun c hc => by rw [upd_ne (at_ne ea2 hc exo_own), upd_ne (ne_of_none hc hd2)]; exact hc) (fun c xs hc => by rw [upd_ne (at_ne ea2 hc exo_tup), upd_ne (ne_of_none hc hd2)]; exact hc)
  refine mk_end (fs := [(("row" : Str), y)]) (H2 := upd (upd (upd H1 (hp.objs.size + 1) (exo (hp.objs.size + 1) C none)) dx (exd dx [(("row" : Str), y)])) (hp.objs.size + 1) (exo (hp.objs.size + 1) C (some dx))) (raises_own B.oex.exC B.oex.tyC) I1 hsz grow (un _) J.hok rfl J.bare upd_same (by rw [upd_ne dne, upd_same]) hd1 ?_
  have eq : upd (del (upd (upd (upd H1 (hp.objs.size + 1) (exo (hp.objs.size + 1) C none)) dx (exd dx [(("row" : Str), y)])) (hp.objs.size + 1) (exo (hp.objs.size + 1) C (some dx))) (hp.objs.size + 1)) dx (.xd [(("row" : Str), y)]) = upd H1 dx (.xd [(("row" : Str), y)]) := by
    funext b
    by_cases hd : b = dx
    · rw [hd, upd_same, upd_same]
    · rw [upd_ne hd, upd_ne hd]
      by_cases ha : b = hp.objs.size + 1
      · rw [ha, del_same, hn]
      · rw [del_ne ha, upd_ne ha, upd_ne hd, upd_ne ha]
  rw [eq]
  exact q1 dx hd1
end
section
variable {TL : List (Addr × Str)} {X : Cx} {cA : CA} {E : XK} {Γ : En} {h : SH} {ε β γ ρ : Type} {oN : β → En × SH → Prop} {oJ : γ → En × SH} {oR : ρ → D × SH → Prop} {he : ε → SH} {x : Str} {k : Nat} {e : Expr} {p apos pos : Pos}
/-- the class whose __init__ keeps the row, as a context knows it -/
structure BtX (X : Cx) (x : Str) (C : Addr) : Prop where
  c : BtC X.prog X.K C
  f : ∃ fI params body scope, BtF X.prog X.K C fI params body scope
  g : X.mg x = some (.ref C)
theorem s1_raiseT {nn : Int} {e0 : ε} (hc : X.calm = true) (tk : Takes X (WK E)) (B : BtX X x (cA (.text nn))) (hr : Room (k + 1) X.A) (pa : EAP TL X [e] Γ h [.int nn]) (hg : Gl X x) (hs : List.Sublist (he e0) h := by exact List.Sublist.refl _) (hdb : (x == ("__debug__" : Str)) = false := by decide)
    (hst : starEach [e] X.env = (false, eval e X.env) :: starEach [] X.env := by rfl) (hpl : (backTo apos (starEach [] X.env)).any (·.1) = false := by rfl) :
    S1 TL X cA E (.Raise (some (.Call (.Name x p) [e] [] apos)) none pos) Γ h (.err (.text nn) e0 : Res ε (Fl β γ ρ)) oN oJ oR he := by
  obtain ⟨Bc, ⟨fI, params, body, scope, Bf⟩, hm⟩ := B
  exact PSimp (ps_raise hc tk (pmk_bt Bc Bf hr hg hm pa hdb hst hpl)) fun Dn σ H ⟨R, hE, hH, w⟩ => ⟨R, hE, hH, fun vs H1 h1 f1 r1 => by
    simp only [Reps] at r1
    obtain ⟨y, t, ev, ry, rt⟩ := r1
    subst rt
    simp only [Rep] at ry
    subst ry
    refine ⟨_, ev, fun d hd => w _ _ _ ((h1.drop hs).fr0 fun p o z => ?_) ((f1.trans (Fr.drop hs)).trans (Fr.ext fun p o z => ?_)) ⟨rfl, d, rfl, upd_same⟩⟩
    · rw [upd_ne (ne_of_none z hd)]; exact z
    · rw [upd_ne (ne_of_none z hd)]; exact z⟩
end
end TH
set_option Elab.async false
set_option linter.all false
set_option maxRecDepth 100000
set_option maxHeartbeats 2000000
/-! TB115: lambdas as values: made, handed to a def, called there. -/
namespace TH
open PySem PySem.Spec PyProof.Rows L2
/-- the object at f: a lambda, its code object at c' -/
def LamO (q : Str) (params : Arguments) (body : Expr) (scope : Scope) (cl : List (Str × Addr)) (f c' : Addr) : HO :=
  .ext fun h => ∃ pm ctv, h.get? f = some (PySem.W.kla_obj "<lambda>" q params body scope cl pm c' ctv)
theorem lamO_ok {P : Program} {w : World} {H : Hp} {h : Heap} {q : Str} {params : Arguments} {body : Expr} {scope : Scope} {cl : List (Str × Addr)} {f c' : Addr} {pm ctv : Value} (e : h.get? f = some (PySem.W.kla_obj "<lambda>" q params body scope cl pm c' ctv)) :
    ObjOk P w H h f (LamO q params body scope cl f c') := ⟨⟨pm, ctv, e⟩, ⟨_, e⟩, fun h1 h2 ⟨a, b, z⟩ st => ⟨a, b, st _ z⟩⟩
theorem lamO_at {P : Program} {w : World} {H : Hp} {h : Heap} {q : Str} {params : Arguments} {body : Expr} {scope : Scope} {cl : List (Str × Addr)} {f c' : Addr} (hok : HOk P w H h) (e : H f = some (LamO q params body scope cl f c')) :
    ∃ pm ctv, h.get? f = some (PySem.W.kla_obj "<lambda>" q params body scope cl pm c' ctv) := by
  have x : ObjOk P w H h f (.ext fun h => ∃ pm ctv, h.get? f = some (PySem.W.kla_obj "<lambda>" q params body scope cl pm c' ctv)) := hok f _ e
  exact x.1
theorem lamO_ne {q : Str} {params : Arguments} {body : Expr} {scope : Scope} {cl : List (Str × Addr)} {f c' : Addr} (ps : Array Value) : LamO q params body scope cl f c' ≠ .tbl ps := fun z => by
  unfold LamO at z
  cases z
section
variable {X : Cx}
theorem pe_lam {T : List (Addr × Str)} {c P : Addr} {params : Arguments} {body : Expr} {scope : Scope} {pos : Pos} (TB : LamX.TabB X.base X.mg c P) (hcode : X.env.code = .ref c) (hm : (P, X.env.qual ++ "<lambda>") ∈ T) (hu : ∀ p ∈ T, p.1 = P → p.2 = X.env.qual ++ "<lambda>")
    (L : LamX.LamS X.env.scope scope) (hdef : defaultsOf params X.env = ([], [])) :
    PE X (.Lambda params body scope pos) (fun σ H Q => LamX.Tabs T H ∧ ∀ (f c' : Addr) (H1 : Hp), LamX.ExtN H H1 → LamX.Tabs T H1 → H f = none → H1 f = some (LamO (X.env.qual ++ "<lambda>") params body scope (cloFrom X.env.cells scope.names []) f c') →
      H1 c' = some (LamX.CodeO c' (X.env.qual ++ "<lambda>")) → Q (.ref f) H1) := by
  refine ⟨fun pins s σ H Q I ⟨hT, hq⟩ => ?_⟩
  obtain ⟨ps, hP, ht, ha⟩ := hT _ hm
  have oP : s.heap.get? P = some { cls := .none, data := .fields ps } := I.hok P _ hP
  have cl := closure_ok (L.has I.ok)
  refine PySem.W.kla_eval hdef ?_
  cases hc : codeAmong pos ps.toList with
  | none =>
    refine PySem.W.kla_makeFunction (mg := X.mg) (c := c) (P := P) (ps := ps) cl I.ok.glob (I.mod.glob.keeps I.bk) hcode (TB.code.keeps I.bk) oP ht hc TB.gP (TB.bm.keeps I.bk) fun c' ctv h' tk hx hge hlt hrec htb => ?_
    obtain ⟨c2, oc, vs, t, e2, o1, o2, o3⟩ := hrec
    cases e2
    have nC : H c' = none := I.hok.fresh hge
    have J := LamX.inv_table (t' := tk) (more := #[rawInt pos.line, rawInt pos.col, .ref c']) (h' := h') I hP hx htb hge ⟨oc, vs, t, o1, o2, o3⟩
    have big : s.heap.objs.size ≤ h'.objs.size := Nat.le_trans hge (Nat.le_of_lt hlt)
    have nF : H h'.objs.size = none := I.hok.fresh big
    have nFC : h'.objs.size ≠ c' := Nat.ne_of_gt hlt
    have nFP : h'.objs.size ≠ P := fun z => by rw [z, hP] at nF; cases nF
    have J2 := J.laid (t' := tk) (a := h'.objs.size) (o := LamO (X.env.qual ++ "<lambda>") params body scope (cloFrom X.env.cells scope.names []) h'.objs.size c') (h' := h'.push (PySem.W.kla_obj "<lambda>" (X.env.qual ++ "<lambda>") params body scope (cloFrom X.env.cells scope.names []) ((X.mg "__name__").getD .none) c' ctv))
      (fun b o e => Heap.get?_push_of_some _ e) (Nat.le_refl _) (lamO_ok (Heap.get?_push_size _ rfl))
    have nPC : P ≠ c' := fun z => by rw [z, nC] at hP; cases hP
    refine ⟨.ref h'.objs.size, _, J2, rfl, hq h'.objs.size c' _ (fun b o e n => ?_) (fun p hp => ?_) nF upd_same ?_⟩
    · rw [upd_ne (fun z => by rw [z, nF] at e; cases e), upd_ne (fun z => by rw [z, nC] at e; cases e), upd_ne (fun z => by rw [z, hP] at e; exact n ps (Option.some.inj e).symm)]
      exact e
    · have eL : (ps ++ #[rawInt pos.line, rawInt pos.col, .ref c']).toList = ps.toList ++ [rawInt pos.line, rawInt pos.col, .ref c'] := by simp
      have keep : ∀ a q, H a = some (LamX.CodeO a q) → (upd (upd (upd H P (.tbl (ps ++ #[rawInt pos.line, rawInt pos.col, .ref c']))) c' (LamX.CodeO c' (X.env.qual ++ "<lambda>"))) h'.objs.size (LamO (X.env.qual ++ "<lambda>") params body scope (cloFrom X.env.cells scope.names []) h'.objs.size c')) a = some (LamX.CodeO a q) := fun a q e => by
        rw [upd_ne (fun z => by rw [z, nF] at e; cases e), upd_ne (fun z => by rw [z, nC] at e; cases e), upd_ne (fun z => by rw [z, hP] at e; exact LamX.codeO_ne ps (Option.some.inj e).symm)]
        exact e
      by_cases hb : p.1 = P
      · rw [hu p hp hb, hb]
        refine ⟨_, by rw [upd_ne nFP.symm, upd_ne nPC, upd_same], by rw [eL]; exact PySem.TriplesOk_snoc _ _ _ _ ht, fun p' cv hcv => ?_⟩
        rw [eL] at hcv
        rcases LamX.among_app _ ht hcv with z | z
        · obtain ⟨c0, e1, e2⟩ := ha p' cv z
          exact ⟨c0, e1, keep _ _ e2⟩
        · exact ⟨c', z, by rw [upd_ne nFC.symm, upd_same]⟩
      · obtain ⟨ps', a1, a2, a3⟩ := hT p hp
        refine ⟨ps', by rw [upd_ne (fun z => by rw [z, nF] at a1; cases a1), upd_ne (fun z => by rw [z, nC] at a1; cases a1), upd_ne hb]; exact a1, a2, fun p' cv hcv => ?_⟩
        obtain ⟨c0, e1, e2⟩ := a3 p' cv hcv
        exact ⟨c0, e1, keep _ _ e2⟩
    · rw [upd_ne nFC.symm, upd_same]
  | some cv =>
    obtain ⟨c', e, hco⟩ := ha pos cv hc
    subst e
    refine PySem.W.kla_makeFunctionHit (mg := X.mg) (c := c) (P := P) (ps := ps) cl I.ok.glob (I.mod.glob.keeps I.bk) hcode (TB.code.keeps I.bk) oP ht hc (TB.bm.keeps I.bk) fun ctv h' tk hx big => ?_
    have nF : H h'.objs.size = none := I.hok.fresh big
    have J := I.laid (t' := tk) (a := h'.objs.size) (o := LamO (X.env.qual ++ "<lambda>") params body scope (cloFrom X.env.cells scope.names []) h'.objs.size c') (h' := h'.push (PySem.W.kla_obj "<lambda>" (X.env.qual ++ "<lambda>") params body scope (cloFrom X.env.cells scope.names []) ((X.mg "__name__").getD .none) c' ctv))
      (fun b o e => Heap.get?_push_of_some _ (hx b o e)) big (lamO_ok (Heap.get?_push_size _ rfl))
    have kp : ∀ b o, H b = some o → upd H h'.objs.size (LamO (X.env.qual ++ "<lambda>") params body scope (cloFrom X.env.cells scope.names []) h'.objs.size c') b = some o := fun b o e => by
      rw [upd_ne (fun z => by rw [z, nF] at e; cases e)]; exact e
    exact ⟨.ref h'.objs.size, _, J, rfl, hq h'.objs.size c' _ (LamX.ExtN.of kp) (LamX.Tabs.ext hT kp) nF upd_same (kp _ _ hco)⟩
/-- what a lambda is -/
structure LamI where
  params : Arguments
  body : Expr
  scope : Scope
abbrev LamI.o (l : LamI) (X : Cx) : Addr → Addr → HO := LamO (X.env.qual ++ "<lambda>") l.params l.body l.scope (cloFrom X.env.cells l.scope.names [])
/-- the def that calls the lambda that it got: a calls it -/
def GivesF (X : Cx) (Ng : List Str) (x : Str) (sg : Scope) (g : Addr) (cdg : Value) (bg : List Stmt) (a : Str) (l : LamI) (TT : (XK → Hp → VK → Prop) → Hp → VK → Prop) : Prop :=
  ∀ (f c' : Addr) (s : Shared) (H : Hp) (Q : VK) (tl : XK → Hp → VK → Prop),
    (∀ (W : WX) (pn : List (Addr × Obj)) (xe : Value → Shared → Prop) (E : XK) (p1 p2 : Pos), Takes ((cxOf C8.CX0 X.prog X.w X.K X.mg X.base Ng x sg g cdg X.A X.stack s H C8.E0).tr pn xe) W → (∀ cls d σ' H', E cls d H' → W cls d σ' H') →
      PE ((cxOf C8.CX0 X.prog X.w X.K X.mg X.base Ng x sg g cdg X.A X.stack s H C8.E0).tr pn xe) (.Call (.Name a p1) [] [] p2) (fun σZ HZ Q => σZ[0]? = some (some (.ref f)) ∧ HZ f = some (l.o X f c') ∧ HZ c' = some (LamX.CodeO c' (X.env.qual ++ "<lambda>")) ∧ tl E HZ Q)) →
    H f = some (l.o X f c') → H c' = some (LamX.CodeO c' (X.env.qual ++ "<lambda>")) → TT tl H Q →
    ∃ t, PSs (cxOf C8.CX0 X.prog X.w X.K X.mg X.base Ng x sg g cdg X.A X.stack s H C8.E0).nox bg t ∧ t { nx := fun _ H' => Q .non H', rt := Q } (L2.start Ng [.ref f]) H
/-- a(), in the def that got the lambda -/
theorem pe_actF {pins : List (Addr × Obj)} {σ : L2.St} {H : Hp} {s : Shared} {CXg : CXT} {Eg : XK} {Ng : List Str} {qg : Str} {sg : Scope} {g f c' : Addr} {cdg : Value} {l : LamI} {k i : Nat} {a : Str} {pn : List (Addr × Obj)} {xe : Value → Shared → Prop} {W : WX} {E : XK} {tb : TE} {p1 p2 : Pos}
    (I : Inv X pins σ H s) (L : LamX.LamS X.env.scope l.scope)
    (hbind : ∀ pm ctv, bindArgs (PySem.W.kla_fn "<lambda>" (X.env.qual ++ "<lambda>") l.params l.body l.scope (cloFrom X.env.cells l.scope.names []) pm (.ref c') ctv) ⟨[], []⟩ = pure [])
    (tk : Takes ((cxOf CXg X.prog X.w X.K X.mg X.base Ng qg sg g cdg X.A X.stack s H Eg).tr pn xe) W) (hW : ∀ cls d σ' H', E cls d H' → W cls d σ' H') (hr : Room (k + 1) (X.A.deeper (envOfC qg sg s.heap.objs.size g cdg)))
    (hbody : ∀ (A : Around) (outer : List Env) (s : Shared) (H : Hp), Room k (A.deeper (LamX.lamEnv X l.scope s.heap.objs.size f c')) → PE (LamX.lamCx X A outer s H E l.scope f c') l.body tb)
    (hN : Ng[i]? = some a) (hv : Vis sg a) (hd : (a == ("__debug__" : Str)) = false := by decide) (hcd : (a == ("__classdict__" : Str)) = false := by decide) :
    PE ((cxOf CXg X.prog X.w X.K X.mg X.base Ng qg sg g cdg X.A X.stack s H Eg).tr pn xe) (.Call (.Name a p1) [] [] p2)
      (fun σZ HZ Q => σZ[i]? = some (some (.ref f)) ∧ HZ f = some (l.o X f c') ∧ HZ c' = some (LamX.CodeO c' (X.env.qual ++ "<lambda>")) ∧ tb σ HZ Q) := by
  refine ⟨fun pinsZ sZ σZ HZ Q IZ ⟨hs, hf, hc, ht⟩ => ?_⟩
  refine wpAny_Call_Name_kw (thn ((pe_var (pos := p1) (i := i) hN hv hd hcd).run pinsZ sZ σZ HZ (fun v H1 => v = .ref f ∧ H1 = HZ) IZ ⟨.ref f, hs, rfl, rfl⟩) fun u s1 ⟨v, H1, I1, r1, ev, eH⟩ => ?_)
  subst ev
  subst eH
  obtain rfl : u = Value.ref f := r1
  obtain ⟨pm, ctv, of1⟩ := lamO_at I1.hok hf
  refine PySem.W.callWith_F0 ⟨_, _, _, _, of1⟩ ?_
  obtain ⟨⟨oc, vs, t, o1, o2, o3⟩, _, _⟩ := I1.hok c' _ hc
  refine wpAny_call (codeAny_mono (R := CR (L2.CX X.prog X.w) (envOfC qg sg s.heap.objs.size g cdg :: X.stack) X.prog X.w H1 s1 Q E) ?_ fun r s' hq => ?_)
  · show codeAny (model X.prog X.w) (X.A.deeper (envOfC qg sg s.heap.objs.size g cdg)) (.call (.ref f) ⟨[], []⟩) _ _
    refine PySem.W.kla_callFunE hr.depth of1 rfl L.co L.gen rfl ⟨c', oc, vs, t, rfl, o1, o2, o3⟩ ?_
    rw [hbind pm ctv]
    refine wpAny_pure (wpAny_newFunctionEnv (fun y hy => (L.own y hy).2) (fun y hy => absurd hy (by simp)) (fun h2 hns hsb => ⟨I1.nolimit.fresh _ hsb, ?_⟩) L.kind)
    show codeAny _ _ (.expr l.body (LamX.lamEnv X l.scope s1.heap.objs.size f c')) _ _
    have up : ∀ b o, s1.heap.get? b = some o → h2.get? b = some o := fun b o e => hsb.extBut b o (Nat.ne_of_lt (Heap.lt_size e)) (Heap.get?_push_of_some _ e)
    have J : Inv (LamX.lamCx X (X.A.deeper (envOfC qg sg s.heap.objs.size g cdg)) (envOfC qg sg s.heap.objs.size g cdg :: X.stack) s1 H1 E l.scope f c') [] σ H1 { s1 with heap := h2, toks := s1.toks + ([] : List (Str × Value)).length } :=
      LamX.lam_start2 I L I1.env0 hr.hd I1.base hns up
    exact PySem.W.kla_codeExpr (wpAny_mono ((hbody _ _ s1 H1 (hr.deeper _)).run [] _ _ H1 Q J ht) (fun v s' ⟨w', H', J', rv, q⟩ => ⟨w', H', J'.os, J'.bare, J'.base, J'.hok, rv, q⟩) fun _ _ z => z)
  · have hx : Passes (L2.CX X.prog X.w) ((cxOf CXg X.prog X.w X.K X.mg X.base Ng qg sg g cdg X.A X.stack s H Eg).tr pn xe) E := passes_call tk hW
    match r, hq with
    | .error e, hq => exact hx pinsZ σZ H1 s1 e s' I1 hq
    | .ok (.ret u), hq => exact I1.after hq
    | .ok .next, hq => exact False.elim hq
    | .ok .brk, hq => exact False.elim hq
    | .ok .cont, hq => exact False.elim hq
/-- x(e): e is one of some lambdas -/
theorem pe_fncall {ι : Type} {T : List (Addr × Str)} {TT : (XK → Hp → VK → Prop) → Hp → VK → Prop} {x a : Str} {g : Addr} {k : Nat} {pg : Arguments} {bg : List Stmt} {sg : Scope} {dV kV doc pm cdv ct oc : Value} {an od : Option Addr} {osl : Array (Option Value)} {Ng : List Str}
    (lm : ι → LamI) {t : ι → XK → TE} {e : Expr} {ta : TA} {p pos : Pos} (hg : Gl X x) (hm : X.mg x = some (.ref g)) (hk : PySem.W.keepIn X.K (.ref g) = true)
    (lk : X.K.lookup g = some ⟨oc, od, .func (PySem.W.fnOf x x pg bg sg dV kV doc pm an cdv ct), osl⟩) (hcg : PySem.W.codeIn X.K cdv x = true) (hb : L2.Binds X.K (PySem.W.fnOf x x pg bg sg dV kV doc pm an cdv ct) [a] []) (Sg : FnScope Ng [a] sg) (hNg : Ng[0]? = some a) (hva : Vis sg a)
    (hG : ∀ i, GivesF X Ng x sg g cdv bg a (lm i) TT) (hr : Room (k + 2) X.A) (L : ∀ i, LamX.LamS X.env.scope (lm i).scope)
    (hbind : ∀ i (q : Str) (cl : List (Str × Addr)) (pm cv ctv : Value), bindArgs (PySem.W.kla_fn "<lambda>" q (lm i).params (lm i).body (lm i).scope cl pm cv ctv) ⟨[], []⟩ = pure [])
    (hbody : ∀ i (A : Around) (outer : List Env) (s : Shared) (H : Hp) (E : XK) (f c' : Addr), Room k (A.deeper (LamX.lamEnv X (lm i).scope s.heap.objs.size f c')) → PE (LamX.lamCx X A outer s H E (lm i).scope f c') (lm i).body (t i E))
    (pa : PA X [e] ta) (hdb : (x == ("__debug__" : Str)) = false := by decide) (hd : (a == ("__debug__" : Str)) = false := by decide) (hcd : (a == ("__classdict__" : Str)) = false := by decide)
    (he : starEach [e] X.env = (false, eval e X.env) :: starEach [] X.env := by rfl) (hpl : (backTo pos (starEach [] X.env)).any (·.1) = false := by rfl) :
    PE X (.Call (.Name x p) [e] [] pos) (fun σ H Q => ta σ H fun vs H1 => ∃ i f c', vs = [.ref f] ∧ H1 f = some ((lm i).o X f c') ∧ H1 c' = some (LamX.CodeO c' (X.env.qual ++ "<lambda>")) ∧ TT (fun E H' Q' => t i E σ H' Q') H1 Q) := by
  refine ⟨fun pins s σ H Q I h => ?_⟩
  refine wpAny_Call_Name_kw (ld_glob I hg hm ?_ hdb)
  refine PySem.W.callWith_K (h₀ := X.base) I.ok.mod.kin hk (thn (pa.run pos pins s σ H _ I h) fun us s1 ⟨vs, H1, I1, r1, i, f, c', ev, hf, hc, q1⟩ => ⟨I1.kIn, ?_⟩) he hpl
  subst ev
  cases r1 with
  | @cons _ u _ _ ry rr =>
  cases rr
  obtain rfl : u = Value.ref f := ry
  show wpAny _ _ (call (.ref g) [.ref f]) _ _ _
  refine wpAny_call (codeAny_mono (R := CR C8.CX0 X.stack X.prog X.w H1 s1 Q C8.E0) ?_ fun r s2 hq => ?_)
  · refine LamX.run_ofS (N := Ng) (ps := [a]) (us := [.ref f]) (vs := [.ref f]) lk hcg Sg hr I1.env0 (hb s1 [.ref f] I1.kIn rfl) (.cons rfl .nil) rfl fun hr' => ?_
    obtain ⟨t', ht', hq'⟩ := hG i f c' s1 H1 Q (fun E H' Q' => t i E σ H' Q') (fun W pn xe E p1 p2 tk hW => pe_actF (i := 0) I1 (L i) (fun pm ctv => hbind i _ _ _ _ _) tk hW hr' (fun A outer s H hr2 => hbody i A outer s H E f c' hr2) hNg hva hd hcd) hf hc q1
    exact ⟨t', ht'.nox, hq'⟩
  · match r, hq with
    | .error e, hq => exact (show False from hq).elim
    | .ok (.ret u), hq => exact I1.after hq
    | .ok .next, hq => exact False.elim hq
    | .ok .brk, hq => exact False.elim hq
    | .ok .cont, hq => exact False.elim hq
end
end TH
set_option Elab.async false
set_option linter.all false
set_option maxRecDepth 100000
set_option maxHeartbeats 2000000
/-! TB116: which class it is: a lambda called in a try, its exception asked by isinstance. -/
namespace TH
open PySem PySem.Spec PyProof.Rows L2
section
open PySem.W PySem.Calls
variable {prog : Program} {w : World} {A : Around} {E : Value → Shared → Prop} {s : Shared} {K : Frag} {x D : Addr} {ox : Obj} {od : Option Obj}
theorem class_ask {Q : Option Value → Shared → Prop} (C : ExcC K D) (X : K.In s.heap) (I : InstAt s.heap x ox D od) (h : Q (some (.ref D)) { s with toks := s.toks + 1 }) : wpAny (model prog w) A (getAttr? (.ref x) "__class__") Q E s := by
  obtain ⟨cd, hcd, _⟩ := any_some C.hd
  have hf : findObj K D od "__class__" = some (.bind (.builtin "getset_descriptor.__get__") (.builtin "object.__class__")) := by
    unfold findObj
    rw [hcd, Option.bind_some, C.ha, Option.bind_some]
    simp [C.hn, C.ht]
  obtain ⟨hp, g, d, t, os⟩ := s
  have ty := I.type (M := model prog w)
  have own := looks_findIn (M := model prog w) X C.hg
  have noga := looks_findIn (M := model prog w) X C.hk
  have fnd := looks_find (M := model prog w) X I hf
  have isb : Looks (model prog w) hp (isInstance (.ref x) (.type "BaseException")) true := ty.andThen (looks_subIn X C.hs)
  have n2 : (Value.builtin "BaseException.__getattribute__" == Value.builtin "object.__getattribute__") = false := by decide +kernel
  have n1 : (onTheHeap (Value.ref D) && Value.builtin "BaseException.__getattribute__" == Value.builtin "object.__getattribute__") = false := by rw [n2]; rfl
  unfold getAttr? getAttrBy? getAttrBy
  refine wpAny_bind (wpAny_mkText (wpAny_bind (wpAny_attempt (wpAny_holding (wpAny_bind (ty.at (wpAny_bind (own.at ?_))))))))
  show wpAny _ _ (if (onTheHeap (Value.ref D) && Value.builtin "BaseException.__getattribute__" == Value.builtin "object.__getattribute__") = true then _ else _) _ _ _
  rw [n1, if_neg Bool.false_ne_true]
  unfold getAttrByItsOwn hookBefore
  refine wpAny_bind ?_
  rw [if_pos (show onTheHeap (Value.ref D) = true from rfl)]
  refine noga.at (wpAny_bind (wpAny_attempt (wpAny_holding ?_)))
  unfold callGetattribute
  rw [show (false && onTheHeap (Value.builtin "BaseException.__getattribute__")) = false from rfl, if_neg Bool.false_ne_true]
  unfold boundAndCalled
  rw [PySem.F.excAttr_ValueError.ga.bind (.ref x)]
  refine wpAny_bind (wpAny_pure ?_)
  show wpAny _ _ (call (.builtin "BaseException.__getattribute__") [.ref x, .str "__class__" t]) _ _ _
  refine wpAny_call (codeAny_call_builtin PySem.F.excAttr_ValueError.ga.plain PySem.F.entry_bexc_ga (@check_slot (model prog w) _ _ ⟨hp, g, d, t + 1, os⟩ "BaseException.__getattribute__" "BaseException" "__getattribute__" (.ref x) [.str "__class__" t] [] _ (by decide +kernel) (by decide +kernel) isb (PySem.F.args_bexc_ga (.ref x) (.str "__class__" t)) ?_))
  unfold Builtin.«object.__getattribute__»
  refine wpAny_bind (wpAny_of_eq (a := ((Value.ref x : Value), [Value.str "__class__" t])) (by first | rfl | (simp only [slotArgs]; rfl)) ?_)
  refine wpAny_bind (wpAny_pure (wpAny_bind (ty.at (wpAny_bind (fnd.at ?_)))))
  show wpAny _ _ (holding [Value.builtin "object.__class__"] (call (.builtin "getset_descriptor.__get__") [.builtin "object.__class__", .ref x, .ref D]) >>= ret) _ _ _
  refine wpAny_bind (wpAny_holding (wpAny_call (class_get (s := ⟨hp, g, d, t + 1, os⟩) (ox := ox) (od := od) X I C.hm (wpAny_pure ?_))))
  show wpAny _ _ (handedOut (.ref D)) _ _ _
  rw [handedOut_of (v := .ref D) rfl]
  first
    | exact wpAny_pure (wpAny_pure h)
    | exact wpAny_pure h
    | exact wpAny_pure (wpAny_bind (wpAny_pure (wpAny_pure h)))
theorem cls_there {h : Heap} (C : ExcC K D) (X : K.In h) : ∃ c' d' cd' sl', h.get? D = some ⟨c', d', .cls cd', sl'⟩ := by
  obtain ⟨cd, hc, _⟩ := any_some C.hd
  unfold clsIn at hc
  split at hc
  · rename_i c' d' cd' sl' ho
    exact ⟨c', d', cd', sl', X _ _ ho⟩
  · cases hc
theorem kit_any (C : ExcC K D) : KitX K (.ref x) (.ref D) (fun h => ∃ ox od, InstAt h x ox D od) := by
  refine ⟨fun M h X ⟨ox, od, I⟩ => I.type, fun M h X _ => ?_, fun h tp dd its n sl X htp => ?_, fun {prog w A E Q s} X ⟨ox, od, I⟩ k => class_ask C X I k⟩
  · obtain ⟨c', d', cd', sl', ho⟩ := cls_there C X
    intro A' Q' E' s' k q
    unfold isType loadHead
    exact wpAny_bind (wpAny_loadPart (k _ _ ho) (wpAny_pure q))
  · obtain ⟨c', d', cd', sl', ho⟩ := cls_there C X
    refine Bool.eq_false_iff.mpr fun q => ?_
    have e : D = tp := Value.ref.inj (beq_iff_eq.mp q)
    subst e
    have z := ho.symm.trans htp
    cases z
end
/-- the dict that an exception may have -/
def DX (d : Option Addr) (H : Hp) : Prop := match d with
  | none => True
  | some dd => ∃ fs, H dd = some (.xd fs)
theorem DX.ex {d : Option Addr} {H H' : Hp} (h : DX d H) (e : Evl.Ex H H') : DX d H' := by
  cases d with
  | none => trivial
  | some dd => obtain ⟨fs, z⟩ := h; exact ⟨fs, e _ _ z⟩
def rIsG (K : PySem.W.Frag) (D a : Addr) (d : Option Addr) : List V → Hp → VK → Prop := fun xs H Q => ∃ (c : V) (cv : Value) (b : Bool), xs = [.ref a, c] ∧ (∀ u, RelV c u → u = cv) ∧ PySem.W.kitOne K (.ref D) cv = some b ∧ DX d H ∧ Q (.bl b) H
theorem call_isG {X : Cx} {a D : Addr} {oe : Obj} {pn : List (Addr × Obj)} {d : Option Addr} (C : ExcC X.K D) (hz : Zc (.ref D) d oe) (hf : ∃ vs, oe.data = .fields vs) : CallR (X.suite a ((a, oe) :: pn)) (.builtin "isinstance") (rIsG X.K D a d) := by
  intro pins s σ H xs us Q I r ⟨c, cv, b, exs, hcv, e, hd, q⟩
  subst exs
  cases r with
  | cons rx rr =>
  cases rr with
  | cons rt rr =>
  cases rr
  cases rx
  have ec := hcv _ rt
  subst ec
  obtain ⟨hget, _⟩ := I.pin (a, oe) (List.mem_append.mpr (.inl List.mem_cons_self))
  obtain ⟨vs, hv⟩ := hf
  have J : ∃ ox od, PySem.W.InstAt s.heap a ox D od := by
    obtain ⟨oc, odd, oda, osl⟩ := oe
    obtain ⟨h1, h2⟩ := hz
    dsimp only at h1 h2 hv
    subst h1 h2 hv
    cases odd with
    | none => exact ⟨_, none, hget, rfl, rfl, trivial⟩
    | some dd =>
      obtain ⟨fs, z⟩ := hd
      obtain ⟨mA, ⟨o, es, ep, ho, _⟩, _⟩ := I.hok dd _ z
      exact ⟨_, some o, hget, rfl, rfl, ho⟩
  exact PySem.W.kia_one (kit_any C) I.kIn J e (fun z => nomatch z) fun tk => ⟨.bl b, H, I.kept (t' := tk) fun _ _ z => z, rfl, q⟩
/-! ### _law_under -/
abbrev underS (a0 b0 c0 d0 a1 b1 c1 d1 a2 b2 c2 d2 a3 b3 c3 d3 a4 b4 c4 d4 a5 b5 c5 d5 a6 b6 c6 d6 a7 b7 c7 d7 a8 b8 c8 d8 s0 s1 s2 s3 s4 s5 s6 s7 s8 s9 u0 u1 : Pos) : List Stmt :=
  [.Assign [.Name "some" s0] (.List [.Call (.Name "isinstance" a0) [.Name "e" b0, .Name "BadDeed" c0] [] d0, .Call (.Name "isinstance" a1) [.Name "e" b1, .Name "BadPlan" c1] [] d1, .Call (.Name "isinstance" a2) [.Name "e" b2, .Name "BadSize" c2] [] d2, .Call (.Name "isinstance" a3) [.Name "e" b3, .Name "BadText" c3] [] d3] s1) s2,
    .Assign [.Name "some" s3] (.BinOp (.Name "some" s4) .Add (.List [.Call (.Name "isinstance" a4) [.Name "e" b4, .Name "Gives" c4] [] d4, .Call (.Name "isinstance" a5) [.Name "e" b5, .Name "NoRoom" c5] [] d5, .Call (.Name "isinstance" a6) [.Name "e" b6, .Name "NoSuch" c6] [] d6, .Call (.Name "isinstance" a7) [.Name "e" b7, .Name "NoWay" c7] [] d7] s5) s6) s7,
    .Return (some (.BinOp (.Name "some" s8) .Add (.List [.Call (.Name "isinstance" a8) [.Name "e" b8, .Name "ValueError" c8] [] d8] s9) u0)) u1]
abbrev underB (a0 b0 c0 d0 a1 b1 c1 d1 a2 b2 c2 d2 a3 b3 c3 d3 a4 b4 c4 d4 a5 b5 c5 d5 a6 b6 c6 d6 a7 b7 c7 d7 a8 b8 c8 d8 s0 s1 s2 s3 s4 s5 s6 s7 s8 s9 u0 u1 p1 p2 p3 p4 p5 p6 p7 p8 : Pos) : List Stmt :=
  [.Try [.Expr (.Call (.Name "what" p1) [] [] p2) p3] [.ExceptHandler (some (.Name "TentFault" p4)) (some "e") (underS a0 b0 c0 d0 a1 b1 c1 d1 a2 b2 c2 d2 a3 b3 c3 d3 a4 b4 c4 d4 a5 b5 c5 d5 a6 b6 c6 d6 a7 b7 c7 d7 a8 b8 c8 d8 s0 s1 s2 s3 s4 s5 s6 s7 s8 s9 u0 u1) p5] [] [] p6,
   .Return (some (.List [] p7)) p8]
/-- what the classes must say -/
structure UndK (K : PySem.W.Frag) (cA : CA) (tf : Addr) : Prop where
  ex : ∀ x, PySem.W.exmOne K (.ref (cA x)) (.ref tf) = some true
  is : ∀ x y, PySem.W.kitOne K (.ref (cA x)) (.ref (cA y)) = some (decide (x.no = y.no))
  ve : ∀ x, PySem.W.kitOne K (.ref (cA x)) (.type "ValueError") = some true
  c : ∀ x, ExcC K (cA x)
def isAll (x : Ex) : List Bool := [decide (x.no = Ex.deed.no), decide (x.no = Ex.plan.no), decide (x.no = Ex.size.no), decide (x.no = (Ex.text 0).no), decide (x.no = Ex.gives.no), decide (x.no = Ex.room.no), decide (x.no = Ex.such.no), decide (x.no = Ex.way.no), true]
/-- what _law_under makes of a lambda's reading -/
def TUnd (cA : CA) : (XK → Hp → VK → Prop) → Hp → VK → Prop := fun tl H Q =>
  tl (fun cls d H' => ∃ x : Ex, cls = .ref (cA x) ∧ DX d H' ∧ ∀ z H2, H' z = none → Evl.Ex H' H2 → H2 z = some (.lst ((isAll x).map V.bl)) → Q (.ref z) H2) H fun _ H' => ([] : List V).length ≤ sizeLine ∧ ∀ z, H' z = none → Q (.ref z) (upd H' z (.lst []))
section
variable {X : Cx} {a : Addr} {cA : CA} {x : Ex}
open Evl
/-- isinstance(e, C) -/
theorem pe_isE {X1 : Cx} {D : Addr} {d : Option Addr} {i : Nat} {C : Str} {c : V} {cv : Value} {p1 p2 p3 p4 : Pos} (hc : CallR X1 (.builtin "isinstance") (rIsG X1.K D a d)) (hN : X1.N[i]? = some "e") (hv : Vis X1.env.scope "e") (hg : Gl X1 "isinstance") (hm : X1.mg "isinstance" = none) (pc : PE X1 (.Name C p3) (tC c)) :
    PE X1 (.Call (.Name "isinstance" p1) [.Name "e" p2, .Name C p3] [] p4) (tCB (rIsG X1.K D a d) (tCons (tVar i) (tCons (tC c) tNil))) :=
  pe_callB hc hg hm (by decide +kernel) (pa_cons (pe_var hN hv) (pa_cons pc pa_nil))
theorem ev_isE {K : PySem.W.Frag} {D : Addr} {d : Option Addr} {i : Nat} {c : V} {cv : Value} {b : Bool} {σ : L2.St} {H : Hp} (hs : σ[i]? = some (some (.ref a))) (hc : ∀ u, RelV c u → u = cv) (k : PySem.W.kitOne K (.ref D) cv = some b) (hd : DX d H) :
    Ev (tCB (rIsG K D a d) (tCons (tVar i) (tCons (tC c) tNil))) σ H (.bl b) := fun H1 e Q q => ⟨_, hs, c, cv, b, rfl, hc, k, hd.ex e, q H1 (Ex.refl H1)⟩
end
end TH
set_option Elab.async false
set_option linter.all false
set_option maxRecDepth 100000
set_option maxHeartbeats 4000000
/-! TB117: _law_under walked. -/
namespace TH
open PySem PySem.Spec PyProof.Rows L2
open Evl hiding Ex
theorem el_cat {tb : TE} {i : Nat} {p : Addr} {xs ys : List V} {σ : L2.St} {H : Hp} (hs : σ[i]? = some (some (.ref p))) (hp : H p = some (.lst xs)) (hb : EvL tb σ H ys) (hl : xs.length + ys.length ≤ 100000) : EvL (tOp rCat (tVar i) tb) σ H (xs ++ ys) :=
  fun H1 e Q q => ⟨_, hs, hb H1 e _ fun z H2 hz e2 h2 => ⟨p, z, xs, ys, rfl, rfl, e2 _ _ (e _ _ hp), h2, Nat.le_trans hl (by rw [sizeLine_eq]; omega), fun w hw => q w _ (fresh_back e2 hw) (e2.trans (Evl.Ex.new hw)) upd_same⟩⟩
theorem pss_suite {X1 : Cx} {a : Addr} {cA : CA} {x : Ex} {d : Option Addr} {tf : Addr} {a0 b0 c0 d0 a1 b1 c1 d1 a2 b2 c2 d2 a3 b3 c3 d3 a4 b4 c4 d4 a5 b5 c5 d5 a6 b6 c6 d6 a7 b7 c7 d7 a8 b8 c8 d8 s0 s1 s2 s3 s4 s5 s6 s7 s8 s9 u0 u1 : Pos} (U : UndK X1.K cA tf) (en : ExN X1.mg cA) (hve : X1.mg "ValueError" = none) (him : X1.mg "isinstance" = none) (hN : X1.N = (["what", "e", "some"] : List Str)) (hc : CallR X1 (.builtin "isinstance") (rIsG X1.K (cA x) a d))
    (hge : ∀ e ∈ (["BadSize", "BadPlan", "NoSuch", "NoRoom", "NoWay", "Gives", "BadText", "BadDeed", "ValueError", "isinstance"] : List Str), X1.env.scope.names.lookup e = some .globalImplicit) (he : X1.env.scope.names.lookup ("e" : Str) = some .local) (hs : X1.env.scope.names.lookup ("some" : Str) = some .local) :
    PSs X1 (underS a0 b0 c0 d0 a1 b1 c1 d1 a2 b2 c2 d2 a3 b3 c3 d3 a4 b4 c4 d4 a5 b5 c5 d5 a6 b6 c6 d6 a7 b7 c7 d7 a8 b8 c8 d8 s0 s1 s2 s3 s4 s5 s6 s7 s8 s9 u0 u1) (fun D σ H => σ.length = 3 ∧ σ[1]? = some (some (.ref a)) ∧ DX d H ∧ ∀ z H2, H z = none → Evl.Ex H H2 → H2 z = some (.lst ((isAll x).map V.bl)) → D.rt (.ref z) H2) := by
  have h1 : X1.N[1]? = some ("e" : Str) := by rw [hN]; rfl
  have h3 : X1.N[2]? = some ("some" : Str) := by rw [hN]; rfl
  have h2 : Vis X1.env.scope ("e" : Str) := .inl he
  have hv : Vis X1.env.scope ("some" : Str) := .inl hs
  have hl : Loc X1.env.scope ("some" : Str) := .inl hs
  have hf : X1.fn ("some" : Str) = true ∨ X1.env.scope.names.lookup ("some" : Str) = some .local := .inr hs
  have hgi : Gl X1 "isinstance" := hge _ (by decide)
  have nd : X1.N.Nodup := by rw [hN]; decide +kernel
  have P := pss_cons (ps_set (pos' := s0) (pos := s2) nd h3 hl (pe_lst (pos := s1) (pa_cons (pe_isE (p1 := a0) (p2 := b0) (p3 := c0) (p4 := d0) (cv := .ref (cA (.deed))) (c := .ref (cA (.deed))) hc h1 h2 hgi him (pe_glob (by exact hge _ (by decide)) en.deed rfl)) (pa_cons (pe_isE (p1 := a1) (p2 := b1) (p3 := c1) (p4 := d1) (cv := .ref (cA (.plan))) (c := .ref (cA (.plan))) hc h1 h2 hgi him (pe_glob (by exact hge _ (by decide)) en.plan rfl)) (pa_cons (pe_isE (p1 := a2) (p2 := b2) (p3 := c2) (p4 := d2) (cv := .ref (cA (.size))) (c := .ref (cA (.size))) hc h1 h2 hgi him (pe_glob (by exact hge _ (by decide)) en.size rfl)) (pa_cons (pe_isE (p1 := a3) (p2 := b3) (p3 := c3) (p4 := d3) (cv := .ref (cA (.text 0))) (c := .ref (cA (.text 0))) hc h1 h2 hgi him (pe_glob (by exact hge _ (by decide)) en.text rfl)) pa_nil)))))) (pss_cons (ps_set (pos' := s3) (pos := s7) nd h3 hl (pe_op (pos := s6) op_cat (pe_var (pos := s4) h3 hv) (pe_lst (pos := s5) (pa_cons (pe_isE (p1 := a4) (p2 := b4) (p3 := c4) (p4 := d4) (cv := .ref (cA (.gives))) (c := .ref (cA (.gives))) hc h1 h2 hgi him (pe_glob (by exact hge _ (by decide)) en.gives rfl)) (pa_cons (pe_isE (p1 := a5) (p2 := b5) (p3 := c5) (p4 := d5) (cv := .ref (cA (.room))) (c := .ref (cA (.room))) hc h1 h2 hgi him (pe_glob (by exact hge _ (by decide)) en.room rfl)) (pa_cons (pe_isE (p1 := a6) (p2 := b6) (p3 := c6) (p4 := d6) (cv := .ref (cA (.such))) (c := .ref (cA (.such))) hc h1 h2 hgi him (pe_glob (by exact hge _ (by decide)) en.such rfl)) (pa_cons (pe_isE (p1 := a7) (p2 := b7) (p3 := c7) (p4 := d7) (cv := .ref (cA (.way))) (c := .ref (cA (.way))) hc h1 h2 hgi him (pe_glob (by exact hge _ (by decide)) en.way rfl)) pa_nil))))))) (pss_one (ps_ret (pos := u1) (pe_op (pos := u0) op_cat (pe_var (pos := s8) h3 hv) (pe_lst (pos := s9) (pa_cons (pe_isE (p1 := a8) (p2 := b8) (p3 := c8) (p4 := d8) (cv := .type "ValueError") (c := .ty "ValueError") hc h1 h2 hgi him (pe_bltn (by exact hge _ (by decide)) hve (by decide +kernel) rfl)) pa_nil))))))
  refine PSsimp P fun D σ H ⟨hl3, he1, hd, k⟩ => ?_
  refine s_asgL (el_lst (Evl.ea_cons (ev_isE (c := .ref (cA (.deed))) he1 (fun u z => z) (U.is x (.deed)) hd) (Evl.ea_cons (ev_isE (c := .ref (cA (.plan))) he1 (fun u z => z) (U.is x (.plan)) hd) (Evl.ea_cons (ev_isE (c := .ref (cA (.size))) he1 (fun u z => z) (U.is x (.size)) hd) (Evl.ea_cons (ev_isE (c := .ref (cA (.text 0))) he1 (fun u z => z) (U.is x (.text 0)) hd) Evl.ea_nil)))) (Nat.le_of_ble_eq_true rfl)) fun p H1 np e1 hp => ?_
  have q1 : (σ.set 2 (some (.ref p)))[1]? = some (some (.ref a)) := by rw [List.getElem?_set_ne (by decide)]; exact he1
  have q2 : (σ.set 2 (some (.ref p)))[2]? = some (some (.ref p)) := List.getElem?_set_self (by rw [hl3]; decide)
  have hd1 := hd.ex e1
  refine s_asgL (el_cat q2 hp (el_lst (Evl.ea_cons (ev_isE (c := .ref (cA (.gives))) q1 (fun u z => z) (U.is x (.gives)) hd1) (Evl.ea_cons (ev_isE (c := .ref (cA (.room))) q1 (fun u z => z) (U.is x (.room)) hd1) (Evl.ea_cons (ev_isE (c := .ref (cA (.such))) q1 (fun u z => z) (U.is x (.such)) hd1) (Evl.ea_cons (ev_isE (c := .ref (cA (.way))) q1 (fun u z => z) (U.is x (.way)) hd1) Evl.ea_nil)))) (Nat.le_of_ble_eq_true rfl)) (Nat.le_of_ble_eq_true rfl)) fun p2 H2 np2 e2 hp2 => ?_
  have r1 : ((σ.set 2 (some (.ref p))).set 2 (some (.ref p2)))[1]? = some (some (.ref a)) := by rw [List.getElem?_set_ne (by decide)]; exact q1
  have r2 : ((σ.set 2 (some (.ref p))).set 2 (some (.ref p2)))[2]? = some (some (.ref p2)) := List.getElem?_set_self (by rw [List.length_set, hl3]; decide)
  have hd2 := hd1.ex e2
  exact s_retL (el_cat r2 hp2 (el_lst (Evl.ea_cons (ev_isE (c := .ty "ValueError") r1 (fun u z => z) (U.ve x) hd2) Evl.ea_nil) (Nat.le_of_ble_eq_true rfl)) (Nat.le_of_ble_eq_true rfl)) fun p3 H3 np3 e3 hp3 => k p3 H3 (fresh_back (e1.trans e2) np3) ((e1.trans e2).trans e3) hp3
theorem und_gives {X : Cx} {cA : CA} {x : Str} {sg : Scope} {g tf : Addr} {cdg : Value} {l : LamI} {a0 b0 c0 d0 a1 b1 c1 d1 a2 b2 c2 d2 a3 b3 c3 d3 a4 b4 c4 d4 a5 b5 c5 d5 a6 b6 c6 d6 a7 b7 c7 d7 a8 b8 c8 d8 s0 s1 s2 s3 s4 s5 s6 s7 s8 s9 u0 u1 p1 p2 p3 p4 p5 p6 p7 p8 : Pos} (U : UndK X.K cA tf) (en : ExN X.mg cA) (htf : X.mg "TentFault" = some (.ref tf)) (hve : X.mg "ValueError" = none) (him : X.mg "isinstance" = none)
    (hge : ∀ e ∈ (["BadSize", "BadPlan", "NoSuch", "NoRoom", "NoWay", "Gives", "BadText", "BadDeed", "ValueError", "isinstance", "TentFault"] : List Str), sg.names.lookup e = some .globalImplicit) (he : sg.names.lookup ("e" : Str) = some .local) (hs : sg.names.lookup ("some" : Str) = some .local) (hvw : Vis sg "what") :
    GivesF X ["what", "e", "some"] x sg g cdg (underB a0 b0 c0 d0 a1 b1 c1 d1 a2 b2 c2 d2 a3 b3 c3 d3 a4 b4 c4 d4 a5 b5 c5 d5 a6 b6 c6 d6 a7 b7 c7 d7 a8 b8 c8 d8 s0 s1 s2 s3 s4 s5 s6 s7 s8 s9 u0 u1 p1 p2 p3 p4 p5 p6 p7 p8) "what" l (TUnd cA) := by
  intro f c' s H Q tl act hf hc h
  refine ⟨_, pss_cons (ps_try_as (X := (cxOf C8.CX0 X.prog X.w X.K X.mg X.base ["what", "e", "some"] x sg g cdg X.A X.stack s H C8.E0).nox) (c := .ref tf) (i := 1) (Wout := fun _ _ _ _ => False)
      (tb := fun W D σ H => ∃ Ech : XK, (∀ cls d σ' H', Ech cls d H' → W cls d σ' H') ∧ σ[0]? = some (some (.ref f)) ∧ H f = some (l.o X f c') ∧ H c' = some (LamX.CodeO c' (X.env.qual ++ "<lambda>")) ∧ tl Ech H fun _ H' => D.nx σ H')
      (ts := fun a cls d D σ H => ∃ σ0 y, σ = List.set σ0 1 (some (.ref a)) ∧ cls = .ref (cA y) ∧ DX d H ∧ ∀ z H2, H z = none → Evl.Ex H H2 → H2 z = some (.lst ((isAll y).map V.bl)) → D.rt (.ref z) H2)
      rfl rfl (show ((["what", "e", "some"] : List Str)).Nodup by decide +kernel) rfl he ⟨hge _ (by decide), by decide, .inl htf⟩ LamX.takes0 (fun W pn xe tk _ => ?_) (fun a oe cls d pn hz hfl => ?_)) (pss_one (ps_ret (pe_lst pa_nil))), ?_⟩
  · refine ⟨fun pins s' σ H' D I h' => ?_⟩
    obtain ⟨Ech, hW, h1, h2, h3, h4⟩ := h'
    exact (pss_one (ps_expr (pos := p3) (act W pn xe Ech p1 p2 tk hW))).run pins s' σ H' D I ⟨h1, h2, h3, h4⟩
  · refine ⟨fun pins s' σ H' D I ⟨σ0, y, e1, e2, hd, k⟩ => ?_⟩
    subst e2
    have hlen : σ.length = 3 := I.len
    refine (pss_suite (X1 := ((cxOf C8.CX0 X.prog X.w X.K X.mg X.base ["what", "e", "some"] x sg g cdg X.A X.stack s H C8.E0).nox).suite a ((a, oe) :: pn)) (x := y) (tf := tf) U en hve him rfl (call_isG (U.c y) hz hfl) (fun e he' => hge e (by
      simp only [List.mem_cons, List.not_mem_nil, or_false] at he' ⊢
      rcases he' with z | z | z | z | z | z | z | z | z | z <;> simp [z])) he hs).run pins s' σ H' D I ⟨hlen, ?_, hd, k⟩
    rw [e1] at hlen ⊢
    exact List.getElem?_set_self (by rw [List.length_set] at hlen; rw [hlen]; decide)
  · refine ⟨fun cls d H' => ∃ y : Ex, cls = .ref (cA y) ∧ DX d H' ∧ ∀ z H2, H' z = none → Evl.Ex H' H2 → H2 z = some (.lst ((isAll y).map V.bl)) → Q (.ref z) H2, fun cls d σ' H' ⟨y, e, hd, k⟩ => ⟨true, by rw [e]; exact U.ex y, fun _ a _ => ⟨σ', y, rfl, e, hd, k⟩, fun z => by cases z⟩, rfl, hf, hc, h⟩
end TH
set_option Elab.async false
set_option linter.all false
set_option maxRecDepth 100000
set_option maxHeartbeats 2000000
/-! TB118: a list of lambdas, one of them handed to _law_under. -/
namespace TH
open PySem PySem.Spec PyProof.Rows L2
/-- a lambda as a value -/
def fnD (X : Cx) (l : LamI) : D := .fn (l.o X) (X.env.qual ++ "<lambda>")
section
variable {TL : List (Addr × Str)} {K : PySem.W.Frag} {R : Own} {h : SH} {H : Hp}
theorem nown_new {f : Addr} (hH : HR TL K R h H) (n : H f = none) : ¬ own R h f := fun z => by
  rcases z with z | z
  · obtain ⟨⟨o, e, _⟩, _⟩ := hH.ap f z
    rw [n] at e; cases e
  · obtain ⟨q, hq, e⟩ := List.mem_map.mp z
    obtain ⟨u, e2, _⟩ := (hH.at_ q hq).thereU
    rw [e, n] at e2; cases e2
theorem nown_code {c : Addr} {q : Str} (hH : HR TL K R h H) (n : H c = some (LamX.CodeO c q)) : ¬ own R h c := fun z => by
  rcases z with z | z
  · obtain ⟨⟨o, e, nu⟩, _⟩ := hH.ap c z
    rw [n] at e
    exact nu.2.2 _ (Option.some.inj e).symm
  · obtain ⟨p, hp, e⟩ := List.mem_map.mp z
    obtain ⟨u, e2, nu⟩ := (hH.at_ p hp).thereU
    rw [e, n] at e2
    exact nu.2.2 _ (Option.some.inj e2).symm
theorem reps_bl {W : Own} : ∀ l : List Bool, Reps K W H (l.map D.bl) (l.map V.bl)
  | [] => .nil
  | b :: l => .cons Rep.bl (reps_bl l)
theorem DX.of {cA : CA} {x : Ex} {cls : Value} {d : Option Addr} (r : XR cA x cls d H) : DX d H := by
  obtain ⟨_, r⟩ := r
  cases x with
  | text n => obtain ⟨dd, e, z⟩ := r; rw [e]; exact ⟨_, z⟩
  | _ => rw [show d = none from r]; trivial
end
section
variable {TL : List (Addr × Str)} {X : Cx} {cA : CA} {Wx : WX} {Γ : En} {h hk : SH} {ε ε' β β' γ ρ : Type} {he : ε → SH}
theorem ev_lam {p : Arguments} {b : Expr} {s : Scope} {c P : Addr} {pos : Pos} (TB : LamX.TabB X.base X.mg c P) (hcode : X.env.code = .ref c) (hm : (P, X.env.qual ++ "<lambda>") ∈ TL) (hu : ∀ p ∈ TL, p.1 = P → p.2 = X.env.qual ++ "<lambda>") (L : LamX.LamS X.env.scope s) (hdef : defaultsOf p X.env = ([], [])) :
    EV TL X cA Wx (.Lambda p b s pos) Γ h (.ok () : Res ε Unit) (fun _ => fnD X ⟨p, b, s⟩) (fun _ => h) he :=
  PEimp (pe_lam TB hcode hm hu L hdef) fun σ H Q ⟨R, hE, hH, w⟩ => ⟨hH.tb, fun f c' H1 ex tb nf e1 e2 => by
    have hH1 := hH.extN ex tb
    refine w _ H1 hH1 (Fr.extN ex) ?_
    unfold fnD
    simp only [Rep]
    exact ⟨f, c', rfl, ⟨nown_new hH nf, e1⟩, ⟨fun ps => lamO_ne ps, rfl⟩, nown_code hH1 e2, e2⟩⟩
/-- a list's lambdas -/
inductive LamEs (X : Cx) : List Expr → List LamI → Prop
  | nil : LamEs X [] []
  | cons {p : Arguments} {b : Expr} {s : Scope} {pos : Pos} {es : List Expr} {ls : List LamI} (L : LamX.LamS X.env.scope s) (hdef : defaultsOf p X.env = ([], [])) (hs : starEach (.Lambda p b s pos :: es) X.env = (false, eval (.Lambda p b s pos) X.env) :: starEach es X.env) (r : LamEs X es ls) : LamEs X (.Lambda p b s pos :: es) (⟨p, b, s⟩ :: ls)
theorem pa_lams {c P : Addr} (TB : LamX.TabB X.base X.mg c P) (hcode : X.env.code = .ref c) (hm : (P, X.env.qual ++ "<lambda>") ∈ TL) (hu : ∀ p ∈ TL, p.1 = P → p.2 = X.env.qual ++ "<lambda>") : ∀ {es : List Expr} {ls : List LamI}, LamEs X es ls → EAP TL X es Γ h (ls.map (fnD X))
  | _, _, .nil => eap_nil
  | _, _, .cons L hdef hs r => eap_cons (PEimp (ev_lam (ε := Empty) (cA := cA0) (Wx := fun _ _ _ _ => False) (he := fun e => e.elim) TB hcode hm hu L hdef) fun σ H Q ⟨R, hE, hH, w⟩ => ⟨R, hE, hH, w⟩) (pa_lams TB hcode hm hu r) hs
where cA0 : CA := fun _ => 0
/-- x = [lambda: .., ..]: what they are is known of them, not how they are laid -/
theorem ss_lams {E : XK} {rest : List Stmt} {oN : β → En × SH → Prop} {oJ : γ → En × SH} {oR : ρ → D × SH → Prop} {r : Res ε (Fl β γ ρ)} {es : List Expr} {ls : List LamI} {pos pos2 : Pos} {c P : Addr} (i : Nat) {x : Str} {p' : Pos} (l0 : LamI) (n : Nat) {Γ1 : (Nat → D) → En} (TB : LamX.TabB X.base X.mg c P) (hcode : X.env.code = .ref c) (hm : (P, X.env.qual ++ "<lambda>") ∈ TL) (hu : ∀ p ∈ TL, p.1 = P → p.2 = X.env.qual ++ "<lambda>") (J : LamEs X es ls)
    (q : ∀ dv : Nat → D, (∀ i, dv i = fnD X (ls.getD i l0)) → SS TL X cA E rest (Γ1 dv) h r oN oJ oR he)
    (eΓ : ∀ dv, Γ1 dv = Γ.set i (some (.lst ((List.range n).map dv))) := by intros; rfl) (el : (List.range n).map (fun i => fnD X (ls.getD i l0)) = ls.map (fnD X) := by rfl) (hN : X.N.Nodup) (hl : Nat.ble (ls.map (fnD X)).length 1000 = true := by rfl) (hi : X.N[i]? = some x := by rfl) (hx : Loc X.env.scope x := by first | exact Or.inl rfl | exact Or.inr rfl)
    (hs : swapsWith (.List es pos2) (some (.Name x p')) pos.line X.env = pure false := by rfl) (hf : X.fn x = true ∨ X.env.scope.names.lookup x = some .local := by first | exact .inl rfl | exact .inr rfl) :
    SS TL X cA E (.Assign [.Name x p'] (.List es pos2) pos :: rest) Γ h r oN oJ oR he :=
  ss_setP (Γ1 := Γ1 fun i => fnD X (ls.getD i l0)) i (ep_lst (pa_lams TB hcode hm hu J) hl) (q _ fun _ => rfl) hN (by rw [eΓ, el]) hi hx hs hf
/-- the lambda's body, told of its exceptions -/
def UJ (TL : List (Addr × Str)) (X : Cx) (cA : CA) (Γ : En) (h hk : SH) (k : Nat) (l : LamI) (r : Res Empty (Option Ex)) : Prop :=
  LamX.LamS X.env.scope l.scope ∧ (∀ (q : Str) (cl : List (Str × Addr)) (pm cv ctv : Value), bindArgs (PySem.W.kla_fn "<lambda>" q l.params l.body l.scope cl pm cv ctv) ⟨[], []⟩ = pure []) ∧
  ∃ t : XK → TE, (∀ (A : Around) (outer : List Env) (s : Shared) (H : Hp) (E : XK) (f c' : Addr), Room k (A.deeper (LamX.lamEnv X l.scope s.heap.objs.size f c')) → PE (LamX.lamCx X A outer s H E l.scope f c') l.body (t E)) ∧
    ∀ (E : XK) (σ : L2.St) (H : Hp) (Q : VK) (R : Own), ER X.K (own R h) Γ σ H → HR TL X.K R h H →
      r.wp (fun o => match o with
        | none => ∀ v H', HR TL X.K R hk H' → Fr R h hk H H' → Q v H'
        | some x => ∀ cls d H', HR TL X.K R hk H' → Fr R h hk H H' → XR cA x cls d H' → E cls d H') (fun _ e => e.elim) → t E σ H Q
theorem uj_of {k : Nat} {p : Arguments} {b : Expr} {s : Scope} {r : Res ε β} {out : β → D} {ho : β → SH} (L : LamX.LamS X.env.scope s) (hk : SH)
    (hbody : ∀ (A : Around) (outer : List Env) (s' : Shared) (H : Hp) (E : XK) (f c' : Addr), Room k (A.deeper (LamX.lamEnv X s s'.heap.objs.size f c')) → EV TL (LamX.lamCx X A outer s' H E s f c') cA (WK E) b Γ h r out ho he)
    (hs1 : ∀ x, List.Sublist hk (ho x)) (hs2 : ∀ e, List.Sublist hk (he e))
    (hbind : ∀ (q : Str) (cl : List (Str × Addr)) (pm cv ctv : Value), bindArgs (PySem.W.kla_fn "<lambda>" q p b s cl pm cv ctv) ⟨[], []⟩ = pure [] := by intros; rfl) :
    UJ TL X cA Γ h hk k ⟨p, b, s⟩ ((r.bind fun _ => (.ok none : Res ε (Option Ex))).caught fun x _ => .ok (some x)) := by
  refine ⟨L, hbind, fun E => tE TL X.K cA (WK E) Γ h r out ho he, hbody, fun E σ H Q R hE hH w => ⟨R, hE, hH, ?_⟩⟩
  refine Res.wp_mono (fun b q v H' a f c => ?_) (fun x e q cls d H' a f c => ?_) (Res.wp_bind.mp (Res.wp_catch.mp w))
  · exact q v H' (a.drop (hs1 b)) (f.trans (Fr.drop (hs1 b)))
  · exact q cls d H' (a.drop (hs2 e)) (f.trans (Fr.drop (hs2 e))) c
inductive UJL (TL : List (Addr × Str)) (X : Cx) (cA : CA) (Γ : En) (h hk : SH) (k : Nat) : List LamI → List (Res Empty (Option Ex)) → Prop
  | nil : UJL TL X cA Γ h hk k [] []
  | cons {l : LamI} {r : Res Empty (Option Ex)} {ls : List LamI} {rs : List (Res Empty (Option Ex))} (j : UJ TL X cA Γ h hk k l r) (js : UJL TL X cA Γ h hk k ls rs) : UJL TL X cA Γ h hk k (l :: ls) (r :: rs)
theorem UJL.at_ {k : Nat} (l0 : LamI) : ∀ {ls : List LamI} {rs : List (Res Empty (Option Ex))}, UJL TL X cA Γ h hk k ls rs → ∀ i, (i < ls.length ∧ UJ TL X cA Γ h hk k (ls.getD i l0) (rs.getD i .bad)) ∨ rs.getD i .bad = .bad
  | _, _, .nil, i => .inr (by simp)
  | _, _, .cons j js, 0 => .inl ⟨by simp, by simpa using j⟩
  | _, _, .cons j js, i + 1 => by
    rcases js.at_ l0 i with ⟨z, w⟩ | z
    · exact .inl ⟨by simpa using z, by simpa using w⟩
    · exact .inr (by simpa using z)
/-- _law_under, as it stands in a law -/
structure UndF (X : Cx) (cA : CA) (st : Stmt) : Prop where
  fn : ∃ g fd, Fun X.K "_law_under" "_law_under" st g fd ∧ X.mg "_law_under" = some (.ref g) ∧ Binds X.K fd ["what"] []
  u : ∃ tf, UndK X.K cA tf ∧ X.mg "TentFault" = some (.ref tf)
  en : ExN X.mg cA
  ve : X.mg "ValueError" = none
  is : X.mg "isinstance" = none
  bd : ∃ a0 b0 c0 d0 a1 b1 c1 d1 a2 b2 c2 d2 a3 b3 c3 d3 a4 b4 c4 d4 a5 b5 c5 d5 a6 b6 c6 d6 a7 b7 c7 d7 a8 b8 c8 d8 s0 s1 s2 s3 s4 s5 s6 s7 s8 s9 u0 u1 p1 p2 p3 p4 p5 p6 p7 p8, defBody st = underB a0 b0 c0 d0 a1 b1 c1 d1 a2 b2 c2 d2 a3 b3 c3 d3 a4 b4 c4 d4 a5 b5 c5 d5 a6 b6 c6 d6 a7 b7 c7 d7 a8 b8 c8 d8 s0 s1 s2 s3 s4 s5 s6 s7 s8 s9 u0 u1 p1 p2 p3 p4 p5 p6 p7 p8
  sg : FnScope ["what", "e", "some"] ["what"] (defScope st)
  ge : ∀ e ∈ (["BadSize", "BadPlan", "NoSuch", "NoRoom", "NoWay", "Gives", "BadText", "BadDeed", "ValueError", "isinstance", "TentFault"] : List Str), (defScope st).names.lookup e = some .globalImplicit
  le : (defScope st).names.lookup ("e" : Str) = some .local
  ls : (defScope st).names.lookup ("some" : Str) = some .local
  va : Vis (defScope st) "what"
def undL : Option Ex → List Bool
  | none => []
  | some x => isAll x
theorem ev_under {st : Stmt} {k : Nat} {e : Expr} {p pos : Pos} {ls : List LamI} {rs : List (Res Empty (Option Ex))} {dv : Nat → D} {l0 : LamI} {ra : Res ε Nat} (T : UndF X cA st) (hg : Gl X "_law_under") (hr : Room (k + 2) X.A) (hdv : ∀ i, dv i = fnD X (ls.getD i l0))
    (J : UJL TL X cA Γ h hk k ls rs) (pa : EV TL X cA Wx e Γ h ra dv (fun _ => h) he) (pk : Option Ex → β) {out : β → D} {ho : β → SH} (e1 : ∀ o, out (pk o) = .lst ((undL o).map D.bl) := by intros; rfl) (e2 : ∀ o, ho (pk o) = hk := by intros; rfl)
    (hse : starEach [e] X.env = (false, eval e X.env) :: starEach [] X.env := by rfl) (hpl : (backTo pos (starEach [] X.env)).any (·.1) = false := by rfl) :
    EV TL X cA Wx (.Call (.Name "_law_under" p) [e] [] pos) Γ h (ra.bind fun i => ((rs.getD i .bad).mapE Empty.elim).bind fun o => .ok (pk o) : Res ε β) out ho he := by
  obtain ⟨⟨g, fd, F, hm, hb⟩, ⟨tf, U, htf⟩, en, ve, is, bd, sg, ge, le, ls', va⟩ := T
  obtain ⟨⟨oc, od, kV, doc, pm, an, cdv, ct, osl, rfl, lk, hcd⟩, hk'⟩ := F
  obtain ⟨a0, b0, c0, d0, a1, b1, c1, d1, a2, b2, c2, d2, a3, b3, c3, d3, a4, b4, c4, d4, a5, b5, c5, d5, a6, b6, c6, d6, a7, b7, c7, d7, a8, b8, c8, d8, s0, s1, s2, s3, s4, s5, s6, s7, s8, s9, u0, u1, p1, p2, p3, p4, p5, p6, p7, p8, bd⟩ := bd
  have at_ : ∀ i : {i : Nat // UJ TL X cA Γ h hk k (ls.getD i l0) (rs.getD i .bad)}, UJ TL X cA Γ h hk k (ls.getD i.1 l0) (rs.getD i.1 .bad) := fun i => i.2
  have P := pe_fncall (X := X) (ι := {i : Nat // UJ TL X cA Γ h hk k (ls.getD i l0) (rs.getD i .bad)}) (TT := TUnd cA) (lm := fun i => ls.getD i.1 l0) (t := fun i => Classical.choose i.2.2.2) (T := TL) (Ng := ["what", "e", "some"]) (a := "what") (p := p) (pos := pos) (e := e) hg hm hk' lk hcd hb sg rfl va (k := k)
    (fun i => by rw [bd]; exact und_gives U en htf ve is ge le ls' va) hr (fun i => i.2.1) (fun i => i.2.2.1) (fun i A outer s H E f c' r => (Classical.choose_spec i.2.2.2).1 A outer s H E f c' r) (pa_cons pa pa_nil hse) (he := hse) (hpl := hpl)
  refine PEimp P fun σ H Q ⟨R, hE, hH, w⟩ => ⟨R, hE, hH, Res.wp_mono (fun i q v H1 h1 f1 rv => ?_) (fun x e k => k) (Res.wp_bind.mp w)⟩
  have q := Res.wp_mapE.mp (Res.wp_bind.mp q)
  rcases J.at_ l0 i with ⟨_, uj⟩ | z
  · rw [hdv i] at rv
    unfold fnD at rv
    simp only [Rep] at rv
    obtain ⟨f, c', ev, ⟨_, hf⟩, _, _, hc⟩ := rv
    refine ⟨⟨i, uj⟩, f, c', by rw [ev], hf, hc, ?_⟩
    refine (Classical.choose_spec (⟨i, uj⟩ : {i : Nat // UJ TL X cA Γ h hk k (ls.getD i l0) (rs.getD i .bad)}).2.2.2).2 _ σ H1 _ R (hE.fr f1) h1 (Res.wp_mono (fun o q => ?_) (fun x e => e.elim) q)
    have q : ∀ v H', HR TL X.K R (ho (pk o)) H' → Fr R h (ho (pk o)) H H' → Rep X.K (own R (ho (pk o))) H' (out (pk o)) v → Q v H' := q
    rw [e1, e2] at q
    cases o with
    | none =>
      intro v H' a b
      exact ⟨Nat.zero_le _, fun z hz => q _ _ (a.fr0 (upd_keep hz)) ((f1.trans b).trans (Fr.ext (upd_keep hz))) (Rep.newL a hz .nil)⟩
    | some x =>
      intro cls d H' a b c
      refine ⟨x, c.1, DX.of c, fun z H2 hz ex hl => q _ _ (a.fr0 ex) ((f1.trans b).trans (Fr.ext ex)) ?_⟩
      simp only [Rep]
      exact ⟨z, _, rfl, nown_new a hz, hl, reps_bl _⟩
  · rw [z] at q
    exact q.elim
end
end TH
set_option Elab.async false
set_option linter.all false
set_option maxRecDepth 100000
set_option maxHeartbeats 2000000
/-! TB119: what the head must tell of BadText and of _law_under. -/
namespace TH
open PySem PySem.Spec PyProof.Rows L2
/-! ### a head that tells a def closed over __class__ too -/
structure FcD where
  at_ : Str × Option Str
  params : Arguments
  body : List Stmt
  scope : Scope
abbrev FcV : Type := Option (Arguments × FuncBody × Scope)
def fcOf (K : PySem.W.Frag) (a : Addr) : FcV := match K.lookup a with
  | some ⟨_, _, .func fd, _⟩ => some (fd.params, fd.body, fd.scope)
  | _ => none
def FcD.val (d : FcD) : FcV := some (d.params, .stmts d.body, d.scope)
abbrev AlY : Type := AlX × List FcV
/-- the written part, the statics beside it -/
def kOfY (g : Addr → Option Obj) (n : Nat) (ts : List Tb) : PySem.W.Frag := kOf g n ts ++ match g cStatics with
  | some o => [(cStatics, o)]
  | none => []
theorem kOfY_in {n : Nat} {ts : List Tb} {h : Heap} : (kOfY h.get? n ts).In h := fun a o e => by
  unfold kOfY at e
  rw [List.lookup_append] at e
  cases q : (kOf h.get? n ts).lookup a with
  | some o' =>
    rw [q] at e
    have e : o' = o := by simpa using e
    subst e
    exact kOf_in _ _ q
  | none =>
    rw [q] at e
    have e : (match h.get? cStatics with
      | some o => [(cStatics, o)]
      | none => []).lookup a = some o := by simpa using e
    cases z : h.get? cStatics with
    | none => rw [z] at e; cases e
    | some o' =>
      rw [z] at e
      have e : ([(cStatics, o')] : PySem.W.Frag).lookup a = some o := e
      rw [List.lookup_cons] at e
      cases w : (a == cStatics) with
      | true =>
        rw [w] at e
        rw [beq_iff_eq.mp w, z]
        exact e
      | false => rw [w] at e; cases e
def obsY (n : Nat) (fa : List He.Fa) (fn : List He.DefD) (ts : List Tb) (fc : List FcD) (ext : PySem.W.Frag → Bool) (g : Addr → Option Obj) : AlY :=
  let K := kOfY g n ts
  ((ext K && tabB g K ts, He.obsD fa fn K), fc.map fun d => fcOf K (He.fAd K d.at_))
def valY (fn : List He.DefD) (fc : List FcD) : AlY := ((true, He.valD fn), fc.map FcD.val)
structure SaysY (fa : List He.Fa) (fn : List He.DefD) (ts : List Tb) (fc : List FcD) (ext : PySem.W.Frag → Bool) (K : PySem.W.Frag) (tb : Addr → Addr) (h : Heap) : Prop where
  s : Says fa fn ts ext K tb h
  f : (fc.map fun d => fcOf K (He.fAd K d.at_)) = fc.map FcD.val
def hookY (n : Nat) (fa : List He.Fa) (fn : List He.DefD) (ts : List Tb) (fc : List FcD) (ext : PySem.W.Frag → Bool) : PySem.W.Hook where
  α := AlY
  obs := fun s => obsY n fa fn ts fc ext s.heap.get?
  val := fun _ => valY fn fc
  says := fun _ h => ∃ K tb, SaysY fa fn ts fc ext K tb h
  of := fun w s e => by
    have e1 : ((ext (kOfY s.heap.get? n ts) && tabB s.heap.get? (kOfY s.heap.get? n ts) ts, He.obsD fa fn (kOfY s.heap.get? n ts)) : AlX) = (true, He.valD fn) := congrArg (fun z : AlY => z.1) e
    have e2 : (fc.map fun d => fcOf (kOfY s.heap.get? n ts) (He.fAd (kOfY s.heap.get? n ts) d.at_)) = fc.map FcD.val := congrArg (fun z : AlY => z.2) e
    exact ⟨kOfY s.heap.get? n ts, tabOf s.heap.get?, saysX_of e1, e2⟩
  keeps := fun w h h' ⟨K, tb, S, f⟩ k => ⟨K, tb, saysX_keeps S k, f⟩
where
  saysX_of {n : Nat} {fa : List He.Fa} {fn : List He.DefD} {ts : List Tb} {ext : PySem.W.Frag → Bool} {s : Shared} (e : ((ext (kOfY s.heap.get? n ts) && tabB s.heap.get? (kOfY s.heap.get? n ts) ts, He.obsD fa fn (kOfY s.heap.get? n ts)) : AlX) = (true, He.valD fn)) : Says fa fn ts ext (kOfY s.heap.get? n ts) (tabOf s.heap.get?) s.heap := by
    have e1 : (ext (kOfY s.heap.get? n ts) && tabB s.heap.get? (kOfY s.heap.get? n ts) ts) = true := congrArg (fun z : AlX => z.1) e
    have e2 : He.obsD fa fn (kOfY s.heap.get? n ts) = He.valD fn := congrArg (fun z : AlX => z.2) e
    obtain ⟨a1, a2⟩ := Bool.and_eq_true_iff.mp e1
    obtain ⟨a3, a4⟩ := Bool.and_eq_true_iff.mp a2
    have a3 := List.all_eq_true.mp a3
    have a4 := List.all_eq_true.mp a4
    refine ⟨kOfY_in, e2, a1, fun t ht => ?_, fun t ht => ?_, fun t ht => ?_, fun t ht => ?_, fun t ht u hu ee => ?_⟩
    · have k := (Bool.and_eq_true_iff.mp (a3 t ht)).1
      unfold codeOf
      unfold isRef at k
      split at k
      · rename_i c z; rw [z]
      · cases k
    · have k := (Bool.and_eq_true_iff.mp (Bool.and_eq_true_iff.mp (a3 t ht)).2).1
      unfold noneB at k
      split at k
      · rename_i z; exact z
      · cases k
    · exact emptyB_ok (Bool.and_eq_true_iff.mp (Bool.and_eq_true_iff.mp (Bool.and_eq_true_iff.mp (a3 t ht)).2).2).1
    · exact codeHdB_ok (Bool.and_eq_true_iff.mp (Bool.and_eq_true_iff.mp (Bool.and_eq_true_iff.mp (a3 t ht)).2).2).2
    · have k := List.all_eq_true.mp (a4 t ht) u hu
      rw [ee, beq_self_eq_true] at k
      exact of_decide_eq_true (by simpa using k)
  saysX_keeps {fa : List He.Fa} {fn : List He.DefD} {ts : List Tb} {ext : PySem.W.Frag → Bool} {K : PySem.W.Frag} {tb : Addr → Addr} {h h' : Heap} (S : Says fa fn ts ext K tb h) (k : ∀ b o, h.get? b = some o → h'.get? b = some o) : Says fa fn ts ext K tb h' :=
    ⟨PySem.W.Frag.In.keeps S.i k, S.s, S.x, S.c, S.n, fun t ht => k _ _ (S.e t ht), fun t ht => by
      obtain ⟨o, vs, f, tf, fl, tg, inF, tx, tt, e, r⟩ := S.d t ht
      exact ⟨o, vs, f, tf, fl, tg, inF, tx, tt, k _ _ e, r⟩, S.a⟩
theorem obsY_eq {n : Nat} {fa : List He.Fa} {fn : List He.DefD} {ts : List Tb} {fc : List FcD} {ext : PySem.W.Frag → Bool} {g : Addr → Option Obj} {s : Shared} (h : ∀ a, g a = s.heap.get? a) : obsY n fa fn ts fc ext g = (hookY n fa fn ts fc ext).obs s := by
  have e : g = s.heap.get? := funext h
  rw [e] <;> rfl
/-! ### BadText -/
def oexB (K : PySem.W.Frag) (C : Addr) : Bool := match K.lookup C with
  | some ⟨.type T, dd, .cls ⟨nm, bs, mro, ns, qn, hd, sn, sub, ab, col, del⟩, sl⟩ => (match mro, sl.toList with
    | .ref C' :: bm, [k0, k1, k2, k3, some (.builtin n), k5] => decide (T = "type") && (decide (C' = C) && (decide (n = "ValueError.__new__") && (!del && (hd && PySem.HandSPX.refsVE bm))))
    | _, _ => false)
  | _ => false
theorem oexB_ok {K : PySem.W.Frag} {C : Addr} (h : oexB K C = true) : ∃ nm q N bs bm sn sub ab col dd k0 k1 k2 k3 k5, K.lookup C = some (excClassObj nm q C N bs bm true sn sub ab col dd k0 k1 k2 k3 k5 "ValueError.__new__") ∧ PySem.HandSPX.refsVE bm = true := by
  unfold oexB at h
  split at h
  · rename_i T dd nm bs mro ns qn hd sn sub ab col del sl ho
    split at h
    · rename_i C' bm k0 k1 k2 k3 n k5 hs
      simp only [Bool.and_eq_true, decide_eq_true_eq, Bool.not_eq_true'] at h
      obtain ⟨h1, h2, h3, h4, h5, h6⟩ := h
      subst h1 h2 h3 h4 h5
      have e : sl = #[k0, k1, k2, k3, some (.builtin "ValueError.__new__"), k5] := by
        rw [← Array.toList_inj, hs]
      subst e
      exact ⟨nm, qn, ns, bs, bm, sn, sub, ab, col, dd, k0, k1, k2, k3, k5, ho, h6⟩
    · cases h
  · cases h
def btB (P : Program) (K : PySem.W.Frag) (C : Addr) : Bool :=
  oexB K C && (decide (PySem.W.findIn K (.ref C) "__setattr__" = some (some (.builtin "object.__setattr__"))) && (decide (PySem.W.subIn K (.ref C) (.type "BaseException") = some true) && (decide (PySem.W.typeIn K (.ref C) = some (.type "type")) && (PySem.W.keepIn K (.ref C) &&
  (decide (PySem.W.findIn K (.ref C) "row" = some none) && (PySem.W.excInitIn K C [.type "ValueError", .type "Exception", .type "BaseException", .type "object"] "ValueError.__new__" && (decide (PySem.W.ks_superIn K C C "__init__" = some (some (.builtin "ValueError.__init__"))) &&
  (decide (PySem.W.subIn K (.ref C) (.type "ValueError") = some true) && (decide (PySem.W.mroIn K C (.ref C) = some true) && (decide (PySem.W.nsIn K cStatics "thirdparty.any" = some none) && (decide (PySem.W.nsIn K mainGlobals "super" = some none) && !(P.main.scope.names.lookup ("super" : Str)).isSome)))))))))))
theorem btB_ok {P : Program} {K : PySem.W.Frag} {C : Addr} (h : btB P K C = true) : BtC P K C := by
  unfold btB at h
  simp only [Bool.and_eq_true, decide_eq_true_eq, Bool.not_eq_true'] at h
  obtain ⟨h0, h1, h2, h3, h4, h5, h6, h7, h8, h9, h10, h11, h12⟩ := h
  exact ⟨⟨oexB_ok h0, h1, h2, h3, h4⟩, h5, h6, h7, h8, h9, h10, h11, h12⟩
def bfB (P : Program) (K : PySem.W.Frag) (C fI : Addr) : Bool :=
  decide (PySem.W.findIn K (.ref C) "__init__" = some (some (.ref fI))) && (decide (PySem.W.typeIn K (.ref fI) = some (.type "function")) && (match K.lookup fI with
    | some ⟨_, _, .func fd, _⟩ => decide (fd.globals = mainGlobals) && (decide (fd.builtins = builtinsNs) && (decide (fd.defaults = .none) && (decide (fd.kwdefaults = .none) && match fd.code, fd.closure with
      | .ref cda, [(cn, cc)] => decide (cn = "__class__") && (PySem.W.codeIn K (.ref cda) fd.qualname && ((match K.lookup cda with
        | some ⟨_, _, .fields vs, _⟩ => (match (vs[2]? : Option Value) with
          | some (.str file _) => (P.main.file : Str) == file
          | _ => false)
        | _ => false) && (match K.lookup cc with
        | some ⟨_, _, .cell (some (.ref D)), _⟩ => decide (D = C)
        | _ => false)))
      | _, _ => false)))
    | _ => false))
/-- what the written def says of itself -/
structure BtS (params : Arguments) (body : List Stmt) (scope : Scope) : Prop where
  bind : ∀ (s : Shared) (name qual : Str) (doc pm ct cdv : Value) (an : Option Addr) (cc : Addr) (e n : Value), BindsTo s (PySem.W.ksFn name qual params body scope .none .none doc pm an cdv ct cc) ⟨[e, n], []⟩ [("self", e), ("row", n)]
  ar : ∃ ar : Arg, (params.posonlyargs ++ params.args).head? = some ar ∧ ar.arg = ("self" : Str)
  body : ∃ p0 p1 p2 p3 p4 p5 q0 q1 q2 q3 j tx, body = btBody p0 p1 p2 p3 p4 p5 q0 q1 q2 q3 j tx ∧ ∀ (qual : Str) (L f : Addr) (cdv : Value) (cc : Addr), ∃ pl : Sem Bool, eval (.Call (.Attribute (.Call (.Name "super" p0) [] [] p1) "__init__" p2) [.Constant (.str tx) j p3] [] p4) (PySem.W.ksEnv qual scope L f cdv cc) = (do
    let ov ← attributeBase (.Call (.Name "super" p0) [] [] p1) "__init__" (PySem.W.ksEnv qual scope L f cdv cc) (eval (.Call (.Name "super" p0) [] [] p1) (PySem.W.ksEnv qual scope L f cdv cc))
    standAt p2.atName
    let (f', first) ← holding [ov] (getMethod ov "__init__" pl)
    PySem.callWith p4 f' first (backTo p4 (starEach [.Constant (.str tx) j p3] (PySem.W.ksEnv qual scope L f cdv cc))) [])
  inter : ∀ (qual : Str) (L f : Addr) (cdv : Value) (cc : Addr), interactive (PySem.W.ksEnv qual scope L f cdv cc) = false
  kind : scope.kind = .function
  co : scope.isCoroutine = false
  gen : scope.isGenerator = false
  nocell : ∀ x ∈ scope.names, x.2 ≠ .cell
  sup : scope.names.lookup ("super" : Str) = some .globalImplicit
  cls : scope.names.lookup ("__class__" : Str) = some .free
  self_ : scope.names.lookup ("self" : Str) = some .local
  row : scope.names.lookup ("row" : Str) = some .local
theorem btF_of {P : Program} {K : PySem.W.Frag} {C fI : Addr} {params : Arguments} {body : List Stmt} {scope : Scope} (h : bfB P K C fI = true) (e : fcOf K fI = some (params, .stmts body, scope)) (S : BtS params body scope) : BtF P K C fI params body scope := by
  unfold bfB at h
  obtain ⟨h1, h⟩ := Bool.and_eq_true_iff.mp h
  obtain ⟨h2, h⟩ := Bool.and_eq_true_iff.mp h
  refine ⟨of_decide_eq_true h1, of_decide_eq_true h2, ?_, S.bind, S.ar, S.body, S.inter, S.kind, S.co, S.gen, S.nocell, S.sup, S.cls, S.self_, S.row⟩
  unfold fcOf at e
  split at h
  · rename_i oc od fd osl lk
    rw [lk] at e
    obtain ⟨h3, h⟩ := Bool.and_eq_true_iff.mp h
    obtain ⟨h4, h⟩ := Bool.and_eq_true_iff.mp h
    obtain ⟨h10, h⟩ := Bool.and_eq_true_iff.mp h
    obtain ⟨h11, h⟩ := Bool.and_eq_true_iff.mp h
    obtain ⟨n1, n2, n3, n4, n5, n6, n7, n8, n9, n10, n11, n12, n13, n14, n15⟩ := fd
    have e : (some (n3, n4, n5) : FcV) = some (params, .stmts body, scope) := e
    simp only [Option.some.injEq, Prod.mk.injEq] at e
    obtain ⟨e1, e2, e3⟩ := e
    have g6 : n6 = mainGlobals := of_decide_eq_true h3
    have g15 : n15 = builtinsNs := of_decide_eq_true h4
    have g8 : n8 = .none := of_decide_eq_true h10
    have g9 : n9 = .none := of_decide_eq_true h11
    clear h3 h4 h10 h11
    subst e1 e2 e3 g6 g15 g8 g9
    dsimp only at h
    split at h
    · rename_i cda cn cc _ _ _ _
      obtain ⟨h5, h⟩ := Bool.and_eq_true_iff.mp h
      obtain ⟨h6, h⟩ := Bool.and_eq_true_iff.mp h
      obtain ⟨h7, h8⟩ := Bool.and_eq_true_iff.mp h
      have h5 : cn = ("__class__" : Str) := of_decide_eq_true h5
      subst h5
      refine ⟨oc, od, osl, n1, n2, n10, n11, n14, n12, cda, cc, lk, h6, ?_, ?_⟩
      · split at h7
        · rename_i ccl cdd vs ccs lkc
          split at h7
          · rename_i file tf hv
            exact ⟨ccl, cdd, vs, ccs, file, tf, lkc, hv, h7⟩
          · cases h7
        · cases h7
      · split at h8
        · rename_i cl cld D csl lkd
          have h8 : D = C := of_decide_eq_true h8
          subst h8
          exact ⟨cl, cld, csl, lkd⟩
        · cases h8
    · cases h
  · cases h
/-! ### _law_under -/
def excCB (K : PySem.W.Frag) (D : Addr) : Bool :=
  decide (PySem.W.findIn K (.ref D) "__getattribute__" = some (some (.builtin "BaseException.__getattribute__"))) && (decide (PySem.W.findIn K (.ref D) "__getattr__" = some none) && (decide (PySem.W.subIn K (.ref D) (.type "BaseException") = some true) && (PySem.W.hasDictIn K D &&
  (decide (PySem.W.findIn K (.ref D) "__class__" = some (some (.builtin "object.__class__"))) && (decide (PySem.W.specialIn K (.builtin "object.__class__") "__get__" = some (some (.builtin "getset_descriptor.__get__"))) && (decide (PySem.W.takesIn K (.builtin "object.__class__") = some true) && decide (PySem.W.mroIn K D (.type "object") = some true)))))))
theorem excCB_ok {K : PySem.W.Frag} {D : Addr} (h : excCB K D = true) : ExcC K D := by
  unfold excCB at h
  simp only [Bool.and_eq_true, decide_eq_true_eq] at h
  obtain ⟨h1, h2, h3, h4, h5, h6, h7, h8⟩ := h
  exact ⟨h1, h2, h3, h4, h5, h6, h7, h8⟩
def undB (K : PySem.W.Frag) (tf : Addr) : Bool := reps.all fun x => decide (PySem.W.exmOne K (.ref (cK K x)) (.ref tf) = some true) && (decide (PySem.W.kitOne K (.ref (cK K x)) (.type "ValueError") = some true) && (excCB K (cK K x) &&
  reps.all fun y => decide (PySem.W.kitOne K (.ref (cK K x)) (.ref (cK K y)) = some (decide (x.no = y.no)))))
theorem undB_ok {K : PySem.W.Frag} {tf : Addr} (h : undB K tf = true) : UndK K (cK K) tf := by
  have k := fun x : Ex => List.all_eq_true.mp h (rep x) (rep_mem x)
  simp only [Bool.and_eq_true, decide_eq_true_eq, rep_cK] at k
  refine ⟨fun x => (k x).1, fun x y => ?_, fun x => (k x).2.1, fun x => excCB_ok (k x).2.2.1⟩
  have z := of_decide_eq_true (List.all_eq_true.mp (k x).2.2.2 (rep y) (rep_mem y))
  rw [rep_cK, rep_no, rep_no] at z
  exact z
end TH
set_option Elab.async false
set_option linter.all false
set_option maxRecDepth 100000
set_option maxHeartbeats 2000000
/-! TB120: the facts of _law_under, of BadText. -/
namespace TH
open PySem PySem.Spec PyProof.Rows L2
abbrev l00 : LamI := ⟨⟨[], [], none, [], [], none, []⟩, .Name "x" ⟨0, 0, 0, 0⟩, ⟨.function, [], false, false, []⟩⟩
theorem und_of {K : PySem.W.Frag} {mg : Str → Option Value} {X : Cx} {st : Stmt} {f : Addr} {fd : FuncData} (hK : X.K = K) (hm : X.mg = mg) (F : FunD K "_law_under" "_law_under" (defArgs st) (defBody st) (defScope st) [] [] f fd) (g : mg "_law_under" = some (.ref f)) (b : Binds K fd ["what"] [])
    (u : undB K (He.ga K "TentFault") = true) (gt : mg "TentFault" = some (.ref (He.ga K "TentFault"))) (ve : mg "ValueError" = none) (is : mg "isinstance" = none)
    (g0 : mg "BadSize" = some (.ref (He.ga K "BadSize"))) (g1 : mg "BadPlan" = some (.ref (He.ga K "BadPlan"))) (g2 : mg "NoSuch" = some (.ref (He.ga K "NoSuch"))) (g3 : mg "NoRoom" = some (.ref (He.ga K "NoRoom"))) (g4 : mg "NoWay" = some (.ref (He.ga K "NoWay"))) (g5 : mg "Gives" = some (.ref (He.ga K "Gives"))) (g6 : mg "BadText" = some (.ref (He.ga K "BadText"))) (g7 : mg "BadDeed" = some (.ref (He.ga K "BadDeed")))
    (bd : ∃ a0 b0 c0 d0 a1 b1 c1 d1 a2 b2 c2 d2 a3 b3 c3 d3 a4 b4 c4 d4 a5 b5 c5 d5 a6 b6 c6 d6 a7 b7 c7 d7 a8 b8 c8 d8 s0 s1 s2 s3 s4 s5 s6 s7 s8 s9 u0 u1 p1 p2 p3 p4 p5 p6 p7 p8, defBody st = underB a0 b0 c0 d0 a1 b1 c1 d1 a2 b2 c2 d2 a3 b3 c3 d3 a4 b4 c4 d4 a5 b5 c5 d5 a6 b6 c6 d6 a7 b7 c7 d7 a8 b8 c8 d8 s0 s1 s2 s3 s4 s5 s6 s7 s8 s9 u0 u1 p1 p2 p3 p4 p5 p6 p7 p8) (sg : FnScope ["what", "e", "some"] ["what"] (defScope st))
    (ge : ∀ e ∈ (["BadSize", "BadPlan", "NoSuch", "NoRoom", "NoWay", "Gives", "BadText", "BadDeed", "ValueError", "isinstance", "TentFault"] : List Str), (defScope st).names.lookup e = some .globalImplicit) (le : (defScope st).names.lookup ("e" : Str) = some .local) (ls : (defScope st).names.lookup ("some" : Str) = some .local) (va : Vis (defScope st) "what") : UndF X (cK K) st := by
  subst hK hm
  obtain ⟨oc, od, dV, kV, doc, pm, an, cdv, ct, osl, e, lk, hcd, hD, _⟩ := F.ex
  have ed : dV = .none := by
    rcases hD with ⟨_, z⟩ | ⟨z, _⟩
    · exact z
    · exact absurd rfl z
  subst ed
  exact ⟨⟨f, fd, ⟨⟨oc, od, kV, doc, pm, an, cdv, ct, osl, e, lk, hcd⟩, F.kp⟩, g, b⟩, ⟨_, undB_ok u, gt⟩, ⟨g0, g1, g2, g3, g4, g5, g6, g7⟩, ve, is, bd, sg, ge, le, ls, va⟩
end TH
set_option Elab.async false
set_option linter.all false
set_option maxRecDepth 100000
set_option maxHeartbeats 400000
namespace K21
open PySem PySem.Spec PyProof.Rows L2 TH
abbrev PR : Program := PySem.Challenge.pw_tenthall_k21_refusals_apart
def top (i : Nat) : Stmt := PR.main.body.getD i (.Pass ⟨0, 0, 0, 0⟩)
abbrev st_law_dice : Stmt := top 31
abbrev d_law_dice : He.DefD := ⟨("_law_dice", none), "_law_dice", "_law_dice", defArgs st_law_dice, defBody st_law_dice, defScope st_law_dice, [], []⟩
abbrev st_law_rounds : Stmt := top 33
abbrev d_law_rounds : He.DefD := ⟨("_law_rounds", none), "_law_rounds", "_law_rounds", defArgs st_law_rounds, defBody st_law_rounds, defScope st_law_rounds, [], []⟩
abbrev st_law_roll : Stmt := top 32
abbrev d_law_roll : He.DefD := ⟨("_law_roll", none), "_law_roll", "_law_roll", defArgs st_law_roll, defBody st_law_roll, defScope st_law_roll, [], []⟩
abbrev st_Desk_init : Stmt := inner (top 24) 0
abbrev d_Desk_init : He.DefD := ⟨("Desk", some "__init__"), "__init__", "Desk.__init__", defArgs st_Desk_init, defBody st_Desk_init, defScope st_Desk_init, [], []⟩
abbrev st_Desk_undo : Stmt := inner (top 24) 5
abbrev d_Desk_undo : He.DefD := ⟨("Desk", some "undo"), "undo", "Desk.undo", defArgs st_Desk_undo, defBody st_Desk_undo, defScope st_Desk_undo, [], []⟩
abbrev st_Cloth_init : Stmt := inner (top 16) 0
abbrev d_Cloth_init : He.DefD := ⟨("Cloth", some "__init__"), "__init__", "Cloth.__init__", defArgs st_Cloth_init, defBody st_Cloth_init, defScope st_Cloth_init, [], []⟩
abbrev st_thunder_far : Stmt := top 29
abbrev d_thunder_far : He.DefD := ⟨("thunder_far", none), "thunder_far", "thunder_far", defArgs st_thunder_far, defBody st_thunder_far, defScope st_thunder_far, [], []⟩
abbrev st_read_row : Stmt := top 21
abbrev d_read_row : He.DefD := ⟨("read_row", none), "read_row", "read_row", defArgs st_read_row, defBody st_read_row, defScope st_read_row, [], []⟩
abbrev st_fly_overhang : Stmt := top 17
abbrev d_fly_overhang : He.DefD := ⟨("fly_overhang", none), "fly_overhang", "fly_overhang", defArgs st_fly_overhang, defBody st_fly_overhang, defScope st_fly_overhang, [], []⟩
abbrev st_DryLine_init : Stmt := inner (top 28) 0
abbrev d_DryLine_init : He.DefD := ⟨("DryLine", some "__init__"), "__init__", "DryLine.__init__", defArgs st_DryLine_init, defBody st_DryLine_init, defScope st_DryLine_init, [], []⟩
abbrev st_DryLine_taken : Stmt := inner (top 28) 2
abbrev d_DryLine_taken : He.DefD := ⟨("DryLine", some "taken"), "taken", "DryLine.taken", defArgs st_DryLine_taken, defBody st_DryLine_taken, defScope st_DryLine_taken, [], []⟩
abbrev st_DryLine_hang : Stmt := inner (top 28) 1
abbrev d_DryLine_hang : He.DefD := ⟨("DryLine", some "hang"), "hang", "DryLine.hang", defArgs st_DryLine_hang, defBody st_DryLine_hang, defScope st_DryLine_hang, [], []⟩
abbrev st_wood_of : Stmt := top 13
abbrev d_wood_of : He.DefD := ⟨("wood_of", none), "wood_of", "wood_of", defArgs st_wood_of, defBody st_wood_of, defScope st_wood_of, [], []⟩
abbrev st_arc_height : Stmt := top 26
abbrev d_arc_height : He.DefD := ⟨("arc_height", none), "arc_height", "arc_height", defArgs st_arc_height, defBody st_arc_height, defScope st_arc_height, [], []⟩
abbrev st_law_under : Stmt := top 34
abbrev d_law_under : He.DefD := ⟨("_law_under", none), "_law_under", "_law_under", defArgs st_law_under, defBody st_law_under, defScope st_law_under, [], []⟩
abbrev st_Fire_init : Stmt := inner (top 14) 0
abbrev d_Fire_init : He.DefD := ⟨("Fire", some "__init__"), "__init__", "Fire.__init__", defArgs st_Fire_init, defBody st_Fire_init, defScope st_Fire_init, [], []⟩
abbrev st_Fire_shown : Stmt := inner (top 14) 8
abbrev d_Fire_shown : He.DefD := ⟨("Fire", some "shown"), "shown", "Fire.shown", defArgs st_Fire_shown, defBody st_Fire_shown, defScope st_Fire_shown, [], []⟩
abbrev st_law : Stmt := top 35
abbrev d_law : He.DefD := ⟨("law", none), "law", "law", defArgs st_law, defBody st_law, defScope st_law, [], []⟩
def fn : List He.DefD := [d_law_dice, d_law_rounds, d_law_roll, d_Desk_init, d_Desk_undo, d_Cloth_init, d_thunder_far, d_read_row, d_fly_overhang, d_DryLine_init, d_DryLine_taken, d_DryLine_hang, d_wood_of, d_arc_height, d_law_under, d_Fire_init, d_Fire_shown, d_law]
def fa : List He.Fa := [.glo "BadText", .free "abs", .free "int", .glo "_law_dice", .glo "_law_rounds", .glo "_law_roll", .cls "Desk", .noat "Desk" "undone", .noat "Desk" "deeds", .noat "Desk" "text", .mkr "Desk", .glo "Desk", .exc "BadDeed", .glo "BadDeed", .meth "Desk" "undo", .free "min", .free "any", .exc "BadPlan", .glo "BadPlan", .free "sorted", .free "tuple", .free "dict", .cls "Cloth", .noat "Cloth" "panels", .noat "Cloth" "tight", .mkr "Cloth", .glo "Cloth", .exc "BadSize", .glo "BadSize", .glo "thunder_far", .free "len", .glo "read_row", .exc "Gives", .glo "Gives", .glo "fly_overhang", .cls "DryLine", .noat "DryLine" "things", .noat "DryLine" "long", .mkr "DryLine", .glo "DryLine", .free "sum", .meth "DryLine" "taken", .exc "NoRoom", .glo "NoRoom", .meth "DryLine" "hang", .glo "WOODS", .exc "NoSuch", .glo "NoSuch", .glo "wood_of", .exc "NoWay", .glo "NoWay", .glo "arc_height", .glo "TentFault", .glo "_law_under", .free "ValueError", .free "isinstance", .free "range", .cls "Fire", .noat "Fire" "lit", .noat "Fire" "ash", .noat "Fire" "logs", .noat "Fire" "holds", .mkr "Fire", .glo "Fire", .meth "Fire" "shown", .glo "law"]
abbrev f0 (p : List Int) : D := D.lst (p.map D.int)
abbrev f1 (p : List (List Int)) : D := D.lst (p.map f0)
abbrev f2 (p : Str × Str) : D := D.tup [D.str p.1, D.str p.2]
abbrev f3 (p : List (Str × Str)) : D := D.lst (p.map f2)
abbrev f4 (p : Int × Int) : D := D.tupH [D.int p.1, D.int p.2]
abbrev f5 (p : List (Str × (Int × Int))) : D := D.dic false (p.map fun q : Str × (Int × Int) => D.str q.1) (p.map fun q : Str × (Int × Int) => f4 q.2)
abbrev f6 (p : List Str) : D := D.lst (p.map D.str)
abbrev f7 (p : Str × (Int × Int)) : D := D.tup [D.str p.1, f4 p.2]
abbrev f8 (p : List (Str × (Int × Int))) : D := D.lst (p.map f7)
abbrev f9 (p : Str × Int) : D := D.tup [D.str p.1, D.int p.2]
abbrev f10 (p : List (Str × Int)) : D := D.lst (p.map f9)
abbrev f11 (p : Str × Int × Int) : D := D.tup [D.str p.1, D.int p.2.1, D.int p.2.2]
abbrev f12 (p : List (Str × Int × Int)) : D := D.tup (p.map f11)
abbrev f13 (p : Int × Int) : D := D.tup [D.int p.1, D.int p.2]
abbrev f14 (p : List Bool) : D := D.lst (p.map D.bl)
abbrev f15 (p : List (Str × Int)) : D := D.tup (p.map f9)
abbrev f16 (p : Bool × (List (Str × Int)) × Int) : D := D.tup [D.bl p.1, f15 p.2.1, D.int p.2.2]
abbrev c_WOODS : List (Str × Int × Int) := [("straw", 1, 20), ("pine", 4, 12), ("birch", 6, 10), ("oak", 12, 7)]
variable {P : Program} {w : World} {K : PySem.W.Frag} {mg : Str → Option Value} {base : Heap} {TL : List (Addr × Str)}
structure Fx (P : Program) (K : PySem.W.Frag) (mg : Str → Option Value) (base : Heap) (TL : List (Addr × Str)) : Prop where
  s : He.SaysD fa fn K
  i : K.In base
  g : base.Ns mainGlobals mg
  un : undB K (He.ga K "TentFault") = true
  bc : BtC P K (He.ga K "BadText")
  bf : ∃ fI params body scope, BtF P K (He.ga K "BadText") fI params body scope
  k_WOODS : vB K (f12 c_WOODS) (.ref (He.ga K "WOODS")) = true
  t_Cloth_init : ∀ fd, FunD K d_Cloth_init.name d_Cloth_init.qual d_Cloth_init.params d_Cloth_init.body d_Cloth_init.scope [] [] (He.fAd K d_Cloth_init.at_) fd → TabF K mg base TL fd ((d_Cloth_init.qual ++ ".<locals>.") ++ "<genexpr>")
  t_DryLine_taken : ∀ fd, FunD K d_DryLine_taken.name d_DryLine_taken.qual d_DryLine_taken.params d_DryLine_taken.body d_DryLine_taken.scope [] [] (He.fAd K d_DryLine_taken.at_) fd → TabF K mg base TL fd ((d_DryLine_taken.qual ++ ".<locals>.") ++ "<genexpr>")
  t_law : ∀ fd, FunD K d_law.name d_law.qual d_law.params d_law.body d_law.scope [] [] (He.fAd K d_law.at_) fd → TabF K mg base TL fd ((d_law.qual ++ ".<locals>.") ++ "<lambda>")
theorem gl_BadText (F : Fx P K mg base TL) : mg "BadText" = some (.ref (He.ga K "BadText")) := He.glo_ok F.i F.g (F.s.fact 0 (f := .glo "BadText") rfl)
theorem fr_abs (F : Fx P K mg base TL) : mg "abs" = none := He.free_ok F.i F.g (F.s.fact 1 (f := .free "abs") rfl)
theorem fr_int (F : Fx P K mg base TL) : mg "int" = none := He.free_ok F.i F.g (F.s.fact 2 (f := .free "int") rfl)
theorem gl__law_dice (F : Fx P K mg base TL) : mg "_law_dice" = some (.ref (He.ga K "_law_dice")) := He.glo_ok F.i F.g (F.s.fact 3 (f := .glo "_law_dice") rfl)
theorem gl__law_rounds (F : Fx P K mg base TL) : mg "_law_rounds" = some (.ref (He.ga K "_law_rounds")) := He.glo_ok F.i F.g (F.s.fact 4 (f := .glo "_law_rounds") rfl)
theorem gl__law_roll (F : Fx P K mg base TL) : mg "_law_roll" = some (.ref (He.ga K "_law_roll")) := He.glo_ok F.i F.g (F.s.fact 5 (f := .glo "_law_roll") rfl)
theorem cls_Desk (F : Fx P K mg base TL) : Cls K (He.ga K "Desk") := He.cls_ok (F.s.fact 6 (f := .cls "Desk") rfl)
theorem noat_Desk_undone (F : Fx P K mg base TL) : NoAttr K (He.ga K "Desk") "undone" := He.noat_ok (F.s.fact 7 (f := .noat "Desk" "undone") rfl)
theorem noat_Desk_deeds (F : Fx P K mg base TL) : NoAttr K (He.ga K "Desk") "deeds" := He.noat_ok (F.s.fact 8 (f := .noat "Desk" "deeds") rfl)
theorem noat_Desk_text (F : Fx P K mg base TL) : NoAttr K (He.ga K "Desk") "text" := He.noat_ok (F.s.fact 9 (f := .noat "Desk" "text") rfl)
theorem mk_Desk (F : Fx P K mg base TL) : Mk K (He.ga K "Desk") (He.ma K (He.ga K "Desk") "__init__") := He.mkr_ok (F.s.fact 10 (f := .mkr "Desk") rfl)
theorem gl_Desk (F : Fx P K mg base TL) : mg "Desk" = some (.ref (He.ga K "Desk")) := He.glo_ok F.i F.g (F.s.fact 11 (f := .glo "Desk") rfl)
theorem gl_BadDeed (F : Fx P K mg base TL) : mg "BadDeed" = some (.ref (He.ga K "BadDeed")) := He.glo_ok F.i F.g (F.s.fact 13 (f := .glo "BadDeed") rfl)
theorem me_Desk_undo (F : Fx P K mg base TL) : Meth K (He.ga K "Desk") "undo" (He.ma K (He.ga K "Desk") "undo") := He.meth_ok (F.s.fact 14 (f := .meth "Desk" "undo") rfl)
theorem fr_min (F : Fx P K mg base TL) : mg "min" = none := He.free_ok F.i F.g (F.s.fact 15 (f := .free "min") rfl)
theorem fr_any (F : Fx P K mg base TL) : mg "any" = none := He.free_ok F.i F.g (F.s.fact 16 (f := .free "any") rfl)
theorem gl_BadPlan (F : Fx P K mg base TL) : mg "BadPlan" = some (.ref (He.ga K "BadPlan")) := He.glo_ok F.i F.g (F.s.fact 18 (f := .glo "BadPlan") rfl)
theorem fr_sorted (F : Fx P K mg base TL) : mg "sorted" = none := He.free_ok F.i F.g (F.s.fact 19 (f := .free "sorted") rfl)
theorem fr_tuple (F : Fx P K mg base TL) : mg "tuple" = none := He.free_ok F.i F.g (F.s.fact 20 (f := .free "tuple") rfl)
theorem fr_dict (F : Fx P K mg base TL) : mg "dict" = none := He.free_ok F.i F.g (F.s.fact 21 (f := .free "dict") rfl)
theorem cls_Cloth (F : Fx P K mg base TL) : Cls K (He.ga K "Cloth") := He.cls_ok (F.s.fact 22 (f := .cls "Cloth") rfl)
theorem noat_Cloth_panels (F : Fx P K mg base TL) : NoAttr K (He.ga K "Cloth") "panels" := He.noat_ok (F.s.fact 23 (f := .noat "Cloth" "panels") rfl)
theorem noat_Cloth_tight (F : Fx P K mg base TL) : NoAttr K (He.ga K "Cloth") "tight" := He.noat_ok (F.s.fact 24 (f := .noat "Cloth" "tight") rfl)
theorem mk_Cloth (F : Fx P K mg base TL) : Mk K (He.ga K "Cloth") (He.ma K (He.ga K "Cloth") "__init__") := He.mkr_ok (F.s.fact 25 (f := .mkr "Cloth") rfl)
theorem gl_Cloth (F : Fx P K mg base TL) : mg "Cloth" = some (.ref (He.ga K "Cloth")) := He.glo_ok F.i F.g (F.s.fact 26 (f := .glo "Cloth") rfl)
theorem gl_BadSize (F : Fx P K mg base TL) : mg "BadSize" = some (.ref (He.ga K "BadSize")) := He.glo_ok F.i F.g (F.s.fact 28 (f := .glo "BadSize") rfl)
theorem gl_thunder_far (F : Fx P K mg base TL) : mg "thunder_far" = some (.ref (He.ga K "thunder_far")) := He.glo_ok F.i F.g (F.s.fact 29 (f := .glo "thunder_far") rfl)
theorem fr_len (F : Fx P K mg base TL) : mg "len" = none := He.free_ok F.i F.g (F.s.fact 30 (f := .free "len") rfl)
theorem gl_read_row (F : Fx P K mg base TL) : mg "read_row" = some (.ref (He.ga K "read_row")) := He.glo_ok F.i F.g (F.s.fact 31 (f := .glo "read_row") rfl)
theorem gl_Gives (F : Fx P K mg base TL) : mg "Gives" = some (.ref (He.ga K "Gives")) := He.glo_ok F.i F.g (F.s.fact 33 (f := .glo "Gives") rfl)
theorem gl_fly_overhang (F : Fx P K mg base TL) : mg "fly_overhang" = some (.ref (He.ga K "fly_overhang")) := He.glo_ok F.i F.g (F.s.fact 34 (f := .glo "fly_overhang") rfl)
theorem cls_DryLine (F : Fx P K mg base TL) : Cls K (He.ga K "DryLine") := He.cls_ok (F.s.fact 35 (f := .cls "DryLine") rfl)
theorem noat_DryLine_things (F : Fx P K mg base TL) : NoAttr K (He.ga K "DryLine") "things" := He.noat_ok (F.s.fact 36 (f := .noat "DryLine" "things") rfl)
theorem noat_DryLine_long (F : Fx P K mg base TL) : NoAttr K (He.ga K "DryLine") "long" := He.noat_ok (F.s.fact 37 (f := .noat "DryLine" "long") rfl)
theorem mk_DryLine (F : Fx P K mg base TL) : Mk K (He.ga K "DryLine") (He.ma K (He.ga K "DryLine") "__init__") := He.mkr_ok (F.s.fact 38 (f := .mkr "DryLine") rfl)
theorem gl_DryLine (F : Fx P K mg base TL) : mg "DryLine" = some (.ref (He.ga K "DryLine")) := He.glo_ok F.i F.g (F.s.fact 39 (f := .glo "DryLine") rfl)
theorem fr_sum (F : Fx P K mg base TL) : mg "sum" = none := He.free_ok F.i F.g (F.s.fact 40 (f := .free "sum") rfl)
theorem me_DryLine_taken (F : Fx P K mg base TL) : Meth K (He.ga K "DryLine") "taken" (He.ma K (He.ga K "DryLine") "taken") := He.meth_ok (F.s.fact 41 (f := .meth "DryLine" "taken") rfl)
theorem gl_NoRoom (F : Fx P K mg base TL) : mg "NoRoom" = some (.ref (He.ga K "NoRoom")) := He.glo_ok F.i F.g (F.s.fact 43 (f := .glo "NoRoom") rfl)
theorem me_DryLine_hang (F : Fx P K mg base TL) : Meth K (He.ga K "DryLine") "hang" (He.ma K (He.ga K "DryLine") "hang") := He.meth_ok (F.s.fact 44 (f := .meth "DryLine" "hang") rfl)
theorem gl_WOODS (F : Fx P K mg base TL) : mg "WOODS" = some (.ref (He.ga K "WOODS")) := He.glo_ok F.i F.g (F.s.fact 45 (f := .glo "WOODS") rfl)
theorem gl_NoSuch (F : Fx P K mg base TL) : mg "NoSuch" = some (.ref (He.ga K "NoSuch")) := He.glo_ok F.i F.g (F.s.fact 47 (f := .glo "NoSuch") rfl)
theorem gl_wood_of (F : Fx P K mg base TL) : mg "wood_of" = some (.ref (He.ga K "wood_of")) := He.glo_ok F.i F.g (F.s.fact 48 (f := .glo "wood_of") rfl)
theorem gl_NoWay (F : Fx P K mg base TL) : mg "NoWay" = some (.ref (He.ga K "NoWay")) := He.glo_ok F.i F.g (F.s.fact 50 (f := .glo "NoWay") rfl)
theorem gl_arc_height (F : Fx P K mg base TL) : mg "arc_height" = some (.ref (He.ga K "arc_height")) := He.glo_ok F.i F.g (F.s.fact 51 (f := .glo "arc_height") rfl)
theorem gl_TentFault (F : Fx P K mg base TL) : mg "TentFault" = some (.ref (He.ga K "TentFault")) := He.glo_ok F.i F.g (F.s.fact 52 (f := .glo "TentFault") rfl)
theorem gl__law_under (F : Fx P K mg base TL) : mg "_law_under" = some (.ref (He.ga K "_law_under")) := He.glo_ok F.i F.g (F.s.fact 53 (f := .glo "_law_under") rfl)
theorem fr_ValueError (F : Fx P K mg base TL) : mg "ValueError" = none := He.free_ok F.i F.g (F.s.fact 54 (f := .free "ValueError") rfl)
theorem fr_isinstance (F : Fx P K mg base TL) : mg "isinstance" = none := He.free_ok F.i F.g (F.s.fact 55 (f := .free "isinstance") rfl)
theorem fr_range (F : Fx P K mg base TL) : mg "range" = none := He.free_ok F.i F.g (F.s.fact 56 (f := .free "range") rfl)
theorem cls_Fire (F : Fx P K mg base TL) : Cls K (He.ga K "Fire") := He.cls_ok (F.s.fact 57 (f := .cls "Fire") rfl)
theorem noat_Fire_lit (F : Fx P K mg base TL) : NoAttr K (He.ga K "Fire") "lit" := He.noat_ok (F.s.fact 58 (f := .noat "Fire" "lit") rfl)
theorem noat_Fire_ash (F : Fx P K mg base TL) : NoAttr K (He.ga K "Fire") "ash" := He.noat_ok (F.s.fact 59 (f := .noat "Fire" "ash") rfl)
theorem noat_Fire_logs (F : Fx P K mg base TL) : NoAttr K (He.ga K "Fire") "logs" := He.noat_ok (F.s.fact 60 (f := .noat "Fire" "logs") rfl)
theorem noat_Fire_holds (F : Fx P K mg base TL) : NoAttr K (He.ga K "Fire") "holds" := He.noat_ok (F.s.fact 61 (f := .noat "Fire" "holds") rfl)
theorem mk_Fire (F : Fx P K mg base TL) : Mk K (He.ga K "Fire") (He.ma K (He.ga K "Fire") "__init__") := He.mkr_ok (F.s.fact 62 (f := .mkr "Fire") rfl)
theorem gl_Fire (F : Fx P K mg base TL) : mg "Fire" = some (.ref (He.ga K "Fire")) := He.glo_ok F.i F.g (F.s.fact 63 (f := .glo "Fire") rfl)
theorem me_Fire_shown (F : Fx P K mg base TL) : Meth K (He.ga K "Fire") "shown" (He.ma K (He.ga K "Fire") "shown") := He.meth_ok (F.s.fact 64 (f := .meth "Fire" "shown") rfl)
theorem btx (F : Fx P K mg base TL) {X : Cx} (hK : X.K = K) (hm : X.mg = mg) (hP : X.prog = P) {n : Int} : BtX X "BadText" (cK K (.text n)) := by
  subst hK hm hP
  exact ⟨F.bc, F.bf, gl_BadText F⟩
theorem exc_BadDeed (F : Fx P K mg base TL) {X : Cx} (hK : X.K = K) (hm : X.mg = mg) : ExOk X "BadDeed" (He.ga K "BadDeed") := exOk_of hK hm (gl_BadDeed F) (He.exc_ok (F.s.fact 12 (f := .exc "BadDeed") rfl))
theorem exc_BadPlan (F : Fx P K mg base TL) {X : Cx} (hK : X.K = K) (hm : X.mg = mg) : ExOk X "BadPlan" (He.ga K "BadPlan") := exOk_of hK hm (gl_BadPlan F) (He.exc_ok (F.s.fact 17 (f := .exc "BadPlan") rfl))
theorem exc_BadSize (F : Fx P K mg base TL) {X : Cx} (hK : X.K = K) (hm : X.mg = mg) : ExOk X "BadSize" (He.ga K "BadSize") := exOk_of hK hm (gl_BadSize F) (He.exc_ok (F.s.fact 27 (f := .exc "BadSize") rfl))
theorem exc_Gives (F : Fx P K mg base TL) {X : Cx} (hK : X.K = K) (hm : X.mg = mg) : ExOk X "Gives" (He.ga K "Gives") := exOk_of hK hm (gl_Gives F) (He.exc_ok (F.s.fact 32 (f := .exc "Gives") rfl))
theorem exc_NoRoom (F : Fx P K mg base TL) {X : Cx} (hK : X.K = K) (hm : X.mg = mg) : ExOk X "NoRoom" (He.ga K "NoRoom") := exOk_of hK hm (gl_NoRoom F) (He.exc_ok (F.s.fact 42 (f := .exc "NoRoom") rfl))
theorem exc_NoSuch (F : Fx P K mg base TL) {X : Cx} (hK : X.K = K) (hm : X.mg = mg) : ExOk X "NoSuch" (He.ga K "NoSuch") := exOk_of hK hm (gl_NoSuch F) (He.exc_ok (F.s.fact 46 (f := .exc "NoSuch") rfl))
theorem exc_NoWay (F : Fx P K mg base TL) {X : Cx} (hK : X.K = K) (hm : X.mg = mg) : ExOk X "NoWay" (He.ga K "NoWay") := exOk_of hK hm (gl_NoWay F) (He.exc_ok (F.s.fact 49 (f := .exc "NoWay") rfl))
abbrev N_law_dice : List Str := ["cell"]
theorem sc_law_dice : FnScope N_law_dice ["cell"] (defScope st_law_dice) := ⟨rfl, rfl, rfl, by decide +kernel, rfl, by decide +kernel, by decide +kernel⟩
def law_dice_b (cell_ : Int) : Res Empty (Fl Unit Empty (List Int)) :=
  (if (decide ((0 : Int) - (10 : Int) < cell_) && decide (cell_ < (10 : Int))) = true then (Res.ok (.rt [(if cell_ < 0 then -cell_ else cell_), (0 : Int), (2 : Int)])) else (Res.ok (.rt [cell_, (1 : Int) + (cell_ % (1009 : Int)), (if (decide ((10 : Int) ^ (18 : Int).toNat ≤ cell_)) = true then (1 : Int) else 0)])))
@[irreducible] def law_dice_m (cell_ : Int) : Res Empty (List Int) := (law_dice_b cell_).fin (fun _ => [])
theorem ok_law_dice (F : Fx P K mg base TL) : ∃ f fd, FnOk P w K mg base (L2.CX P w) 1 f fd ["cell"] (spM TL K (cK K) (fun i : Int => [D.int i]) (fun i : Int => []) (fun i : Int => law_dice_m i) (fun (i : Int) (b : List Int) S => S = (f0 b, [])) (fun _ (e : Empty) => e.elim)) ∧ mg "_law_dice" = some (.ref f) ∧ PySem.W.keepIn K (.ref f) = true ∧ Binds K fd ["cell"] [] := by
  obtain ⟨fd, FD⟩ := F.s.def_ 0 (d := d_law_dice) rfl
  have bd : Binds K fd ["cell"] [] := FunD.bindsN FD fun _ _ _ _ _ _ us hl => match us, hl with | [_], _ => rfl
  have ok : FnOk P w K mg base (L2.CX P w) 1 (He.fAd K d_law_dice.at_) fd ["cell"] (spM TL K (cK K) (fun i : Int => [D.int i]) (fun i : Int => []) (fun i : Int => law_dice_m i) (fun (i : Int) (b : List Int) S => S = (f0 b, [])) (fun _ (e : Empty) => e.elim)) := by
    refine fn_okC (ε := Empty) (β' := Unit) FD sc_law_dice (r' := fun i : Int => law_dice_b i) (Γ0 := fun i : Int => [some (D.int i)]) (oN := fun _ _ _ => False) (oJ := fun z : Empty => z.elim) (fun _ => []) ?_ (by intros; unfold law_dice_m; rfl) (by intros; rfl) (by intros; rfl) ?_
    · rintro cell_ cdv ec A outer s H E hr
      show SS TL _ (cK K) E (defBody st_law_dice) [some (D.int cell_)] [] (law_dice_b cell_) (fun _ _ => False) (fun z : Empty => z.elim) (fun (b : List Int) S => S = (f0 b, [])) (fun e : Empty => e.elim)
      unfold law_dice_b
      exact (ss_ifxP (etp_chain (ep_two two_bin ep_int ep_int oi_sub) (ep_var 0) ep_int oc_lt oc_lt) (ss_one (s1_retP (v := [(if cell_ < 0 then -cell_ else cell_), (0 : Int), (2 : Int)]) (ep_as (f := f0) (v := [(if cell_ < 0 then -cell_ else cell_), (0 : Int), (2 : Int)]) (ep_lst (eap_cons (ep_one (one_B (by rfl) (fr_abs F)) (ep_var 0) c_abs) (eap_cons ep_int (eap_cons ep_int eap_nil))))))) (ss_one (s1_retP (v := [cell_, (1 : Int) + (cell_ % (1009 : Int)), (if (decide ((10 : Int) ^ (18 : Int).toNat ≤ cell_)) = true then (1 : Int) else 0)]) (ep_as (f := f0) (v := [cell_, (1 : Int) + (cell_ % (1009 : Int)), (if (decide ((10 : Int) ^ (18 : Int).toNat ≤ cell_)) = true then (1 : Int) else 0)]) (ep_lst (eap_cons (ep_var 0) (eap_cons (ep_two two_bin ep_int (ep_two two_bin (ep_one (one_Ty (by rfl) (fr_int F)) (ep_var 0) c_int) ep_int oi_modC) oi_add) (eap_cons (ep_one (one_Ty (by rfl) (fr_int F)) (ep_two (two_cmp (nomark _ (by decide) (by decide))) (ep_var 0) (ep_two two_bin ep_int ep_int oi_powC) oc_ge) c_intB) eap_nil))))))))
    · exact fun i b S hS => hS.elim
  exact ⟨_, _, ok, gl__law_dice F, FD.kp, bd⟩
abbrev N_law_rounds : List Str := ["script", "most", "cells", "cell"]
theorem nd_law_rounds : N_law_rounds.Nodup := by decide +kernel
theorem sc_law_rounds : FnScope N_law_rounds ["script", "most"] (defScope st_law_rounds) := ⟨rfl, rfl, rfl, by decide +kernel, rfl, by decide +kernel, by decide +kernel⟩
def law_rounds_b (cs_ : List Int) : Res Empty (Fl Unit Empty (List (List Int))) :=
  (Res.sq (if (decide (cs_ = ([] : List Int))) = true then (Res.ok (.nx ([(0 : Int)]))) else (Res.ok (.nx (cs_)))) fun s1 : (List Int) => (((Res.ok s1).bind fun x2 : List Int => mapR (fun p3 : Int => stepR (fun uu6 : Unit => true) (fun b5 : List Int => b5) ((Res.ok ()) : Res Empty Unit) (((Res.ok ()).bind fun uu4 : Unit => ((law_dice_m p3).noE).bind fun b5 : List Int => .ok b5) : Res Empty (List Int))) x2).bind fun x7 : List (List Int) => Res.ok (.rt x7)))
theorem dice_ok (n : Int) : ∃ x y z, law_dice_m n = .ok [x, y, z] ∧ diceOk x y z := by
  unfold law_dice_m law_dice_b Res.fin
  split
  · refine ⟨_, _, _, rfl, ?_⟩
    unfold diceOk
    split <;> omega
  · refine ⟨_, _, _, rfl, ?_⟩
    unfold diceOk
    have := Int.emod_nonneg n (show (1009 : Int) ≠ 0 by decide)
    split <;> omega
theorem rounds_ok : ∀ cs : List Int, cs.length ≤ 1 → ∃ x y z, law_rounds_b cs = .ok (.rt [[x, y, z]]) ∧ diceOk x y z := by
  intro cs hl
  have key : ∀ c : Int, (cs = [] ∧ c = 0 ∨ cs = [c]) → ∃ x y z, law_rounds_b cs = .ok (.rt [[x, y, z]]) ∧ diceOk x y z := by
    intro c hc
    obtain ⟨x, y, z, e, ok⟩ := dice_ok c
    refine ⟨x, y, z, ?_, ok⟩
    unfold law_rounds_b
    rcases hc with ⟨rfl, rfl⟩ | rfl
    · simp [Res.sq, Fl.go, mapR, stepR, Res.noE, Res.bind, e]
    · simp [Res.sq, Fl.go, mapR, stepR, Res.noE, Res.bind, e]
  match cs, hl with
  | [], _ => exact key 0 (.inl ⟨rfl, rfl⟩)
  | [c], _ => exact key c (.inr rfl)
theorem ok_law_rounds (F : Fx P K mg base TL) : ∃ f fd, FnOk P w K mg base (L2.CX P w) 2 f fd ["script", "most"] (spR TL K) ∧ mg "_law_rounds" = some (.ref f) ∧ PySem.W.keepIn K (.ref f) = true ∧ Binds K fd ["script", "most"] [] := by
  obtain ⟨fd, FD⟩ := F.s.def_ 1 (d := d_law_rounds) rfl
  have bd : Binds K fd ["script", "most"] [] := FunD.bindsN FD fun _ _ _ _ _ _ us hl => match us, hl with | [_, _], _ => rfl
  refine ⟨_, _, rounds_fn (k := 1) (cA := cK K) FD sc_law_rounds rfl law_rounds_b (fun cs_ cdv ec A outer s H E hr => ?_) (.inl rfl) (.inl rfl) (.inl rfl) rounds_ok, gl__law_rounds F, FD.kp, bd⟩
  show SS TL _ (cK K) E _ [none, some (D.int (1 : Int)), some (f0 cs_), none] [] (law_rounds_b cs_) _ _ (fun (b : List (List Int)) S => S = (f1 b, [])) _
  unfold law_rounds_b
  exact (ss_cons (oN1 := fun s1 : (List Int) => ([none, some (D.int (1 : Int)), some (f0 s1), none], [])) (s1_ifP (etp_cmp (ep_var 2) (ep_as (f := f0) (v := []) (ep_lst eap_nil)) (oc_eq (tye_lst tye_int) (u64 hr))) (ss_setP (Γ1 := [none, some (D.int (1 : Int)), some (f0 [(0 : Int)]), none]) 2 (ep_as (f := f0) (v := [(0 : Int)]) (ep_lst (eap_cons ep_int eap_nil))) (ss_nil (b := ([(0 : Int)])) rfl (And.intro rfl (And.intro rfl trivial)) .slnil) nd_law_rounds) (ss_nil (b := (cs_)) rfl (And.intro rfl (And.intro rfl trivial)) .slnil)) (fun s1 => (ss_one (s1_ret (fun x7 : List (List Int) => x7) (asE (fun x7 : List (List Int) => f1 x7) (fun _ => []) (ev_lc (own' := [("cell", 3)]) (f := D.int) (xs := fun x2 : List Int => x2) (Γb := fun p3 : Int => [none, some (D.int (1 : Int)), some (f0 s1), some (D.int p3)]) (fo := f0) (ot := fun (p3 : Int) (uu6 : Unit) => true) (ov := fun (p3 : Int) (b5 : List Int) => b5) (het := fun _ : Empty => []) (hee := fun _ : Empty => []) (ei_lst (out := fun x2 : List Int => x2.map D.int) (asE (fun x2 : List Int => f0 x2) (fun _ => []) (ev_p (f := f0) (v := s1) (ep_var 2)))) rfl nd_law_rounds (blkOk_by (N := N_law_rounds) (sc := defScope st_law_rounds) (by decide +kernel)) (fun _ _ _ _ _ p3 => (egw_name 3 nd_law_rounds)) (fun _ _ _ _ _ p3 => ets_nil) (fun _ _ _ _ _ p3 => (asE (fun b5 : List Int => f0 b5) (fun _ => []) (ev_callN (ok_law_dice F) (hr.mono (by decide)) (by rfl) LamX.takes0 (ea_eap (eap_cons (ep_var 3) eap_nil)) (fun uu4 : Unit => (p3)) 0 [] [] (fun (_ : Unit) (b5 : List Int) => b5) (out := fun b5 : List Int => f0 b5) (ho := fun _ : List Int => []) )))))))))
abbrev N_law_roll : List Str := ["dice", "many", "found"]
theorem nd_law_roll : N_law_roll.Nodup := by decide +kernel
theorem sc_law_roll : FnScope N_law_roll ["dice", "many"] (defScope st_law_roll) := ⟨rfl, rfl, rfl, by decide +kernel, rfl, by decide +kernel, by decide +kernel⟩
def law_roll_b (dice_l : List Int) (many_ : Int) : Res Empty (Fl (List Int) Empty (Int × (List Int))) :=
  ((((Res.ofO (atI dice_l (2 : Int))).bind fun x8 : Int => (Res.ok ()).bind fun uu9 : Unit => (Res.ofO (some ())).bind fun _ : Unit => .ok (decide (x8 = (2 : Int)))).bind fun x11 : Bool => if x11 = true then .ok true else (((Res.ofO (atI dice_l (2 : Int))).bind fun x12 : Int => (Res.ok ()).bind fun uu13 : Unit => (Res.ofO (some ())).bind fun _ : Unit => .ok (decide (x12 = (1 : Int)))).bind fun x15 : Bool => if x15 = true then ((Res.ofO (atI dice_l (0 : Int))).bind fun x16 : Int => (Res.ok ()).bind fun uu17 : Unit => (Res.ofO (some ())).bind fun _ : Unit => .ok (decide ((0 : Int) < x16))).bind fun x19 : Bool => .ok x19 else .ok false).bind fun x20 : Bool => .ok x20).bind fun x21 : Bool => if x21 = true then ((((Res.ofO (atI dice_l (0 : Int))).bind fun x22 : Int => (Res.ofO (some ())).bind fun _ : Unit => .ok x22).bind fun x24 : Int => (Res.ok ()).bind fun uu25 : Unit => (Res.ofO (modG x24 many_)).bind fun g26 : Int => .ok g26).bind fun x27 : Int => (((Res.ofO (atI dice_l (0 : Int))).bind fun x28 : Int => (Res.ok ()).bind fun uu29 : Unit => (Res.ofO (divG x28 many_)).bind fun g30 : Int => .ok g30).bind fun x31 : Int => (Res.ofO (ixN dice_l.length (0 : Int))).bind fun n32 : Nat => (Res.ok (.rt (x27, dice_l.set n32 x31))))) else ((Res.ok (0 : Int)).bind fun x33 : Int => (Res.ofO (ixN dice_l.length (2 : Int))).bind fun n34 : Nat => (((((((Res.ofO (atI (dice_l.set n34 x33) (0 : Int))).bind fun x35 : Int => (Res.ok ()).bind fun uu36 : Unit => (Res.ofO (some ())).bind fun _ : Unit => .ok (x35 * (48271 : Int))).bind fun x38 : Int => ((Res.ofO (atI (dice_l.set n34 x33) (1 : Int))).bind fun x39 : Int => (Res.ok ()).bind fun uu40 : Unit => (Res.ofO (some ())).bind fun _ : Unit => .ok (x39 * (69621 : Int))).bind fun x42 : Int => (Res.ofO (some ())).bind fun _ : Unit => .ok (x38 + x42)).bind fun x44 : Int => (Res.ok ()).bind fun uu45 : Unit => (Res.ofO (some ())).bind fun _ : Unit => .ok (x44 + (11 : Int))).bind fun x47 : Int => (Res.ofO (some ())).bind fun _ : Unit => .ok x47).bind fun x49 : Int => (Res.ok ()).bind fun uu50 : Unit => (Res.ofO (some ())).bind fun _ : Unit => .ok (x49 % (2147483647 : Int))).bind fun x52 : Int => (Res.ofO (ixN (dice_l.set n34 x33).length (0 : Int))).bind fun n53 : Nat => (((Res.ofO (atI ((dice_l.set n34 x33).set n53 x52) (1 : Int))).bind fun x54 : Int => (Res.ok ()).bind fun uu55 : Unit => (Res.ofO (some ())).bind fun _ : Unit => .ok (x54 + (1 : Int))).bind fun x57 : Int => (Res.ofO (ixN ((dice_l.set n34 x33).set n53 x52).length (1 : Int))).bind fun n58 : Nat => ((((((Res.ofO (atI (((dice_l.set n34 x33).set n53 x52).set n58 x57) (0 : Int))).bind fun x59 : Int => (Res.ok ()).bind fun uu60 : Unit => (Res.ofO (some ())).bind fun _ : Unit => .ok (x59 / (7 : Int))).bind fun x62 : Int => (Res.ofO (atI (((dice_l.set n34 x33).set n53 x52).set n58 x57) (0 : Int))).bind fun x63 : Int => (Res.ofO (some ())).bind fun _ : Unit => .ok (x62 + x63)).bind fun x65 : Int => (Res.ofO (some ())).bind fun _ : Unit => .ok x65).bind fun x67 : Int => (Res.ok ()).bind fun uu68 : Unit => (Res.ofO (modG x67 many_)).bind fun g69 : Int => .ok g69).bind fun x70 : Int => Res.ok (.rt (x70, ((dice_l.set n34 x33).set n53 x52).set n58 x57)))))))
@[irreducible] def law_roll_m (dice_l : List Int) (many_ : Int) : Res Empty (Int × (List Int)) := (law_roll_b dice_l many_).fin (fun _ => ((0 : Int), []))
theorem ok_law_roll (F : Fx P K mg base TL) : ∃ f fd, FnOk P w K mg base (L2.CX P w) 1 f fd ["dice", "many"] (spM TL K (cK K) (fun i : Addr × (List Int) × Int => [D.ref i.1, D.int i.2.2]) (fun i : Addr × (List Int) × Int => [(i.1, O.lst (i.2.1.map D.int))]) (fun i : Addr × (List Int) × Int => law_roll_m i.2.1 i.2.2) (fun (i : Addr × (List Int) × Int) (b : Int × (List Int)) S => S = (D.int b.1, [(i.1, O.lst (b.2.map D.int))])) (fun _ (e : Empty) => e.elim)) ∧ mg "_law_roll" = some (.ref f) ∧ PySem.W.keepIn K (.ref f) = true ∧ Binds K fd ["dice", "many"] [] := by
  obtain ⟨fd, FD⟩ := F.s.def_ 2 (d := d_law_roll) rfl
  have bd : Binds K fd ["dice", "many"] [] := FunD.bindsN FD fun _ _ _ _ _ _ us hl => match us, hl with | [_, _], _ => rfl
  have ok : FnOk P w K mg base (L2.CX P w) 1 (He.fAd K d_law_roll.at_) fd ["dice", "many"] (spM TL K (cK K) (fun i : Addr × (List Int) × Int => [D.ref i.1, D.int i.2.2]) (fun i : Addr × (List Int) × Int => [(i.1, O.lst (i.2.1.map D.int))]) (fun i : Addr × (List Int) × Int => law_roll_m i.2.1 i.2.2) (fun (i : Addr × (List Int) × Int) (b : Int × (List Int)) S => S = (D.int b.1, [(i.1, O.lst (b.2.map D.int))])) (fun _ (e : Empty) => e.elim)) := by
    refine fn_okC (ε := Empty) (β' := (List Int)) FD sc_law_roll (r' := fun i : Addr × (List Int) × Int => law_roll_b i.2.1 i.2.2) (Γ0 := fun i : Addr × (List Int) × Int => [some (D.ref i.1), some (D.int i.2.2), none]) (oN := fun _ _ _ => False) (oJ := fun z : Empty => z.elim) (fun _ => ((0 : Int), [])) ?_ (by intros; unfold law_roll_m; rfl) (by intros; rfl) (by intros; rfl) ?_
    · rintro ⟨dice_, dice_l, many_⟩ cdv ec A outer s H E hr
      show SS TL _ (cK K) E (defBody st_law_roll) [some (D.ref dice_), some (D.int many_), none] [(dice_, O.lst (dice_l.map D.int))] (law_roll_b dice_l many_) (fun _ _ => False) (fun z : Empty => z.elim) (fun (b : Int × (List Int)) S => S = (D.int b.1, [(dice_, O.lst (b.2.map D.int))])) (fun e : Empty => e.elim)
      unfold law_roll_b
      exact (ss_ifx (asC (fun x21 : Bool => x21) (fun _ => [(dice_, O.lst (dice_l.map D.int))]) (et_w (ew_or (out := fun x21 : Bool => x21) (ho := fun _ => [(dice_, O.lst (dice_l.map D.int))]) (fun _ : Bool => true) (fun (x11 : Bool) (x20 : Bool) => x20) (asC (fun x11 : Bool => x11) (fun _ => [(dice_, O.lst (dice_l.map D.int))]) (et_cmp (out := fun x11 : Bool => x11) (ho := fun _ => [(dice_, O.lst (dice_l.map D.int))]) (fun (x8 : Int) (uu9 : Unit) (g10 : Unit) => decide (x8 = (2 : Int))) (asE (fun x8 : Int => D.int x8) (fun _ => [(dice_, O.lst (dice_l.map D.int))]) (ev_two0 two_ix (ep_var 0) ep_int (ix_L (.cell (List.mem_of_getElem? (i := 0) rfl))))) (fun x8 => (asE (fun uu9 : Unit => D.int (2 : Int)) (fun _ => [(dice_, O.lst (dice_l.map D.int))]) (ev_ep ep_int))) (fun x8 uu9 => (oc_eq tye_int (u64 hr))))) (fun x11 => (ew_or1 (asC (fun x20 : Bool => x20) (fun _ => [(dice_, O.lst (dice_l.map D.int))]) (et_w (ew_and (out := fun x20 : Bool => x20) (ho := fun _ => [(dice_, O.lst (dice_l.map D.int))]) (fun _ : Bool => false) (fun (x15 : Bool) (x19 : Bool) => x19) (asC (fun x15 : Bool => x15) (fun _ => [(dice_, O.lst (dice_l.map D.int))]) (et_cmp (out := fun x15 : Bool => x15) (ho := fun _ => [(dice_, O.lst (dice_l.map D.int))]) (fun (x12 : Int) (uu13 : Unit) (g14 : Unit) => decide (x12 = (1 : Int))) (asE (fun x12 : Int => D.int x12) (fun _ => [(dice_, O.lst (dice_l.map D.int))]) (ev_two0 two_ix (ep_var 0) ep_int (ix_L (.cell (List.mem_of_getElem? (i := 0) rfl))))) (fun x12 => (asE (fun uu13 : Unit => D.int (1 : Int)) (fun _ => [(dice_, O.lst (dice_l.map D.int))]) (ev_ep ep_int))) (fun x12 uu13 => (oc_eq tye_int (u64 hr))))) (fun x15 => (ew_and1 (asC (fun x19 : Bool => x19) (fun _ => [(dice_, O.lst (dice_l.map D.int))]) (et_cmp (out := fun x19 : Bool => x19) (ho := fun _ => [(dice_, O.lst (dice_l.map D.int))]) (fun (x16 : Int) (uu17 : Unit) (g18 : Unit) => decide ((0 : Int) < x16)) (asE (fun x16 : Int => D.int x16) (fun _ => [(dice_, O.lst (dice_l.map D.int))]) (ev_two0 two_ix (ep_var 0) ep_int (ix_L (.cell (List.mem_of_getElem? (i := 0) rfl))))) (fun x16 => (asE (fun uu17 : Unit => D.int (0 : Int)) (fun _ => [(dice_, O.lst (dice_l.map D.int))]) (ev_ep ep_int))) (fun x16 uu17 => oc_gt))))))))))))) (fun x21 => (ss_set (Γ1 := fun x27 : Int => [some (D.ref dice_), some (D.int many_), some (D.int x27)]) 2 (asE (fun x27 : Int => D.int x27) (fun _ => [(dice_, O.lst (dice_l.map D.int))]) (ev_two (out := D.int) (ho := fun _ => [(dice_, O.lst (dice_l.map D.int))]) two_bin (fun (x24 : Int) (uu25 : Unit) (g26 : Int) => g26) (asE (fun x24 : Int => D.int x24) (fun _ => [(dice_, O.lst (dice_l.map D.int))]) (ev_one (out := D.int) (ho := fun _ => [(dice_, O.lst (dice_l.map D.int))]) (one_Ty (by rfl) (fr_int F)) (fun (x22 : Int) (g23 : Unit) => x22) (asE (fun x22 : Int => D.int x22) (fun _ => [(dice_, O.lst (dice_l.map D.int))]) (ev_two0 two_ix (ep_var 0) ep_int (ix_L (.cell (List.mem_of_getElem? (i := 0) rfl))))) (fun x22 => c_int))) (fun x24 => (asE (fun uu25 : Unit => D.int many_) (fun _ => [(dice_, O.lst (dice_l.map D.int))]) (ev_ep (ep_var 1)))) (fun x24 uu25 => oi_mod))) (fun x27 => (ss_setiF (f := D.int) (xs := fun x31 : Int => dice_l) (v := fun x31 : Int => x31) (iv := fun x31 : Int => (0 : Int)) (h2 := fun (x31 : Int) (n32 : Nat) => [(dice_, O.lst ((dice_l.set n32 x31).map D.int))]) 0 (asE (fun x31 : Int => D.int x31) (fun _ => [(dice_, O.lst (dice_l.map D.int))]) (ev_two (out := D.int) (ho := fun _ => [(dice_, O.lst (dice_l.map D.int))]) two_bin (fun (x28 : Int) (uu29 : Unit) (g30 : Int) => g30) (asE (fun x28 : Int => D.int x28) (fun _ => [(dice_, O.lst (dice_l.map D.int))]) (ev_two0 two_ix (ep_var 0) ep_int (ix_L (.cell (List.mem_of_getElem? (i := 0) rfl))))) (fun x28 => (asE (fun uu29 : Unit => D.int many_) (fun _ => [(dice_, O.lst (dice_l.map D.int))]) (ev_ep (ep_var 1)))) (fun x28 uu29 => oi_div))) (fun x31 => (ep_var 0)) (fun x31 => ep_int) (fun x31 n32 => (ss_one (s1_retP (v := (x27, dice_l.set n32 x31)) (ep_var 2)))))) (by intros; rfl) nd_law_roll)) (fun x21 => (ss_setiF (f := D.int) (xs := fun x33 : Int => dice_l) (v := fun x33 : Int => x33) (iv := fun x33 : Int => (2 : Int)) (h2 := fun (x33 : Int) (n34 : Nat) => [(dice_, O.lst ((dice_l.set n34 x33).map D.int))]) 0 (asE (fun x33 : Int => D.int x33) (fun _ => [(dice_, O.lst (dice_l.map D.int))]) (ev_p (f := D.int) (v := (0 : Int)) ep_int)) (fun x33 => (ep_var 0)) (fun x33 => ep_int) (fun x33 n34 => (ss_setiF (f := D.int) (xs := fun x52 : Int => dice_l.set n34 x33) (v := fun x52 : Int => x52) (iv := fun x52 : Int => (0 : Int)) (h2 := fun (x52 : Int) (n53 : Nat) => [(dice_, O.lst (((dice_l.set n34 x33).set n53 x52).map D.int))]) 0 (asE (fun x52 : Int => D.int x52) (fun _ => [(dice_, O.lst ((dice_l.set n34 x33).map D.int))]) (ev_two (out := D.int) (ho := fun _ => [(dice_, O.lst ((dice_l.set n34 x33).map D.int))]) two_bin (fun (x49 : Int) (uu50 : Unit) (g51 : Unit) => x49 % (2147483647 : Int)) (asE (fun x49 : Int => D.int x49) (fun _ => [(dice_, O.lst ((dice_l.set n34 x33).map D.int))]) (ev_one (out := D.int) (ho := fun _ => [(dice_, O.lst ((dice_l.set n34 x33).map D.int))]) (one_Ty (by rfl) (fr_int F)) (fun (x47 : Int) (g48 : Unit) => x47) (asE (fun x47 : Int => D.int x47) (fun _ => [(dice_, O.lst ((dice_l.set n34 x33).map D.int))]) (ev_two (out := D.int) (ho := fun _ => [(dice_, O.lst ((dice_l.set n34 x33).map D.int))]) two_bin (fun (x44 : Int) (uu45 : Unit) (g46 : Unit) => x44 + (11 : Int)) (asE (fun x44 : Int => D.int x44) (fun _ => [(dice_, O.lst ((dice_l.set n34 x33).map D.int))]) (ev_two (out := D.int) (ho := fun _ => [(dice_, O.lst ((dice_l.set n34 x33).map D.int))]) two_bin (fun (x38 : Int) (x42 : Int) (g43 : Unit) => x38 + x42) (asE (fun x38 : Int => D.int x38) (fun _ => [(dice_, O.lst ((dice_l.set n34 x33).map D.int))]) (ev_two (out := D.int) (ho := fun _ => [(dice_, O.lst ((dice_l.set n34 x33).map D.int))]) two_bin (fun (x35 : Int) (uu36 : Unit) (g37 : Unit) => x35 * (48271 : Int)) (asE (fun x35 : Int => D.int x35) (fun _ => [(dice_, O.lst ((dice_l.set n34 x33).map D.int))]) (ev_two0 two_ix (ep_var 0) ep_int (ix_L (.cell (List.mem_of_getElem? (i := 0) rfl))))) (fun x35 => (asE (fun uu36 : Unit => D.int (48271 : Int)) (fun _ => [(dice_, O.lst ((dice_l.set n34 x33).map D.int))]) (ev_ep ep_int))) (fun x35 uu36 => oi_mulR))) (fun x38 => (asE (fun x42 : Int => D.int x42) (fun _ => [(dice_, O.lst ((dice_l.set n34 x33).map D.int))]) (ev_two (out := D.int) (ho := fun _ => [(dice_, O.lst ((dice_l.set n34 x33).map D.int))]) two_bin (fun (x39 : Int) (uu40 : Unit) (g41 : Unit) => x39 * (69621 : Int)) (asE (fun x39 : Int => D.int x39) (fun _ => [(dice_, O.lst ((dice_l.set n34 x33).map D.int))]) (ev_two0 two_ix (ep_var 0) ep_int (ix_L (.cell (List.mem_of_getElem? (i := 0) rfl))))) (fun x39 => (asE (fun uu40 : Unit => D.int (69621 : Int)) (fun _ => [(dice_, O.lst ((dice_l.set n34 x33).map D.int))]) (ev_ep ep_int))) (fun x39 uu40 => oi_mulR)))) (fun x38 x42 => oi_add))) (fun x44 => (asE (fun uu45 : Unit => D.int (11 : Int)) (fun _ => [(dice_, O.lst ((dice_l.set n34 x33).map D.int))]) (ev_ep ep_int))) (fun x44 uu45 => oi_add))) (fun x47 => c_int))) (fun x49 => (asE (fun uu50 : Unit => D.int (2147483647 : Int)) (fun _ => [(dice_, O.lst ((dice_l.set n34 x33).map D.int))]) (ev_ep ep_int))) (fun x49 uu50 => oi_modC))) (fun x52 => (ep_var 0)) (fun x52 => ep_int) (fun x52 n53 => (ss_setiF (f := D.int) (xs := fun x57 : Int => (dice_l.set n34 x33).set n53 x52) (v := fun x57 : Int => x57) (iv := fun x57 : Int => (1 : Int)) (h2 := fun (x57 : Int) (n58 : Nat) => [(dice_, O.lst ((((dice_l.set n34 x33).set n53 x52).set n58 x57).map D.int))]) 0 (asE (fun x57 : Int => D.int x57) (fun _ => [(dice_, O.lst (((dice_l.set n34 x33).set n53 x52).map D.int))]) (ev_two (out := D.int) (ho := fun _ => [(dice_, O.lst (((dice_l.set n34 x33).set n53 x52).map D.int))]) two_bin (fun (x54 : Int) (uu55 : Unit) (g56 : Unit) => x54 + (1 : Int)) (asE (fun x54 : Int => D.int x54) (fun _ => [(dice_, O.lst (((dice_l.set n34 x33).set n53 x52).map D.int))]) (ev_two0 two_ix (ep_var 0) ep_int (ix_L (.cell (List.mem_of_getElem? (i := 0) rfl))))) (fun x54 => (asE (fun uu55 : Unit => D.int (1 : Int)) (fun _ => [(dice_, O.lst (((dice_l.set n34 x33).set n53 x52).map D.int))]) (ev_ep ep_int))) (fun x54 uu55 => oi_add))) (fun x57 => (ep_var 0)) (fun x57 => ep_int) (fun x57 n58 => (ss_one (s1_ret (fun x70 : Int => (x70, ((dice_l.set n34 x33).set n53 x52).set n58 x57)) (asE (fun x70 : Int => D.int x70) (fun _ => [(dice_, O.lst ((((dice_l.set n34 x33).set n53 x52).set n58 x57).map D.int))]) (ev_two (out := D.int) (ho := fun _ => [(dice_, O.lst ((((dice_l.set n34 x33).set n53 x52).set n58 x57).map D.int))]) two_bin (fun (x67 : Int) (uu68 : Unit) (g69 : Int) => g69) (asE (fun x67 : Int => D.int x67) (fun _ => [(dice_, O.lst ((((dice_l.set n34 x33).set n53 x52).set n58 x57).map D.int))]) (ev_one (out := D.int) (ho := fun _ => [(dice_, O.lst ((((dice_l.set n34 x33).set n53 x52).set n58 x57).map D.int))]) (one_Ty (by rfl) (fr_int F)) (fun (x65 : Int) (g66 : Unit) => x65) (asE (fun x65 : Int => D.int x65) (fun _ => [(dice_, O.lst ((((dice_l.set n34 x33).set n53 x52).set n58 x57).map D.int))]) (ev_two (out := D.int) (ho := fun _ => [(dice_, O.lst ((((dice_l.set n34 x33).set n53 x52).set n58 x57).map D.int))]) two_bin (fun (x62 : Int) (x63 : Int) (g64 : Unit) => x62 + x63) (asE (fun x62 : Int => D.int x62) (fun _ => [(dice_, O.lst ((((dice_l.set n34 x33).set n53 x52).set n58 x57).map D.int))]) (ev_two (out := D.int) (ho := fun _ => [(dice_, O.lst ((((dice_l.set n34 x33).set n53 x52).set n58 x57).map D.int))]) two_bin (fun (x59 : Int) (uu60 : Unit) (g61 : Unit) => x59 / (7 : Int)) (asE (fun x59 : Int => D.int x59) (fun _ => [(dice_, O.lst ((((dice_l.set n34 x33).set n53 x52).set n58 x57).map D.int))]) (ev_two0 two_ix (ep_var 0) ep_int (ix_L (.cell (List.mem_of_getElem? (i := 0) rfl))))) (fun x59 => (asE (fun uu60 : Unit => D.int (7 : Int)) (fun _ => [(dice_, O.lst ((((dice_l.set n34 x33).set n53 x52).set n58 x57).map D.int))]) (ev_ep ep_int))) (fun x59 uu60 => oi_divC))) (fun x62 => (asE (fun x63 : Int => D.int x63) (fun _ => [(dice_, O.lst ((((dice_l.set n34 x33).set n53 x52).set n58 x57).map D.int))]) (ev_two0 two_ix (ep_var 0) ep_int (ix_L (.cell (List.mem_of_getElem? (i := 0) rfl)))))) (fun x62 x63 => oi_add))) (fun x65 => c_int))) (fun x67 => (asE (fun uu68 : Unit => D.int many_) (fun _ => [(dice_, O.lst ((((dice_l.set n34 x33).set n53 x52).set n58 x57).map D.int))]) (ev_ep (ep_var 1)))) (fun x67 uu68 => oi_mod)))))))))))))
    · exact fun i b S hS => hS.elim
  exact ⟨_, _, ok, gl__law_roll F, FD.kp, bd⟩
theorem roll_ok : RollOk law_roll_m := by
  intro x y z n ok h0 h1
  obtain ⟨o1, o2, o3⟩ := ok
  have hd : divG x n = some (x / n) := by unfold divG; rw [if_pos ⟨h0, h1⟩]
  have hm : ∀ t : Int, modG t n = some (t % n) := fun t => by unfold modG; rw [if_pos h0]
  have i0 : ∀ a b c : Int, ixN [a, b, c].length 0 = some 0 := fun _ _ _ => rfl
  have i1 : ∀ a b c : Int, ixN [a, b, c].length 1 = some 1 := fun _ _ _ => rfl
  have i2 : ∀ a b c : Int, ixN [a, b, c].length 2 = some 2 := fun _ _ _ => rfl
  have a0 : ∀ a b c : Int, atI [a, b, c] 0 = some a := fun _ _ _ => rfl
  have a1 : ∀ a b c : Int, atI [a, b, c] 1 = some b := fun _ _ _ => rfl
  have a2 : ∀ a b c : Int, atI [a, b, c] 2 = some c := fun _ _ _ => rfl
  have s0 : ∀ a b c d : Int, [a, b, c].set 0 d = [d, b, c] := fun _ _ _ _ => rfl
  have s1 : ∀ a b c d : Int, [a, b, c].set 1 d = [a, d, c] := fun _ _ _ _ => rfl
  have s2 : ∀ a b c d : Int, [a, b, c].set 2 d = [a, b, d] := fun _ _ _ _ => rfl
  have n0 := Int.emod_nonneg x (by omega : n ≠ 0)
  have n1 := Int.emod_lt_of_pos x h0
  unfold law_roll_m law_roll_b Res.fin
  simp only [a0, a1, a2, i0, i1, i2, s0, s1, s2, Res.ofO, Res.ok_bind, hd, hm]
  by_cases c2 : z = 2
  · simp only [c2, decide_true, if_true, Res.ok_bind, Fl.val]
    exact ⟨_, _, _, _, rfl, n0, n1, o1, .inr (.inr rfl), fun _ => Int.ediv_nonneg (o3 c2) (by omega)⟩
  · by_cases c1 : z = 1 ∧ 0 < x
    · simp only [c1.1, c1.2, decide_true, if_true, Res.ok_bind, Fl.val, (by decide : decide ((1 : Int) = 2) = false), Bool.false_eq_true, if_false]
      exact ⟨_, _, _, _, rfl, n0, n1, o1, .inr (.inl rfl), fun h => by omega⟩
    · have e : (if decide (z = 1) = true then (Res.ok (decide (0 < x)) : Res Empty Bool) else Res.ok false) = Res.ok false := by
        by_cases q : z = 1
        · simp only [q, decide_true, if_true]
          rw [decide_eq_false (fun w => c1 ⟨q, w⟩)]
        · simp only [q, decide_false, Bool.false_eq_true, if_false]
      simp only [c2, decide_false, Bool.false_eq_true, if_false, Res.ok_bind, e, Fl.val]
      exact ⟨_, _, _, _, rfl, Int.emod_nonneg _ (by omega), Int.emod_lt_of_pos _ h0, by omega, .inl rfl, fun h => by omega⟩
theorem ok_dice_roll (F : Fx P K mg base TL) : ∃ f fd, FnOk P w K mg base (L2.CX P w) 1 f fd ["dice", "many"] (spM TL K (cK K) (fun i : Addr × Int => [D.ref i.1, D.int i.2]) (fun i => [(i.1, O.dice)]) (fun i => rollM i.2) (fun i b S => S = (D.int b, [(i.1, O.dice)])) fun _ (e : Empty) => e.elim) ∧ mg "_law_roll" = some (.ref f) ∧ PySem.W.keepIn K (.ref f) = true ∧ Binds K fd ["dice", "many"] [] := by
  obtain ⟨f, fd, a, b⟩ := ok_law_roll (P := P) (w := w) F
  exact ⟨f, fd, roll_dice roll_ok a, b⟩
abbrev N_Desk_init : List Str := ["self"]
theorem sc_Desk_init : FnScope N_Desk_init ["self"] (defScope st_Desk_init) := ⟨rfl, rfl, rfl, by decide +kernel, rfl, by decide +kernel, by decide +kernel⟩
def Desk_init_b  : Res Empty (Fl (Str × (List (Str × Str)) × (List (Str × Str))) Empty (Unit × Str × (List (Str × Str)) × (List (Str × Str)))) :=
  ((Res.ok ("1 birch cut 9\n2 birch carried 6\n2 oak cut 4\n3 birch lent 1" : Str)).bind fun x77 : Str => ((Res.ok ([] : List (Str × Str))).bind fun x78 : List (Str × Str) => ((Res.ok ([] : List (Str × Str))).bind fun x79 : List (Str × Str) => (Res.ok (.nx (x77, x78, x79))))))
@[irreducible] def Desk_init_m  : Res Empty (Unit × Str × (List (Str × Str)) × (List (Str × Str))) := (Desk_init_b ).fin (fun b : Str × (List (Str × Str)) × (List (Str × Str)) => ((), b))
theorem ok_Desk_init (F : Fx P K mg base TL) : mg "Desk" = some (.ref (He.ga K "Desk")) ∧ ∃ f fd, FnOk P w K mg base (L2.CX P w) 1 f fd ["self"] (spM TL K (cK K) (fun i : Addr => [D.ref i]) (fun i : Addr => [(i, O.ins (He.ga K "Desk") [] [])]) (fun i : Addr => Desk_init_m) (fun (i : Addr) (b : Unit × Str × (List (Str × Str)) × (List (Str × Str))) S => S = (D.non, [(i, O.ins (He.ga K "Desk") ["text", "deeds", "undone"] [D.str b.2.1, f3 b.2.2.1, f3 b.2.2.2])])) (fun _ (e : Empty) => e.elim)) ∧ Mk K (He.ga K "Desk") f ∧ Binds K fd ["self"] [] := by
  obtain ⟨fd, FD⟩ := F.s.def_ 3 (d := d_Desk_init) rfl
  have bd : Binds K fd ["self"] [] := FunD.bindsN FD fun _ _ _ _ _ _ us hl => match us, hl with | [_], _ => rfl
  have ok : FnOk P w K mg base (L2.CX P w) 1 (He.fAd K d_Desk_init.at_) fd ["self"] (spM TL K (cK K) (fun i : Addr => [D.ref i]) (fun i : Addr => [(i, O.ins (He.ga K "Desk") [] [])]) (fun i : Addr => Desk_init_m) (fun (i : Addr) (b : Unit × Str × (List (Str × Str)) × (List (Str × Str))) S => S = (D.non, [(i, O.ins (He.ga K "Desk") ["text", "deeds", "undone"] [D.str b.2.1, f3 b.2.2.1, f3 b.2.2.2])])) (fun _ (e : Empty) => e.elim)) := by
    refine fn_okC (ε := Empty) (β' := Str × (List (Str × Str)) × (List (Str × Str))) FD sc_Desk_init (r' := fun i : Addr => Desk_init_b ) (Γ0 := fun i : Addr => [some (D.ref i)]) (oN := fun i b S => S.2 = [(i, O.ins (He.ga K "Desk") ["text", "deeds", "undone"] [D.str b.1, f3 b.2.1, f3 b.2.2])]) (oJ := fun z : Empty => z.elim) (fun b : Str × (List (Str × Str)) × (List (Str × Str)) => ((), b)) ?_ (by intros; unfold Desk_init_m; rfl) (by intros; rfl) (by intros; rfl) ?_
    · rintro self_ cdv ec A outer s H E hr
      show SS TL _ (cK K) E (defBody st_Desk_init) [some (D.ref self_)] [(self_, O.ins (He.ga K "Desk") [] [])] (Desk_init_b ) (fun (b : Str × (List (Str × Str)) × (List (Str × Str))) (S : En × SH) => S.2 = [(self_, O.ins (He.ga K "Desk") ["text", "deeds", "undone"] [D.str b.1, f3 b.2.1, f3 b.2.2])]) (fun z : Empty => z.elim) (fun (b : Unit × Str × (List (Str × Str)) × (List (Str × Str))) S => S = (D.non, [(self_, O.ins (He.ga K "Desk") ["text", "deeds", "undone"] [D.str b.2.1, f3 b.2.2.1, f3 b.2.2.2])])) (fun e : Empty => e.elim)
      unfold Desk_init_b
      exact (ss_fld (ns := []) (ns' := ["text"]) (vs := fun x77 : Str => []) (vs' := fun x77 : Str => [D.str x77]) (h2 := fun x77 : Str => [(self_, O.ins (He.ga K "Desk") ["text"] [D.str x77])]) 0 (asE (fun x77 : Str => D.str x77) (fun _ => [(self_, O.ins (He.ga K "Desk") [] [])]) (ev_p (f := D.str) (v := ("1 birch cut 9\n2 birch carried 6\n2 oak cut 4\n3 birch lent 1" : Str)) (ep_str (x := "1 birch cut 9\n2 birch carried 6\n2 oak cut 4\n3 birch lent 1")))) (fun x77 => (ep_var 0)) (fun x77 => (.new (by decide))) (fun x77 => (ss_fld (ns := ["text"]) (ns' := ["text", "deeds"]) (vs := fun x78 : List (Str × Str) => [D.str x77]) (vs' := fun x78 : List (Str × Str) => [D.str x77, f3 x78]) (h2 := fun x78 : List (Str × Str) => [(self_, O.ins (He.ga K "Desk") ["text", "deeds"] [D.str x77, f3 x78])]) 0 (asE (fun x78 : List (Str × Str) => f3 x78) (fun _ => [(self_, O.ins (He.ga K "Desk") ["text"] [D.str x77])]) (ev_p (f := f3) (v := ([] : List (Str × Str))) (ep_as (f := f3) (v := []) (ep_lst eap_nil)))) (fun x78 => (ep_var 0)) (fun x78 => (.new (by decide))) (fun x78 => (ss_fld (ns := ["text", "deeds"]) (ns' := ["text", "deeds", "undone"]) (vs := fun x79 : List (Str × Str) => [D.str x77, f3 x78]) (vs' := fun x79 : List (Str × Str) => [D.str x77, f3 x78, f3 x79]) (h2 := fun x79 : List (Str × Str) => [(self_, O.ins (He.ga K "Desk") ["text", "deeds", "undone"] [D.str x77, f3 x78, f3 x79])]) 0 (asE (fun x79 : List (Str × Str) => f3 x79) (fun _ => [(self_, O.ins (He.ga K "Desk") ["text", "deeds"] [D.str x77, f3 x78])]) (ev_p (f := f3) (v := ([] : List (Str × Str))) (ep_as (f := f3) (v := []) (ep_lst eap_nil)))) (fun x79 => (ep_var 0)) (fun x79 => (.new (by decide))) (fun x79 => (ss_nil (b := (x77, x78, x79)) rfl (LeG.refl _) (.cons₂ _ .slnil))) (cls_Desk F) (noat_Desk_undone F))) (cls_Desk F) (noat_Desk_deeds F))) (cls_Desk F) (noat_Desk_text F))
    · intro i b S hS; simp only [hS]
  exact ⟨gl_Desk F, _, _, ok, mk_Desk F, bd⟩
abbrev N_Desk_undo : List Str := ["self", "deed"]
theorem sc_Desk_undo : FnScope N_Desk_undo ["self"] (defScope st_Desk_undo) := ⟨rfl, rfl, rfl, by decide +kernel, rfl, by decide +kernel, by decide +kernel⟩
def Desk_undo_b (self_text : Str) (self_deeds : List (Str × Str)) (self_undone : List (Str × Str)) : Res (Str × (List (Str × Str)) × (List (Str × Str))) (Fl (Str × (List (Str × Str)) × (List (Str × Str))) Empty (Unit × Str × (List (Str × Str)) × (List (Str × Str)))) :=
  (if (decide (self_deeds = ([] : List (Str × Str)))) = true then (Res.err .deed (self_text, self_deeds, self_undone)) else Res.bad)
@[irreducible] def Desk_undo_m (self_text : Str) (self_deeds : List (Str × Str)) (self_undone : List (Str × Str)) : Res (Str × (List (Str × Str)) × (List (Str × Str))) (Unit × Str × (List (Str × Str)) × (List (Str × Str))) := (Desk_undo_b self_text self_deeds self_undone).fin (fun _ => ((), ("" : Str), [], []))
theorem ok_Desk_undo (F : Fx P K mg base TL) : Cls K (He.ga K "Desk") ∧ ∃ f fd, FnOk P w K mg base (L2.CX P w) 1 f fd ["self"] (spM TL K (cK K) (fun i : Addr × Str × (List (Str × Str)) × (List (Str × Str)) => [D.ref i.1]) (fun i : Addr × Str × (List (Str × Str)) × (List (Str × Str)) => [(i.1, O.ins (He.ga K "Desk") ["text", "deeds", "undone"] [D.str i.2.1, f3 i.2.2.1, f3 i.2.2.2])]) (fun i : Addr × Str × (List (Str × Str)) × (List (Str × Str)) => Desk_undo_m i.2.1 i.2.2.1 i.2.2.2) (fun (i : Addr × Str × (List (Str × Str)) × (List (Str × Str))) (b : Unit × Str × (List (Str × Str)) × (List (Str × Str))) S => S = (D.non, [(i.1, O.ins (He.ga K "Desk") ["text", "deeds", "undone"] [D.str b.2.1, f3 b.2.2.1, f3 b.2.2.2])])) (fun (i : Addr × Str × (List (Str × Str)) × (List (Str × Str))) (e : Str × (List (Str × Str)) × (List (Str × Str))) => [(i.1, O.ins (He.ga K "Desk") ["text", "deeds", "undone"] [D.str e.1, f3 e.2.1, f3 e.2.2])])) ∧ Meth K (He.ga K "Desk") "undo" f ∧ Binds K fd ["self"] [] := by
  obtain ⟨fd, FD⟩ := F.s.def_ 4 (d := d_Desk_undo) rfl
  have bd : Binds K fd ["self"] [] := FunD.bindsN FD fun _ _ _ _ _ _ us hl => match us, hl with | [_], _ => rfl
  have ok : FnOk P w K mg base (L2.CX P w) 1 (He.fAd K d_Desk_undo.at_) fd ["self"] (spM TL K (cK K) (fun i : Addr × Str × (List (Str × Str)) × (List (Str × Str)) => [D.ref i.1]) (fun i : Addr × Str × (List (Str × Str)) × (List (Str × Str)) => [(i.1, O.ins (He.ga K "Desk") ["text", "deeds", "undone"] [D.str i.2.1, f3 i.2.2.1, f3 i.2.2.2])]) (fun i : Addr × Str × (List (Str × Str)) × (List (Str × Str)) => Desk_undo_m i.2.1 i.2.2.1 i.2.2.2) (fun (i : Addr × Str × (List (Str × Str)) × (List (Str × Str))) (b : Unit × Str × (List (Str × Str)) × (List (Str × Str))) S => S = (D.non, [(i.1, O.ins (He.ga K "Desk") ["text", "deeds", "undone"] [D.str b.2.1, f3 b.2.2.1, f3 b.2.2.2])])) (fun (i : Addr × Str × (List (Str × Str)) × (List (Str × Str))) (e : Str × (List (Str × Str)) × (List (Str × Str))) => [(i.1, O.ins (He.ga K "Desk") ["text", "deeds", "undone"] [D.str e.1, f3 e.2.1, f3 e.2.2])])) := by
    refine fn_okC (ε := Str × (List (Str × Str)) × (List (Str × Str))) (β' := Str × (List (Str × Str)) × (List (Str × Str))) FD sc_Desk_undo (r' := fun i : Addr × Str × (List (Str × Str)) × (List (Str × Str)) => Desk_undo_b i.2.1 i.2.2.1 i.2.2.2) (Γ0 := fun i : Addr × Str × (List (Str × Str)) × (List (Str × Str)) => [some (D.ref i.1), none]) (oN := fun _ _ _ => False) (oJ := fun z : Empty => z.elim) (fun _ => ((), ("" : Str), [], [])) ?_ (by intros; unfold Desk_undo_m; rfl) (by intros; rfl) (by intros; rfl) ?_
    · rintro ⟨self_, self_text, self_deeds, self_undone⟩ cdv ec A outer s H E hr
      show SS TL _ (cK K) E (defBody st_Desk_undo) [some (D.ref self_), none] [(self_, O.ins (He.ga K "Desk") ["text", "deeds", "undone"] [D.str self_text, f3 self_deeds, f3 self_undone])] (Desk_undo_b self_text self_deeds self_undone) (fun _ _ => False) (fun z : Empty => z.elim) (fun (b : Unit × Str × (List (Str × Str)) × (List (Str × Str))) S => S = (D.non, [(self_, O.ins (He.ga K "Desk") ["text", "deeds", "undone"] [D.str b.2.1, f3 b.2.2.1, f3 b.2.2.2])])) (fun e : Str × (List (Str × Str)) × (List (Str × Str)) => [(self_, O.ins (He.ga K "Desk") ["text", "deeds", "undone"] [D.str e.1, f3 e.2.1, f3 e.2.2])])
      unfold Desk_undo_b
      exact (ss_ifxP (etp_cmp (ep_fld 1 (ep_var 0) (List.mem_of_getElem? (i := 0) rfl) (cls_Desk F) (noat_Desk_deeds F) (by decide)) (ep_as (f := f3) (v := []) (ep_lst eap_nil)) (oc_eq (tye_lst (tye_2 tye_str tye_str)) (u64 hr))) (ss_one (s1_raise (e0 := (self_text, self_deeds, self_undone)) rfl (takes_of rfl rfl rfl rfl) (exc_BadDeed F rfl rfl) (eap_cons (ep_str (x := "nothing to undo")) eap_nil) (by rfl) rfl rfl (.cons₂ _ .slnil))) ss_bad)
    · exact fun i b S hS => hS.elim
  exact ⟨cls_Desk F, _, _, ok, me_Desk_undo F, bd⟩
abbrev N_Cloth_init : List Str := ["self", "panels", "name", "wide", "high"]
theorem nd_Cloth_init : N_Cloth_init.Nodup := by decide +kernel
theorem sc_Cloth_init : FnScope N_Cloth_init ["self", "panels"] (defScope st_Cloth_init) := ⟨rfl, rfl, rfl, by decide +kernel, rfl, by decide +kernel, by decide +kernel⟩
def Cloth_init_b (panels_ : List (Str × (Int × Int))) : Res Unit (Fl ((List (Str × (Int × Int))) × (List (Str × Int))) Empty (Unit × (List (Str × (Int × Int))) × (List (Str × Int)))) :=
  (((Res.ok ()).bind fun uu103 : Unit => if (eqDT panels_ ([] : List (Str × (Int × Int)))) = true then .ok true else ((Res.ok ()).bind fun x98 : Unit => anyR true (fun p99 : Str × (Int × Int) => stepR (fun uu101 : Unit => true) (fun x100 : Bool => x100) ((Res.ok ()) : Res Empty Unit) ((Res.ok (decide (min p99.2.1 p99.2.2 < (1 : Int)))) : Res Empty Bool)) panels_).bind fun x102 : Bool => .ok x102).bind fun x104 : Bool => if x104 = true then (Res.err .plan ()) else ((((Res.ok (isortT D.str (panels_.map (·.1)))).bind fun x105 : List Str => mapR (fun p106 : Str => stepR (fun uu116 : Unit => true) (fun x115 : Unit × (Int × Int) => (p106, x115.2)) ((Res.ok ()) : Res Empty Unit) (((Res.ok ()).bind fun uu111 : Unit => ((((Res.ok ()).bind fun uu108 : Unit => Res.ofO (lookT panels_ p106)).bind fun x107 : Int × Int => (Res.ofO (some ())).bind fun _ : Unit => .ok x107).bind fun x110 : Int × Int => (Res.ok ()).bind fun _ : Unit => .ok x110).bind fun y114 : (Int × Int) => .ok (uu111, y114)) : Res Empty (Unit × (Int × Int)))) x105).bind fun x117 : List (Str × (Int × Int)) => .ok (dictT x117)).bind fun x118 : List (Str × (Int × Int)) => ((((Res.ok ()).bind fun x121 : Unit => mapR (fun p122 : Str × (Int × Int) => stepR (fun uu124 : Unit => true) (fun x123 : Str × Int => x123) ((Res.ok ()) : Res Empty Unit) ((Res.ok (p122.1, (10 : Int))) : Res Empty (Str × Int))) x118).bind fun x125 : List (Str × Int) => .ok (dictT x125)).bind fun x119 : List (Str × Int) => (Res.ok (.nx (x118, x119))))))
@[irreducible] def Cloth_init_m (panels_ : List (Str × (Int × Int))) : Res Unit (Unit × (List (Str × (Int × Int))) × (List (Str × Int))) := (Cloth_init_b panels_).fin (fun b : (List (Str × (Int × Int))) × (List (Str × Int)) => ((), b))
theorem ok_Cloth_init (F : Fx P K mg base TL) : mg "Cloth" = some (.ref (He.ga K "Cloth")) ∧ ∃ f fd, FnOk P w K mg base (L2.CX P w) 4 f fd ["self", "panels"] (spM TL K (cK K) (fun i : Addr × (List (Str × (Int × Int))) => [D.ref i.1, f5 i.2]) (fun i : Addr × (List (Str × (Int × Int))) => [(i.1, O.ins (He.ga K "Cloth") [] [])]) (fun i : Addr × (List (Str × (Int × Int))) => Cloth_init_m i.2) (fun (i : Addr × (List (Str × (Int × Int)))) (b : Unit × (List (Str × (Int × Int))) × (List (Str × Int))) S => ∃ d0_ : Addr, S = (D.non, [(i.1, O.ins (He.ga K "Cloth") ["panels", "tight"] [f5 b.2.1, D.ref d0_]), (d0_, dcO D.str D.int b.2.2)])) (fun _ (_ : Unit) => [])) ∧ Mk K (He.ga K "Cloth") f ∧ Binds K fd ["self", "panels"] [] := by
  obtain ⟨fd, FD⟩ := F.s.def_ 5 (d := d_Cloth_init) rfl
  have bd : Binds K fd ["self", "panels"] [] := FunD.bindsN FD fun _ _ _ _ _ _ us hl => match us, hl with | [_, _], _ => rfl
  obtain ⟨cc, PP, hcc, TB, hmT, huT⟩ := F.t_Cloth_init fd FD
  have ok : FnOk P w K mg base (L2.CX P w) 4 (He.fAd K d_Cloth_init.at_) fd ["self", "panels"] (spM TL K (cK K) (fun i : Addr × (List (Str × (Int × Int))) => [D.ref i.1, f5 i.2]) (fun i : Addr × (List (Str × (Int × Int))) => [(i.1, O.ins (He.ga K "Cloth") [] [])]) (fun i : Addr × (List (Str × (Int × Int))) => Cloth_init_m i.2) (fun (i : Addr × (List (Str × (Int × Int)))) (b : Unit × (List (Str × (Int × Int))) × (List (Str × Int))) S => ∃ d0_ : Addr, S = (D.non, [(i.1, O.ins (He.ga K "Cloth") ["panels", "tight"] [f5 b.2.1, D.ref d0_]), (d0_, dcO D.str D.int b.2.2)])) (fun _ (_ : Unit) => [])) := by
    refine fn_okC (ε := Unit) (β' := (List (Str × (Int × Int))) × (List (Str × Int))) FD sc_Cloth_init (r' := fun i : Addr × (List (Str × (Int × Int))) => Cloth_init_b i.2) (Γ0 := fun i : Addr × (List (Str × (Int × Int))) => [some (D.ref i.1), some (f5 i.2), none, none, none]) (oN := fun i b S => ∃ d0_ : Addr, S.2 = [(i.1, O.ins (He.ga K "Cloth") ["panels", "tight"] [f5 b.1, D.ref d0_]), (d0_, dcO D.str D.int b.2)]) (oJ := fun z : Empty => z.elim) (fun b : (List (Str × (Int × Int))) × (List (Str × Int)) => ((), b)) ?_ (by intros; unfold Cloth_init_m; rfl) (by intros; rfl) (by intros; rfl) ?_
    · rintro ⟨self_, panels_⟩ cdv ec A outer s H E hr
      show SS TL _ (cK K) E (defBody st_Cloth_init) [some (D.ref self_), some (f5 panels_), none, none, none] [(self_, O.ins (He.ga K "Cloth") [] [])] (Cloth_init_b panels_) (fun (b : (List (Str × (Int × Int))) × (List (Str × Int))) (S : En × SH) => ∃ d0_ : Addr, S.2 = [(self_, O.ins (He.ga K "Cloth") ["panels", "tight"] [f5 b.1, D.ref d0_]), (d0_, dcO D.str D.int b.2)]) (fun z : Empty => z.elim) (fun (b : Unit × (List (Str × (Int × Int))) × (List (Str × Int))) S => ∃ d0_ : Addr, S = (D.non, [(self_, O.ins (He.ga K "Cloth") ["panels", "tight"] [f5 b.2.1, D.ref d0_]), (d0_, dcO D.str D.int b.2.2)])) (fun _ : Unit => [])
      unfold Cloth_init_b
      exact (ss_ifx (asC (fun x104 : Bool => x104) (fun _ => [(self_, O.ins (He.ga K "Cloth") [] [])]) (et_w (ew_or (out := fun x104 : Bool => x104) (ho := fun _ => [(self_, O.ins (He.ga K "Cloth") [] [])]) (fun _ : Unit => true) (fun (uu103 : Unit) (x102 : Bool) => x102) (asC (fun uu103 : Unit => eqDT panels_ ([] : List (Str × (Int × Int)))) (fun _ => [(self_, O.ins (He.ga K "Cloth") [] [])]) (et_etp (etp_cmp (ep_var 1) (ep_as (f := f5) (v := ([] : List (Str × (Int × Int)))) ep_dnil) (oc_eqDk tyk_str (tye_2H tye_int tye_int) (u66 hr) .val .val)))) (fun uu103 => (ew_or1 (asC (fun x102 : Bool => x102) (fun _ => [(self_, O.ins (He.ga K "Cloth") [] [])]) (et_of (out := fun x102 : Bool => x102) (asE (fun x102 : Bool => D.bl x102) (fun _ => [(self_, O.ins (He.ga K "Cloth") [] [])]) (ev_gxAny (k := 0) (own' := [("wide", 3), ("high", 4)]) (f := (fun q : Str × (Int × Int) => f4 q.2)) (xs := fun x98 : Unit => panels_) (Γb := fun p99 : Str × (Int × Int) => [some (D.ref self_), some (f5 panels_), none, some (D.int p99.2.1), some (D.int p99.2.2)]) (ot := fun (p99 : Str × (Int × Int)) (uu101 : Unit) => true) (ov := fun (p99 : Str × (Int × Int)) (x100 : Bool) => x100) (het := fun _ : Empty => [(self_, O.ins (He.ga K "Cloth") [] [])]) (hee := fun _ : Empty => [(self_, O.ins (He.ga K "Cloth") [] [])]) (ei_valuesV (g := D.str) (f := f4) tyk_str (ep_var 1)) (hr.mono (by decide)) (by rfl) (fr_any F) TB (ec.symm.trans hcc) hmT huT nd_Cloth_init (gx_by (N := N_Cloth_init) (sc := defScope st_Cloth_init) (by decide +kernel)) (fun _ _ _ _ _ p99 => (egw_wk (egw_tup rfl (egws_cons (Γ1 := [some (D.ref self_), some (f5 panels_), none, some (D.int p99.2.1), none]) (egw_name 3 nd_Cloth_init) (egws_cons (Γ1 := [some (D.ref self_), some (f5 panels_), none, some (D.int p99.2.1), some (D.int p99.2.2)]) (egw_name 4 nd_Cloth_init) egws_nil))) (wk_2 _))) (fun _ _ _ _ _ hrg p99 => ets_nil) (fun _ _ _ _ _ hrg p99 => (asE (fun x100 : Bool => D.bl x100) (fun _ => [(self_, O.ins (He.ga K "Cloth") [] [])]) (ev_p (f := D.bl) (v := decide (min p99.2.1 p99.2.2 < (1 : Int))) (ep_two (two_cmp (nomark _ (by decide) (by decide))) (ep_two (two_B (by rfl) (fr_min F)) (ep_var 3) (ep_var 4) (c_min2 rfl)) ep_int oc_lt))))))))))))) (fun x104 => (ss_one (s1_raise (e0 := ()) rfl (takes_of rfl rfl rfl rfl) (exc_BadPlan F rfl rfl) (eap_cons (ep_str (x := "no cloth")) eap_nil) (by rfl) rfl rfl (.cons _ .slnil)))) (fun x104 => (ss_fld (ns := []) (ns' := ["panels"]) (vs := fun x118 : List (Str × (Int × Int)) => []) (vs' := fun x118 : List (Str × (Int × Int)) => [f5 x118]) (h2 := fun x118 : List (Str × (Int × Int)) => [(self_, O.ins (He.ga K "Cloth") ["panels"] [f5 x118])]) 0 (asE (fun x118 : List (Str × (Int × Int)) => f5 x118) (fun _ => [(self_, O.ins (He.ga K "Cloth") [] [])]) (ev_enD (en_dictP (g := D.str) (f := f4) (ho' := fun _ => [(self_, O.ins (He.ga K "Cloth") [] [])]) (fun x117 : List (Str × (Int × Int)) => x117) tyk_str rfl (by rfl) (fr_dict F) (asE (fun x117 : List (Str × (Int × Int)) => f8 x117) (fun _ => [(self_, O.ins (He.ga K "Cloth") [] [])]) (ev_lc (own' := [("name", 2)]) (f := D.str) (xs := fun x105 : List Str => x105) (Γb := fun p106 : Str => [some (D.ref self_), some (f5 panels_), some (D.str p106), none, none]) (fo := f7) (ot := fun (p106 : Str) (uu116 : Unit) => true) (ov := fun (p106 : Str) (x115 : Unit × (Int × Int)) => (p106, x115.2)) (het := fun _ : Empty => [(self_, O.ins (He.ga K "Cloth") [] [])]) (hee := fun _ : Empty => [(self_, O.ins (He.ga K "Cloth") [] [])]) (ei_lst (out := fun x105 : List Str => x105.map D.str) (asE (fun x105 : List Str => f6 x105) (fun _ => [(self_, O.ins (He.ga K "Cloth") [] [])]) (ev_p (f := f6) (v := isortT D.str (panels_.map (·.1))) (ep_as (f := f6) (v := isortT D.str (panels_.map (·.1))) (ep_one (one_B (by rfl) (fr_sorted F)) (ep_var 1) (c_sortedDkI (g := D.str) (f := f4) tyk_str tys_str tye_str rfl .val (u70 hr))))))) rfl nd_Cloth_init (blkOk_by (N := N_Cloth_init) (sc := defScope st_Cloth_init) (by decide +kernel)) (fun _ _ _ _ _ p106 => (egw_name 2 nd_Cloth_init)) (fun _ _ _ _ _ p106 => ets_nil) (fun _ _ _ _ _ p106 => (asE (fun x115 : Unit × (Int × Int) => f7 (p106, x115.2)) (fun _ => [(self_, O.ins (He.ga K "Cloth") [] [])]) (ev_tup (out := fun x115 : Unit × (Int × Int) => f7 (p106, x115.2)) (ea_cons (fun (uu111 : Unit) (y114 : (Int × Int)) => (uu111, y114)) (out := fun y113 : Unit × (Int × Int) => [D.str p106, f4 y113.2]) (ho := fun _ : Unit × (Int × Int) => [(self_, O.ins (He.ga K "Cloth") [] [])]) (asE (fun uu111 : Unit => D.str p106) (fun _ => [(self_, O.ins (He.ga K "Cloth") [] [])]) (ev_ep (ep_var 2))) (fun uu111 => (ea_cons (fun (x110 : Int × Int) (_ : Unit) => x110) (out := fun y112 : (Int × Int) => [f4 y112]) (ho := fun _ : (Int × Int) => [(self_, O.ins (He.ga K "Cloth") [] [])]) (asE (fun x110 : Int × Int => f4 x110) (fun _ => [(self_, O.ins (He.ga K "Cloth") [] [])]) (ev_one (out := f4) (ho := fun _ => [(self_, O.ins (He.ga K "Cloth") [] [])]) (one_Ty (by rfl) (fr_tuple F)) (fun (x107 : Int × Int) (g109 : Unit) => x107) (asE (fun x107 : Int × Int => f4 x107) (fun _ => [(self_, O.ins (He.ga K "Cloth") [] [])]) (ev_dgetI (f := f4) (fun uu108 : Unit => p106) tyk_str (u1 hr) (ep_var 1) .val (asE (fun uu108 : Unit => D.str p106) (fun _ => [(self_, O.ins (He.ga K "Cloth") [] [])]) (ev_ep (ep_var 2))))) (fun x107 => c_tupleH))) (fun _ => ea_eap eap_nil))))))))) (fun _ => .frz)))) (fun x118 => (ep_var 0)) (fun x118 => (.new (by decide))) (fun x118 => (ss_fldN (oo := fun x119 : List (Str × Int) => dcO D.str D.int x119) (ho := fun _ => [(self_, O.ins (He.ga K "Cloth") ["panels"] [f5 x118])]) (ns := ["panels"]) (ns' := ["panels", "tight"]) (vs := fun x119 : List (Str × Int) => [f5 x118]) (vs' := fun (x119 : List (Str × Int)) (n120 : Addr) => [f5 x118, D.ref n120]) (h2 := fun (x119 : List (Str × Int)) (n120 : Addr) => [(self_, O.ins (He.ga K "Cloth") ["panels", "tight"] [f5 x118, D.ref n120]), (n120, dcO D.str D.int x119)]) 0 (en_dictP (g := D.str) (f := D.int) (ho' := fun _ => [(self_, O.ins (He.ga K "Cloth") ["panels"] [f5 x118])]) (fun x125 : List (Str × Int) => x125) tyk_str rfl (by rfl) (fr_dict F) (asE (fun x125 : List (Str × Int) => f10 x125) (fun _ => [(self_, O.ins (He.ga K "Cloth") ["panels"] [f5 x118])]) (ev_lc (own' := [("name", 2)]) (f := (fun q : Str × (Int × Int) => D.str q.1)) (xs := fun x121 : Unit => x118) (Γb := fun p122 : Str × (Int × Int) => [some (D.ref self_), some (f5 panels_), some (D.str p122.1), none, none]) (fo := f9) (ot := fun (p122 : Str × (Int × Int)) (uu124 : Unit) => true) (ov := fun (p122 : Str × (Int × Int)) (x123 : Str × Int) => x123) (het := fun _ : Empty => [(self_, O.ins (He.ga K "Cloth") ["panels"] [f5 x118])]) (hee := fun _ : Empty => [(self_, O.ins (He.ga K "Cloth") ["panels"] [f5 x118])]) (ei_keysV (g := D.str) (f := f4) tyk_str (ep_fld 0 (ep_var 0) (List.mem_of_getElem? (i := 0) rfl) (cls_Cloth F) (noat_Cloth_panels F) (by decide))) rfl nd_Cloth_init (blkOk_by (N := N_Cloth_init) (sc := defScope st_Cloth_init) (by decide +kernel)) (fun _ _ _ _ _ p122 => (egw_name 2 nd_Cloth_init)) (fun _ _ _ _ _ p122 => ets_nil) (fun _ _ _ _ _ p122 => (asE (fun x123 : Str × Int => f9 x123) (fun _ => [(self_, O.ins (He.ga K "Cloth") ["panels"] [f5 x118])]) (ev_p (f := f9) (v := (p122.1, (10 : Int))) (ep_as (f := f9) (v := (p122.1, (10 : Int))) (ep_tup (eap_cons (ep_var 2) (eap_cons ep_int eap_nil))))))))) (fun _ => .frz)) (fun x119 n120 => (ep_var 0)) (fun x119 n120 => (.new (by decide))) (fun x119 n120 => (asS [some (D.ref self_), some (f5 panels_), none, none, none] [(self_, O.ins (He.ga K "Cloth") ["panels", "tight"] [f5 x118, D.ref n120]), (n120, dcO D.str D.int x119)] (ss_nil (b := (x118, x119)) ⟨n120, rfl⟩ (LeG.refl _) (.cons₂ _ (.cons₂ _ .slnil))))) (cls_Cloth F) (noat_Cloth_tight F))) (cls_Cloth F) (noat_Cloth_panels F))))
    · intro i b S hS; obtain ⟨d0_, hS⟩ := hS; exact ⟨d0_, by rw [hS]⟩
  exact ⟨gl_Cloth F, _, _, ok, mk_Cloth F, bd⟩
abbrev N_thunder_far : List Str := ["seconds"]
theorem sc_thunder_far : FnScope N_thunder_far ["seconds"] (defScope st_thunder_far) := ⟨rfl, rfl, rfl, by decide +kernel, rfl, by decide +kernel, by decide +kernel⟩
def thunder_far_b (seconds_ : Int) : Res Unit (Fl Unit Empty Int) :=
  (if (decide (seconds_ < (0 : Int))) = true then (Res.err .size ()) else (Res.ok (.rt (((1000 : Int) * seconds_) / (3 : Int)))))
@[irreducible] def thunder_far_m (seconds_ : Int) : Res Unit Int := (thunder_far_b seconds_).fin (fun _ => (0 : Int))
theorem ok_thunder_far (F : Fx P K mg base TL) : ∃ f fd, FnOk P w K mg base (L2.CX P w) 1 f fd ["seconds"] (spM TL K (cK K) (fun i : Int => [D.int i]) (fun i : Int => []) (fun i : Int => thunder_far_m i) (fun (i : Int) (b : Int) S => S = (D.int b, [])) (fun (i : Int) (e : Unit) => [])) ∧ mg "thunder_far" = some (.ref f) ∧ PySem.W.keepIn K (.ref f) = true ∧ Binds K fd ["seconds"] [] := by
  obtain ⟨fd, FD⟩ := F.s.def_ 6 (d := d_thunder_far) rfl
  have bd : Binds K fd ["seconds"] [] := FunD.bindsN FD fun _ _ _ _ _ _ us hl => match us, hl with | [_], _ => rfl
  have ok : FnOk P w K mg base (L2.CX P w) 1 (He.fAd K d_thunder_far.at_) fd ["seconds"] (spM TL K (cK K) (fun i : Int => [D.int i]) (fun i : Int => []) (fun i : Int => thunder_far_m i) (fun (i : Int) (b : Int) S => S = (D.int b, [])) (fun (i : Int) (e : Unit) => [])) := by
    refine fn_okC (ε := Unit) (β' := Unit) FD sc_thunder_far (r' := fun i : Int => thunder_far_b i) (Γ0 := fun i : Int => [some (D.int i)]) (oN := fun _ _ _ => False) (oJ := fun z : Empty => z.elim) (fun _ => (0 : Int)) ?_ (by intros; unfold thunder_far_m; rfl) (by intros; rfl) (by intros; rfl) ?_
    · rintro seconds_ cdv ec A outer s H E hr
      show SS TL _ (cK K) E (defBody st_thunder_far) [some (D.int seconds_)] [] (thunder_far_b seconds_) (fun _ _ => False) (fun z : Empty => z.elim) (fun (b : Int) S => S = (D.int b, [])) (fun e : Unit => [])
      unfold thunder_far_b
      exact (ss_ifxP (etp_cmp (ep_var 0) ep_int oc_lt) (ss_one (s1_raise (e0 := ()) rfl (takes_of rfl rfl rfl rfl) (exc_BadSize F rfl rfl) (eap_cons (ep_str (x := "below nought")) eap_nil) (by rfl) rfl rfl .slnil)) (ss_one (s1_retP (v := ((1000 : Int) * seconds_) / (3 : Int)) (ep_two two_bin (ep_two two_bin ep_int (ep_var 0) oi_mulL) ep_int oi_divC))))
    · exact fun i b S hS => hS.elim
  exact ⟨_, _, ok, gl_thunder_far F, FD.kp, bd⟩
abbrev N_read_row : List Str := ["text", "words", "one", "found", "sign"]
theorem nd_read_row : N_read_row.Nodup := by decide +kernel
theorem sc_read_row : FnScope N_read_row ["text"] (defScope st_read_row) := ⟨rfl, rfl, rfl, by decide +kernel, rfl, by decide +kernel, by decide +kernel⟩
def read_row_b (text_ : Str) : Res Unit (Fl Unit Empty Unit) :=
  (((Res.ok text_).bind fun x137 : Str => (Res.ok ()).bind fun uu138 : Unit => (Res.ofO (splitG x137 (" " : Str))).bind fun g140 : List Str => .ok g140).bind fun x139 : List Str => (if (!decide ((x139.length : Int) = (4 : Int))) = true then (Res.err (.text (0 : Int)) ()) else Res.bad))
@[irreducible] def read_row_m (text_ : Str) : Res Unit Unit := (read_row_b text_).fin (fun _ => ())
theorem ok_read_row (F : Fx P K mg base TL) : ∃ f fd, FnOk P w K mg base (L2.CX P w) 2 f fd ["text"] (spM TL K (cK K) (fun i : Str => [D.str i]) (fun i : Str => []) (fun i : Str => read_row_m i) (fun (i : Str) (b : Unit) S => S = (D.non, [])) (fun (i : Str) (e : Unit) => [])) ∧ mg "read_row" = some (.ref f) ∧ PySem.W.keepIn K (.ref f) = true ∧ Binds K fd ["text"] [] := by
  obtain ⟨fd, FD⟩ := F.s.def_ 7 (d := d_read_row) rfl
  have bd : Binds K fd ["text"] [] := FunD.bindsN FD fun _ _ _ _ _ _ us hl => match us, hl with | [_], _ => rfl
  have ok : FnOk P w K mg base (L2.CX P w) 2 (He.fAd K d_read_row.at_) fd ["text"] (spM TL K (cK K) (fun i : Str => [D.str i]) (fun i : Str => []) (fun i : Str => read_row_m i) (fun (i : Str) (b : Unit) S => S = (D.non, [])) (fun (i : Str) (e : Unit) => [])) := by
    refine fn_okC (ε := Unit) (β' := Unit) FD sc_read_row (r' := fun i : Str => read_row_b i) (Γ0 := fun i : Str => [some (D.str i), none, none, none, none]) (oN := fun _ _ _ => False) (oJ := fun z : Empty => z.elim) (fun _ => ()) ?_ (by intros; unfold read_row_m; rfl) (by intros; rfl) (by intros; rfl) ?_
    · rintro text_ cdv ec A outer s H E hr
      show SS TL _ (cK K) E (defBody st_read_row) [some (D.str text_), none, none, none, none] [] (read_row_b text_) (fun _ _ => False) (fun z : Empty => z.elim) (fun (b : Unit) S => S = (D.non, [])) (fun e : Unit => [])
      unfold read_row_b
      exact (ss_set (Γ1 := fun x139 : List Str => [some (D.str text_), some (f6 x139), none, none, none]) 1 (asE (fun x139 : List Str => f6 x139) (fun _ => []) (ev_tm1 (rop := fun (x137 : Str) (uu138 : Unit) => splitG x137 (" " : Str)) (oo := fun (_ : Str) (_ : Unit) (g140 : List Str) => f6 g140) (fun (_ : Str) (_ : Unit) (g140 : List Str) => g140) PySem.F.slot_str_split PySem.F.type_str_split mt_split (asE (fun x137 : Str => D.str x137) (fun _ => []) (ev_p (f := D.str) (v := text_) (ep_var 0))) (fun x137 => (asE (fun uu138 : Unit => D.str (" " : Str)) (fun _ => []) (ev_ep (ep_str (x := " "))))) (fun _ => ⟨_, rfl⟩) (fun x137 uu138 u v H Q q => tm_split _ _ u v H Q q))) (fun x139 => (ss_ifxP (etp_cmp (ep_one (one_B (by rfl) (fr_len F)) (ep_var 1) (c_lenF .lst)) ep_int (oc_ne tye_int (u64 hr))) (ss_one (s1_raiseT (nn := (0 : Int)) (e0 := ()) rfl (takes_of rfl rfl rfl rfl) (btx F rfl rfl rfl) (hr.mono (by decide) : Room 1 _) (eap_cons ep_int eap_nil) (by rfl) .slnil)) ss_bad)) (by intros; rfl) nd_read_row)
    · exact fun i b S hS => hS.elim
  exact ⟨_, _, ok, gl_read_row F, FD.kp, bd⟩
abbrev N_fly_overhang : List Str := ["inner", "outer", "least", "gap"]
theorem nd_fly_overhang : N_fly_overhang.Nodup := by decide +kernel
theorem sc_fly_overhang : FnScope N_fly_overhang ["inner", "outer", "least"] (defScope st_fly_overhang) := ⟨rfl, rfl, rfl, by decide +kernel, rfl, by decide +kernel, by decide +kernel⟩
def fly_overhang_b (inner_ : Int) (outer_ : Int) (least_ : Int) : Res Unit (Fl Unit Empty Int) :=
  ((Res.ok ((outer_ - inner_) / (2 : Int))).bind fun x146 : Int => (if (decide (x146 < least_)) = true then (Res.err .gives ()) else (Res.ok (.rt x146))))
@[irreducible] def fly_overhang_m (inner_ : Int) (outer_ : Int) (least_ : Int) : Res Unit Int := (fly_overhang_b inner_ outer_ least_).fin (fun _ => (0 : Int))
theorem ok_fly_overhang (F : Fx P K mg base TL) : ∃ f fd, FnOk P w K mg base (L2.CX P w) 1 f fd ["inner", "outer", "least"] (spM TL K (cK K) (fun i : Int × Int × Int => [D.int i.1, D.int i.2.1, D.int i.2.2]) (fun i : Int × Int × Int => []) (fun i : Int × Int × Int => fly_overhang_m i.1 i.2.1 i.2.2) (fun (i : Int × Int × Int) (b : Int) S => S = (D.int b, [])) (fun (i : Int × Int × Int) (e : Unit) => [])) ∧ mg "fly_overhang" = some (.ref f) ∧ PySem.W.keepIn K (.ref f) = true ∧ Binds K fd ["inner", "outer", "least"] [] := by
  obtain ⟨fd, FD⟩ := F.s.def_ 8 (d := d_fly_overhang) rfl
  have bd : Binds K fd ["inner", "outer", "least"] [] := FunD.bindsN FD fun _ _ _ _ _ _ us hl => match us, hl with | [_, _, _], _ => rfl
  have ok : FnOk P w K mg base (L2.CX P w) 1 (He.fAd K d_fly_overhang.at_) fd ["inner", "outer", "least"] (spM TL K (cK K) (fun i : Int × Int × Int => [D.int i.1, D.int i.2.1, D.int i.2.2]) (fun i : Int × Int × Int => []) (fun i : Int × Int × Int => fly_overhang_m i.1 i.2.1 i.2.2) (fun (i : Int × Int × Int) (b : Int) S => S = (D.int b, [])) (fun (i : Int × Int × Int) (e : Unit) => [])) := by
    refine fn_okC (ε := Unit) (β' := Unit) FD sc_fly_overhang (r' := fun i : Int × Int × Int => fly_overhang_b i.1 i.2.1 i.2.2) (Γ0 := fun i : Int × Int × Int => [some (D.int i.1), some (D.int i.2.1), some (D.int i.2.2), none]) (oN := fun _ _ _ => False) (oJ := fun z : Empty => z.elim) (fun _ => (0 : Int)) ?_ (by intros; unfold fly_overhang_m; rfl) (by intros; rfl) (by intros; rfl) ?_
    · rintro ⟨inner_, outer_, least_⟩ cdv ec A outer s H E hr
      show SS TL _ (cK K) E (defBody st_fly_overhang) [some (D.int inner_), some (D.int outer_), some (D.int least_), none] [] (fly_overhang_b inner_ outer_ least_) (fun _ _ => False) (fun z : Empty => z.elim) (fun (b : Int) S => S = (D.int b, [])) (fun e : Unit => [])
      unfold fly_overhang_b
      exact (ss_set (Γ1 := fun x146 : Int => [some (D.int inner_), some (D.int outer_), some (D.int least_), some (D.int x146)]) 3 (asE (fun x146 : Int => D.int x146) (fun _ => []) (ev_p (f := D.int) (v := (outer_ - inner_) / (2 : Int)) (ep_two two_bin (ep_two two_bin (ep_var 1) (ep_var 0) oi_sub) ep_int oi_divC))) (fun x146 => (ss_ifxP (etp_cmp (ep_var 3) (ep_var 2) oc_lt) (ss_one (s1_raise (e0 := ()) rfl (takes_of rfl rfl rfl rfl) (exc_Gives F rfl rfl) (eap_cons (ep_str (x := "it soaks")) eap_nil) (by rfl) rfl rfl .slnil)) (ss_one (s1_retP (v := x146) (ep_var 3))))) (by intros; rfl) nd_fly_overhang)
    · exact fun i b S hS => hS.elim
  exact ⟨_, _, ok, gl_fly_overhang F, FD.kp, bd⟩
abbrev N_DryLine_init : List Str := ["self", "long"]
theorem sc_DryLine_init : FnScope N_DryLine_init ["self", "long"] (defScope st_DryLine_init) := ⟨rfl, rfl, rfl, by decide +kernel, rfl, by decide +kernel, by decide +kernel⟩
def DryLine_init_b (long_ : Int) : Res Unit (Fl (Int × (List (Str × (Int × Int)))) Empty (Unit × Int × (List (Str × (Int × Int))))) :=
  (if (decide (long_ < (1 : Int))) = true then (Res.err .plan ()) else ((Res.ok long_).bind fun x151 : Int => ((Res.ok ([] : List (Str × (Int × Int)))).bind fun x152 : List (Str × (Int × Int)) => (Res.ok (.nx (x151, x152))))))
@[irreducible] def DryLine_init_m (long_ : Int) : Res Unit (Unit × Int × (List (Str × (Int × Int)))) := (DryLine_init_b long_).fin (fun b : Int × (List (Str × (Int × Int))) => ((), b))
theorem ok_DryLine_init (F : Fx P K mg base TL) : mg "DryLine" = some (.ref (He.ga K "DryLine")) ∧ ∃ f fd, FnOk P w K mg base (L2.CX P w) 1 f fd ["self", "long"] (spM TL K (cK K) (fun i : Addr × Int => [D.ref i.1, D.int i.2]) (fun i : Addr × Int => [(i.1, O.ins (He.ga K "DryLine") [] [])]) (fun i : Addr × Int => DryLine_init_m i.2) (fun (i : Addr × Int) (b : Unit × Int × (List (Str × (Int × Int)))) S => ∃ d0_ : Addr, S = (D.non, [(i.1, O.ins (He.ga K "DryLine") ["long", "things"] [D.int b.2.1, D.ref d0_]), (d0_, dcO D.str f4 b.2.2)])) (fun _ (_ : Unit) => [])) ∧ Mk K (He.ga K "DryLine") f ∧ Binds K fd ["self", "long"] [] := by
  obtain ⟨fd, FD⟩ := F.s.def_ 9 (d := d_DryLine_init) rfl
  have bd : Binds K fd ["self", "long"] [] := FunD.bindsN FD fun _ _ _ _ _ _ us hl => match us, hl with | [_, _], _ => rfl
  have ok : FnOk P w K mg base (L2.CX P w) 1 (He.fAd K d_DryLine_init.at_) fd ["self", "long"] (spM TL K (cK K) (fun i : Addr × Int => [D.ref i.1, D.int i.2]) (fun i : Addr × Int => [(i.1, O.ins (He.ga K "DryLine") [] [])]) (fun i : Addr × Int => DryLine_init_m i.2) (fun (i : Addr × Int) (b : Unit × Int × (List (Str × (Int × Int)))) S => ∃ d0_ : Addr, S = (D.non, [(i.1, O.ins (He.ga K "DryLine") ["long", "things"] [D.int b.2.1, D.ref d0_]), (d0_, dcO D.str f4 b.2.2)])) (fun _ (_ : Unit) => [])) := by
    refine fn_okC (ε := Unit) (β' := Int × (List (Str × (Int × Int)))) FD sc_DryLine_init (r' := fun i : Addr × Int => DryLine_init_b i.2) (Γ0 := fun i : Addr × Int => [some (D.ref i.1), some (D.int i.2)]) (oN := fun i b S => ∃ d0_ : Addr, S.2 = [(i.1, O.ins (He.ga K "DryLine") ["long", "things"] [D.int b.1, D.ref d0_]), (d0_, dcO D.str f4 b.2)]) (oJ := fun z : Empty => z.elim) (fun b : Int × (List (Str × (Int × Int))) => ((), b)) ?_ (by intros; unfold DryLine_init_m; rfl) (by intros; rfl) (by intros; rfl) ?_
    · rintro ⟨self_, long_⟩ cdv ec A outer s H E hr
      show SS TL _ (cK K) E (defBody st_DryLine_init) [some (D.ref self_), some (D.int long_)] [(self_, O.ins (He.ga K "DryLine") [] [])] (DryLine_init_b long_) (fun (b : Int × (List (Str × (Int × Int)))) (S : En × SH) => ∃ d0_ : Addr, S.2 = [(self_, O.ins (He.ga K "DryLine") ["long", "things"] [D.int b.1, D.ref d0_]), (d0_, dcO D.str f4 b.2)]) (fun z : Empty => z.elim) (fun (b : Unit × Int × (List (Str × (Int × Int)))) S => ∃ d0_ : Addr, S = (D.non, [(self_, O.ins (He.ga K "DryLine") ["long", "things"] [D.int b.2.1, D.ref d0_]), (d0_, dcO D.str f4 b.2.2)])) (fun _ : Unit => [])
      unfold DryLine_init_b
      exact (ss_ifxP (etp_cmp (ep_var 1) ep_int oc_lt) (ss_one (s1_raise (e0 := ()) rfl (takes_of rfl rfl rfl rfl) (exc_BadPlan F rfl rfl) (eap_cons (ep_str (x := "no line")) eap_nil) (by rfl) rfl rfl (.cons _ .slnil))) (ss_fld (ns := []) (ns' := ["long"]) (vs := fun x151 : Int => []) (vs' := fun x151 : Int => [D.int x151]) (h2 := fun x151 : Int => [(self_, O.ins (He.ga K "DryLine") ["long"] [D.int x151])]) 0 (asE (fun x151 : Int => D.int x151) (fun _ => [(self_, O.ins (He.ga K "DryLine") [] [])]) (ev_p (f := D.int) (v := long_) (ep_var 1))) (fun x151 => (ep_var 0)) (fun x151 => (.new (by decide))) (fun x151 => (ss_fldN (oo := fun x152 : List (Str × (Int × Int)) => dcO D.str f4 x152) (ho := fun _ => [(self_, O.ins (He.ga K "DryLine") ["long"] [D.int x151])]) (ns := ["long"]) (ns' := ["long", "things"]) (vs := fun x152 : List (Str × (Int × Int)) => [D.int x151]) (vs' := fun (x152 : List (Str × (Int × Int))) (n153 : Addr) => [D.int x151, D.ref n153]) (h2 := fun (x152 : List (Str × (Int × Int))) (n153 : Addr) => [(self_, O.ins (He.ga K "DryLine") ["long", "things"] [D.int x151, D.ref n153]), (n153, dcO D.str f4 x152)]) 0 (en_dnil (ε := Unit) (cA := cK K) (Wx := WK E) (he := (fun _ : Unit => [])) (g := D.str) (f := f4)) (fun x152 n153 => (ep_var 0)) (fun x152 n153 => (.new (by decide))) (fun x152 n153 => (asS [some (D.ref self_), some (D.int long_)] [(self_, O.ins (He.ga K "DryLine") ["long", "things"] [D.int x151, D.ref n153]), (n153, dcO D.str f4 x152)] (ss_nil (b := (x151, x152)) ⟨n153, rfl⟩ (LeG.refl _) (.cons₂ _ (.cons₂ _ .slnil))))) (cls_DryLine F) (noat_DryLine_things F))) (cls_DryLine F) (noat_DryLine_long F)))
    · intro i b S hS; obtain ⟨d0_, hS⟩ := hS; exact ⟨d0_, by rw [hS]⟩
  exact ⟨gl_DryLine F, _, _, ok, mk_DryLine F, bd⟩
abbrev N_DryLine_taken : List Str := ["self", "wide", "wet"]
theorem nd_DryLine_taken : N_DryLine_taken.Nodup := by decide +kernel
theorem sc_DryLine_taken : FnScope N_DryLine_taken ["self"] (defScope st_DryLine_taken) := ⟨rfl, rfl, rfl, by decide +kernel, rfl, by decide +kernel, by decide +kernel⟩
def DryLine_taken_b (self_long : Int) (self_things : List (Str × (Int × Int))) : Res Empty (Fl Unit Empty Int) :=
  (((((Res.ok ()).bind fun x159 : Unit => sumR (fun p160 : Str × (Int × Int) => stepR (fun uu162 : Unit => true) (fun x161 : Int => x161) ((Res.ok ()) : Res Empty Unit) ((Res.ok p160.2.1) : Res Empty Int)) self_things 0) : Res Empty Int).noE).bind fun x164 : Int => Res.ok (.rt x164))
@[irreducible] def DryLine_taken_m (self_long : Int) (self_things : List (Str × (Int × Int))) : Res Empty Int := (DryLine_taken_b self_long self_things).fin (fun _ => (0 : Int))
theorem ok_DryLine_taken (F : Fx P K mg base TL) : Cls K (He.ga K "DryLine") ∧ ∃ f fd, FnOk P w K mg base (L2.CX P w) 4 f fd ["self"] (spM TL K (cK K) (fun i : Addr × Int × Addr × (List (Str × (Int × Int))) => [D.ref i.1]) (fun i : Addr × Int × Addr × (List (Str × (Int × Int))) => [(i.1, O.ins (He.ga K "DryLine") ["long", "things"] [D.int i.2.1, D.ref i.2.2.1]), (i.2.2.1, dcO D.str f4 i.2.2.2)]) (fun i : Addr × Int × Addr × (List (Str × (Int × Int))) => DryLine_taken_m i.2.1 i.2.2.2) (fun (i : Addr × Int × Addr × (List (Str × (Int × Int)))) (b : Int) S => S = (D.int b, [(i.1, O.ins (He.ga K "DryLine") ["long", "things"] [D.int i.2.1, D.ref i.2.2.1]), (i.2.2.1, dcO D.str f4 i.2.2.2)])) (fun _ (e : Empty) => e.elim)) ∧ Meth K (He.ga K "DryLine") "taken" f ∧ Binds K fd ["self"] [] := by
  obtain ⟨fd, FD⟩ := F.s.def_ 10 (d := d_DryLine_taken) rfl
  have bd : Binds K fd ["self"] [] := FunD.bindsN FD fun _ _ _ _ _ _ us hl => match us, hl with | [_], _ => rfl
  obtain ⟨cc, PP, hcc, TB, hmT, huT⟩ := F.t_DryLine_taken fd FD
  have ok : FnOk P w K mg base (L2.CX P w) 4 (He.fAd K d_DryLine_taken.at_) fd ["self"] (spM TL K (cK K) (fun i : Addr × Int × Addr × (List (Str × (Int × Int))) => [D.ref i.1]) (fun i : Addr × Int × Addr × (List (Str × (Int × Int))) => [(i.1, O.ins (He.ga K "DryLine") ["long", "things"] [D.int i.2.1, D.ref i.2.2.1]), (i.2.2.1, dcO D.str f4 i.2.2.2)]) (fun i : Addr × Int × Addr × (List (Str × (Int × Int))) => DryLine_taken_m i.2.1 i.2.2.2) (fun (i : Addr × Int × Addr × (List (Str × (Int × Int)))) (b : Int) S => S = (D.int b, [(i.1, O.ins (He.ga K "DryLine") ["long", "things"] [D.int i.2.1, D.ref i.2.2.1]), (i.2.2.1, dcO D.str f4 i.2.2.2)])) (fun _ (e : Empty) => e.elim)) := by
    refine fn_okC (ε := Empty) (β' := Unit) FD sc_DryLine_taken (r' := fun i : Addr × Int × Addr × (List (Str × (Int × Int))) => DryLine_taken_b i.2.1 i.2.2.2) (Γ0 := fun i : Addr × Int × Addr × (List (Str × (Int × Int))) => [some (D.ref i.1), none, none]) (oN := fun _ _ _ => False) (oJ := fun z : Empty => z.elim) (fun _ => (0 : Int)) ?_ (by intros; unfold DryLine_taken_m; rfl) (by intros; rfl) (by intros; rfl) ?_
    · rintro ⟨self_, self_long, self_things_a, self_things⟩ cdv ec A outer s H E hr
      show SS TL _ (cK K) E (defBody st_DryLine_taken) [some (D.ref self_), none, none] [(self_, O.ins (He.ga K "DryLine") ["long", "things"] [D.int self_long, D.ref self_things_a]), (self_things_a, dcO D.str f4 self_things)] (DryLine_taken_b self_long self_things) (fun _ _ => False) (fun z : Empty => z.elim) (fun (b : Int) S => S = (D.int b, [(self_, O.ins (He.ga K "DryLine") ["long", "things"] [D.int self_long, D.ref self_things_a]), (self_things_a, dcO D.str f4 self_things)])) (fun e : Empty => e.elim)
      unfold DryLine_taken_b
      exact (ss_one (s1_ret (fun x164 : Int => x164) (asE (fun x164 : Int => D.int x164) (fun _ => [(self_, O.ins (He.ga K "DryLine") ["long", "things"] [D.int self_long, D.ref self_things_a]), (self_things_a, dcO D.str f4 self_things)]) (ev_lockD (hE := fun e : Empty => e.elim) (out := D.int) 1 rfl (fun od157 kv158 => (asH [(self_, O.ins (He.ga K "DryLine") ["long", "things"] [D.int self_long, D.ref self_things_a]), (self_things_a, O.dic (some (.frz od157 (.dK kv158))) false (self_things.map fun q : Str × (Int × Int) => D.str q.1) (self_things.map fun q : Str × (Int × Int) => f4 q.2))] (asE (fun x163 : Int => D.int x163) (fun _ => [(self_, O.ins (He.ga K "DryLine") ["long", "things"] [D.int self_long, D.ref self_things_a]), (self_things_a, O.dic (some (.frz od157 (.dK kv158))) false (self_things.map fun q : Str × (Int × Int) => D.str q.1) (self_things.map fun q : Str × (Int × Int) => f4 q.2))]) (ev_gxS (k := 0) (own' := [("wide", 1), ("wet", 2)]) (f := (fun q : Str × (Int × Int) => f4 q.2)) (xs := fun x159 : Unit => self_things) (Γb := fun p160 : Str × (Int × Int) => [some (D.ref self_), some (D.int p160.2.1), some (D.int p160.2.2)]) (ot := fun (p160 : Str × (Int × Int)) (uu162 : Unit) => true) (ov := fun (p160 : Str × (Int × Int)) (x161 : Int) => x161) (het := fun _ : Empty => [(self_, O.ins (He.ga K "DryLine") ["long", "things"] [D.int self_long, D.ref self_things_a]), (self_things_a, O.dic (some (.frz od157 (.dK kv158))) false (self_things.map fun q : Str × (Int × Int) => D.str q.1) (self_things.map fun q : Str × (Int × Int) => f4 q.2))]) (hee := fun _ : Empty => [(self_, O.ins (He.ga K "DryLine") ["long", "things"] [D.int self_long, D.ref self_things_a]), (self_things_a, O.dic (some (.frz od157 (.dK kv158))) false (self_things.map fun q : Str × (Int × Int) => D.str q.1) (self_things.map fun q : Str × (Int × Int) => f4 q.2))]) (ei_valuesC (g := D.str) (f := f4) tyk_str (ep_fld 1 (ep_var 0) (List.mem_of_getElem? (i := 0) rfl) (cls_DryLine F) (noat_DryLine_things F) (by decide)) (List.mem_of_getElem? (i := 1) rfl)) (hr.mono (by decide)) (by rfl) (fr_sum F) TB (ec.symm.trans hcc) hmT huT nd_DryLine_taken (gx_by (N := N_DryLine_taken) (sc := defScope st_DryLine_taken) (by decide +kernel)) (fun _ _ _ _ _ p160 => (egw_wk (egw_tup rfl (egws_cons (Γ1 := [some (D.ref self_), some (D.int p160.2.1), none]) (egw_name 1 nd_DryLine_taken) (egws_cons (Γ1 := [some (D.ref self_), some (D.int p160.2.1), some (D.int p160.2.2)]) (egw_name 2 nd_DryLine_taken) egws_nil))) (wk_2 _))) (fun _ _ _ _ _ hrg p160 => ets_nil) (fun _ _ _ _ _ hrg p160 => (asE (fun x161 : Int => D.int x161) (fun _ => [(self_, O.ins (He.ga K "DryLine") ["long", "things"] [D.int self_long, D.ref self_things_a]), (self_things_a, O.dic (some (.frz od157 (.dK kv158))) false (self_things.map fun q : Str × (Int × Int) => D.str q.1) (self_things.map fun q : Str × (Int × Int) => f4 q.2))]) (ev_p (f := D.int) (v := p160.2.1) (ep_var 1)))) (by intros; rfl) (fun _ => List.mem_of_getElem? (i := 1) rfl)))))))))
    · exact fun i b S hS => hS.elim
  exact ⟨cls_DryLine F, _, _, ok, me_DryLine_taken F, bd⟩
abbrev N_DryLine_hang : List Str := ["self", "name", "wide", "wet"]
theorem sc_DryLine_hang : FnScope N_DryLine_hang ["self", "name", "wide", "wet"] (defScope st_DryLine_hang) := ⟨rfl, rfl, rfl, by decide +kernel, rfl, by decide +kernel, by decide +kernel⟩
def DryLine_hang_b (self_long : Int) (self_things : List (Str × (Int × Int))) (name_ : Str) (wide_ : Int) (wet_ : Int) : Res (Int × (List (Str × (Int × Int)))) (Fl (Int × (List (Str × (Int × Int)))) Empty (Unit × Int × (List (Str × (Int × Int))))) :=
  (if ((decide (name_ = ("" : Str))) || ((lookT self_things name_).isSome)) = true then (Res.err .deed (self_long, self_things)) else (if ((decide (wide_ < (1 : Int))) || (decide (wet_ < (0 : Int)))) = true then (Res.err .size (self_long, self_things)) else (((((Res.ok ()).bind fun _ : Unit => ((DryLine_taken_m self_long self_things).noE).bind fun b158 : Int => .ok b158).bind fun b158 : Int => (Res.ok ()).bind fun uu159 : Unit => (Res.ofO (some ())).bind fun _ : Unit => .ok (b158 + wide_)).bind fun x161 : Int => (Res.ok ()).bind fun uu162 : Unit => (Res.ofO (some ())).bind fun _ : Unit => .ok (decide (self_long < x161))).bind fun x164 : Bool => if x164 = true then (Res.err .room (self_long, self_things)) else Res.bad)))
@[irreducible] def DryLine_hang_m (self_long : Int) (self_things : List (Str × (Int × Int))) (name_ : Str) (wide_ : Int) (wet_ : Int) : Res (Int × (List (Str × (Int × Int)))) (Unit × Int × (List (Str × (Int × Int)))) := (DryLine_hang_b self_long self_things name_ wide_ wet_).fin (fun _ => ((), (0 : Int), []))
theorem ok_DryLine_hang (F : Fx P K mg base TL) : Cls K (He.ga K "DryLine") ∧ ∃ f fd, FnOk P w K mg base (L2.CX P w) 5 f fd ["self", "name", "wide", "wet"] (spM TL K (cK K) (fun i : Addr × Int × Addr × (List (Str × (Int × Int))) × Str × Int × Int => [D.ref i.1, D.str i.2.2.2.2.1, D.int i.2.2.2.2.2.1, D.int i.2.2.2.2.2.2]) (fun i : Addr × Int × Addr × (List (Str × (Int × Int))) × Str × Int × Int => [(i.1, O.ins (He.ga K "DryLine") ["long", "things"] [D.int i.2.1, D.ref i.2.2.1]), (i.2.2.1, dcO D.str f4 i.2.2.2.1)]) (fun i : Addr × Int × Addr × (List (Str × (Int × Int))) × Str × Int × Int => DryLine_hang_m i.2.1 i.2.2.2.1 i.2.2.2.2.1 i.2.2.2.2.2.1 i.2.2.2.2.2.2) (fun (i : Addr × Int × Addr × (List (Str × (Int × Int))) × Str × Int × Int) (b : Unit × Int × (List (Str × (Int × Int)))) S => S = (D.non, [(i.1, O.ins (He.ga K "DryLine") ["long", "things"] [D.int b.2.1, D.ref i.2.2.1]), (i.2.2.1, dcO D.str f4 b.2.2)])) (fun (i : Addr × Int × Addr × (List (Str × (Int × Int))) × Str × Int × Int) (e : Int × (List (Str × (Int × Int)))) => [(i.1, O.ins (He.ga K "DryLine") ["long", "things"] [D.int e.1, D.ref i.2.2.1]), (i.2.2.1, dcO D.str f4 e.2)])) ∧ Meth K (He.ga K "DryLine") "hang" f ∧ Binds K fd ["self", "name", "wide", "wet"] [] := by
  obtain ⟨fd, FD⟩ := F.s.def_ 11 (d := d_DryLine_hang) rfl
  have bd : Binds K fd ["self", "name", "wide", "wet"] [] := FunD.bindsN FD fun _ _ _ _ _ _ us hl => match us, hl with | [_, _, _, _], _ => rfl
  have ok : FnOk P w K mg base (L2.CX P w) 5 (He.fAd K d_DryLine_hang.at_) fd ["self", "name", "wide", "wet"] (spM TL K (cK K) (fun i : Addr × Int × Addr × (List (Str × (Int × Int))) × Str × Int × Int => [D.ref i.1, D.str i.2.2.2.2.1, D.int i.2.2.2.2.2.1, D.int i.2.2.2.2.2.2]) (fun i : Addr × Int × Addr × (List (Str × (Int × Int))) × Str × Int × Int => [(i.1, O.ins (He.ga K "DryLine") ["long", "things"] [D.int i.2.1, D.ref i.2.2.1]), (i.2.2.1, dcO D.str f4 i.2.2.2.1)]) (fun i : Addr × Int × Addr × (List (Str × (Int × Int))) × Str × Int × Int => DryLine_hang_m i.2.1 i.2.2.2.1 i.2.2.2.2.1 i.2.2.2.2.2.1 i.2.2.2.2.2.2) (fun (i : Addr × Int × Addr × (List (Str × (Int × Int))) × Str × Int × Int) (b : Unit × Int × (List (Str × (Int × Int)))) S => S = (D.non, [(i.1, O.ins (He.ga K "DryLine") ["long", "things"] [D.int b.2.1, D.ref i.2.2.1]), (i.2.2.1, dcO D.str f4 b.2.2)])) (fun (i : Addr × Int × Addr × (List (Str × (Int × Int))) × Str × Int × Int) (e : Int × (List (Str × (Int × Int)))) => [(i.1, O.ins (He.ga K "DryLine") ["long", "things"] [D.int e.1, D.ref i.2.2.1]), (i.2.2.1, dcO D.str f4 e.2)])) := by
    refine fn_okC (ε := Int × (List (Str × (Int × Int)))) (β' := Int × (List (Str × (Int × Int)))) FD sc_DryLine_hang (r' := fun i : Addr × Int × Addr × (List (Str × (Int × Int))) × Str × Int × Int => DryLine_hang_b i.2.1 i.2.2.2.1 i.2.2.2.2.1 i.2.2.2.2.2.1 i.2.2.2.2.2.2) (Γ0 := fun i : Addr × Int × Addr × (List (Str × (Int × Int))) × Str × Int × Int => [some (D.ref i.1), some (D.str i.2.2.2.2.1), some (D.int i.2.2.2.2.2.1), some (D.int i.2.2.2.2.2.2)]) (oN := fun _ _ _ => False) (oJ := fun z : Empty => z.elim) (fun _ => ((), (0 : Int), [])) ?_ (by intros; unfold DryLine_hang_m; rfl) (by intros; rfl) (by intros; rfl) ?_
    · rintro ⟨self_, self_long, self_things_a, self_things, name_, wide_, wet_⟩ cdv ec A outer s H E hr
      show SS TL _ (cK K) E (defBody st_DryLine_hang) [some (D.ref self_), some (D.str name_), some (D.int wide_), some (D.int wet_)] [(self_, O.ins (He.ga K "DryLine") ["long", "things"] [D.int self_long, D.ref self_things_a]), (self_things_a, dcO D.str f4 self_things)] (DryLine_hang_b self_long self_things name_ wide_ wet_) (fun _ _ => False) (fun z : Empty => z.elim) (fun (b : Unit × Int × (List (Str × (Int × Int)))) S => S = (D.non, [(self_, O.ins (He.ga K "DryLine") ["long", "things"] [D.int b.2.1, D.ref self_things_a]), (self_things_a, dcO D.str f4 b.2.2)])) (fun e : Int × (List (Str × (Int × Int))) => [(self_, O.ins (He.ga K "DryLine") ["long", "things"] [D.int e.1, D.ref self_things_a]), (self_things_a, dcO D.str f4 e.2)])
      unfold DryLine_hang_b
      exact (ss_ifxP (etp_w (ewp_or (etp_cmp (ep_var 1) (ep_str (x := "")) (oc_eq tye_str (u64 hr))) (ewp_or1 (etp_cmp (ep_var 1) (ep_fld 1 (ep_var 0) (List.mem_of_getElem? (i := 0) rfl) (cls_DryLine F) (noat_DryLine_things F) (by decide)) (oc_inD tyk_str (u1 hr) (.cell (List.mem_of_getElem? (i := 1) rfl))))))) (ss_one (s1_raise (e0 := (self_long, self_things)) rfl (takes_of rfl rfl rfl rfl) (exc_BadDeed F rfl rfl) (eap_cons (ep_str (x := "there, or none")) eap_nil) (by rfl) rfl rfl (.cons₂ _ (.cons₂ _ .slnil)))) (ss_ifxP (etp_w (ewp_or (etp_cmp (ep_var 2) ep_int oc_lt) (ewp_or1 (etp_cmp (ep_var 3) ep_int oc_lt)))) (ss_one (s1_raise (e0 := (self_long, self_things)) rfl (takes_of rfl rfl rfl rfl) (exc_BadSize F rfl rfl) (eap_cons (ep_str (x := "no thing")) eap_nil) (by rfl) rfl rfl (.cons₂ _ (.cons₂ _ .slnil)))) (ss_ifx (asC (fun x164 : Bool => x164) (fun _ => [(self_, O.ins (He.ga K "DryLine") ["long", "things"] [D.int self_long, D.ref self_things_a]), (self_things_a, dcO D.str f4 self_things)]) (et_cmp (out := fun x164 : Bool => x164) (ho := fun _ => [(self_, O.ins (He.ga K "DryLine") ["long", "things"] [D.int self_long, D.ref self_things_a]), (self_things_a, dcO D.str f4 self_things)]) (fun (x161 : Int) (uu162 : Unit) (g163 : Unit) => decide (self_long < x161)) (asE (fun x161 : Int => D.int x161) (fun _ => [(self_, O.ins (He.ga K "DryLine") ["long", "things"] [D.int self_long, D.ref self_things_a]), (self_things_a, dcO D.str f4 self_things)]) (ev_two (out := D.int) (ho := fun _ => [(self_, O.ins (He.ga K "DryLine") ["long", "things"] [D.int self_long, D.ref self_things_a]), (self_things_a, dcO D.str f4 self_things)]) two_bin (fun (b158 : Int) (uu159 : Unit) (g160 : Unit) => b158 + wide_) (asE (fun b158 : Int => D.int b158) (fun _ => [(self_, O.ins (He.ga K "DryLine") ["long", "things"] [D.int self_long, D.ref self_things_a]), (self_things_a, dcO D.str f4 self_things)]) (ev_meth0N (ok_DryLine_taken F) (hr.mono (by decide)) (takes_of rfl rfl rfl rfl) (ev_ep (ep_var 0)) (fun _ => .inr ⟨_, _, _, rfl, List.mem_of_getElem? (i := 0) rfl, by decide⟩) (fun _ : Unit => (self_, self_long, self_things_a, self_things)) 2 [0, 1] [] (fun (_ : Unit) (b158 : Int) => b158) (out := fun b158 : Int => D.int b158) (ho := fun _ : Int => [(self_, O.ins (He.ga K "DryLine") ["long", "things"] [D.int self_long, D.ref self_things_a]), (self_things_a, dcO D.str f4 self_things)]) )) (fun b158 => (asE (fun uu159 : Unit => D.int wide_) (fun _ => [(self_, O.ins (He.ga K "DryLine") ["long", "things"] [D.int self_long, D.ref self_things_a]), (self_things_a, dcO D.str f4 self_things)]) (ev_ep (ep_var 2)))) (fun b158 uu159 => oi_add))) (fun x161 => (asE (fun uu162 : Unit => D.int self_long) (fun _ => [(self_, O.ins (He.ga K "DryLine") ["long", "things"] [D.int self_long, D.ref self_things_a]), (self_things_a, dcO D.str f4 self_things)]) (ev_ep (ep_fld 0 (ep_var 0) (List.mem_of_getElem? (i := 0) rfl) (cls_DryLine F) (noat_DryLine_long F) (by decide))))) (fun x161 uu162 => oc_gt))) (fun x164 => (ss_one (s1_raise (e0 := (self_long, self_things)) rfl (takes_of rfl rfl rfl rfl) (exc_NoRoom F rfl rfl) (eap_cons (ep_var 1) eap_nil) (by rfl) rfl rfl (.cons₂ _ (.cons₂ _ .slnil))))) (fun x164 => ss_bad))))
    · exact fun i b S hS => hS.elim
  exact ⟨cls_DryLine F, _, _, ok, me_DryLine_hang F, bd⟩
abbrev N_wood_of : List Str := ["name", "one", "minutes", "heat"]
theorem nd_wood_of : N_wood_of.Nodup := by decide +kernel
theorem sc_wood_of : FnScope N_wood_of ["name"] (defScope st_wood_of) := ⟨rfl, rfl, rfl, by decide +kernel, rfl, by decide +kernel, by decide +kernel⟩
def wood_of_b (name_ : Str) : Res Unit (Fl Unit Empty (Int × Int)) :=
  (Res.sq ((Res.ok c_WOODS).bind fun x169 : List (Str × Int × Int) => forL (fun (s170 : Unit) (p171 : Str × Int × Int) => (if (decide (p171.1 = name_)) = true then (Res.ok (.rt (p171.2.1, p171.2.2))) else (Res.ok (.nx ())))) x169 ()) fun s172 : Unit => (Res.err .such ()))
@[irreducible] def wood_of_m (name_ : Str) : Res Unit (Int × Int) := (wood_of_b name_).fin (fun _ => ((0 : Int), (0 : Int)))
theorem ok_wood_of (F : Fx P K mg base TL) : ∃ f fd, FnOk P w K mg base (L2.CX P w) 1 f fd ["name"] (spM TL K (cK K) (fun i : Str => [D.str i]) (fun i : Str => []) (fun i : Str => wood_of_m i) (fun (i : Str) (b : Int × Int) S => S = (f13 b, [])) (fun (i : Str) (e : Unit) => [])) ∧ mg "wood_of" = some (.ref f) ∧ PySem.W.keepIn K (.ref f) = true ∧ Binds K fd ["name"] [] := by
  obtain ⟨fd, FD⟩ := F.s.def_ 12 (d := d_wood_of) rfl
  have bd : Binds K fd ["name"] [] := FunD.bindsN FD fun _ _ _ _ _ _ us hl => match us, hl with | [_], _ => rfl
  have ok : FnOk P w K mg base (L2.CX P w) 1 (He.fAd K d_wood_of.at_) fd ["name"] (spM TL K (cK K) (fun i : Str => [D.str i]) (fun i : Str => []) (fun i : Str => wood_of_m i) (fun (i : Str) (b : Int × Int) S => S = (f13 b, [])) (fun (i : Str) (e : Unit) => [])) := by
    refine fn_okC (ε := Unit) (β' := Unit) FD sc_wood_of (r' := fun i : Str => wood_of_b i) (Γ0 := fun i : Str => [some (D.str i), none, none, none]) (oN := fun _ _ _ => False) (oJ := fun z : Empty => z.elim) (fun _ => ((0 : Int), (0 : Int))) ?_ (by intros; unfold wood_of_m; rfl) (by intros; rfl) (by intros; rfl) ?_
    · rintro name_ cdv ec A outer s H E hr
      show SS TL _ (cK K) E (defBody st_wood_of) [some (D.str name_), none, none, none] [] (wood_of_b name_) (fun _ _ => False) (fun z : Empty => z.elim) (fun (b : Int × Int) S => S = (f13 b, [])) (fun e : Unit => [])
      unfold wood_of_b
      exact (ss_cons (oN1 := fun s172 : Unit => ([some (D.str name_), none, none, none], [])) (s1_for (S := Unit) (f := f11) (xs := fun x169 : List (Str × Int × Int) => x169) (Γs := fun s170 : Unit => [some (D.str name_), none, none, none]) (hs := fun _ : Unit => []) (Γb := fun (s170 : Unit) (p171 : Str × Int × Int) => [some (D.str name_), some (D.str p171.1), some (D.int p171.2.1), some (D.int p171.2.2)]) (fun _ => ()) (ei_tup (out := fun x169 : List (Str × Int × Int) => x169.map f11) (asE (fun x169 : List (Str × Int × Int) => f12 x169) (fun _ => []) (ev_p (f := f12) (v := c_WOODS) (ep_const (gl_WOODS F) F.k_WOODS)))) (fun s170 p171 => (eg_tup rfl (egs_cons (Γ1 := [some (D.str name_), some (D.str p171.1), none, none]) (eg_name 1 nd_wood_of) (egs_cons (Γ1 := [some (D.str name_), some (D.str p171.1), some (D.int p171.2.1), none]) (eg_name 2 nd_wood_of) (egs_cons (Γ1 := [some (D.str name_), some (D.str p171.1), some (D.int p171.2.1), some (D.int p171.2.2)]) (eg_name 3 nd_wood_of) egs_nil))))) (fun s170 p171 => (ss_ifxP (etp_cmp (ep_var 1) (ep_var 0) (oc_eq tye_str (u64 hr))) (ss_one (s1_retP (v := (p171.2.1, p171.2.2)) (ep_as (f := f13) (v := (p171.2.1, p171.2.2)) (ep_tup (eap_cons (ep_var 2) (eap_cons (ep_var 3) eap_nil)))))) (ss_nil (b := ()) rfl (And.intro rfl trivial) .slnil))) (passes_of rfl) rfl (by intros; rfl) (fun _ => (And.intro rfl trivial)) (fun _ => List.Sublist.refl _)) (fun s172 => (ss_one (s1_raise (e0 := ()) rfl (takes_of rfl rfl rfl rfl) (exc_NoSuch F rfl rfl) (eap_cons (ep_var 0) eap_nil) (by rfl) rfl rfl .slnil))))
    · exact fun i b S hS => hS.elim
  exact ⟨_, _, ok, gl_wood_of F, FD.kp, bd⟩
abbrev N_arc_height : List Str := ["long", "wide", "square", "root"]
theorem sc_arc_height : FnScope N_arc_height ["long", "wide"] (defScope st_arc_height) := ⟨rfl, rfl, rfl, by decide +kernel, rfl, by decide +kernel, by decide +kernel⟩
def arc_height_b (long_ : Int) (wide_ : Int) : Res Unit (Fl Unit Empty Unit) :=
  (if (decide (wide_ < (1 : Int))) = true then (Res.err .size ()) else (if (decide (long_ ≤ wide_)) = true then (Res.err .way ()) else Res.bad))
@[irreducible] def arc_height_m (long_ : Int) (wide_ : Int) : Res Unit Unit := (arc_height_b long_ wide_).fin (fun _ => ())
theorem ok_arc_height (F : Fx P K mg base TL) : ∃ f fd, FnOk P w K mg base (L2.CX P w) 1 f fd ["long", "wide"] (spM TL K (cK K) (fun i : Int × Int => [D.int i.1, D.int i.2]) (fun i : Int × Int => []) (fun i : Int × Int => arc_height_m i.1 i.2) (fun (i : Int × Int) (b : Unit) S => S = (D.non, [])) (fun (i : Int × Int) (e : Unit) => [])) ∧ mg "arc_height" = some (.ref f) ∧ PySem.W.keepIn K (.ref f) = true ∧ Binds K fd ["long", "wide"] [] := by
  obtain ⟨fd, FD⟩ := F.s.def_ 13 (d := d_arc_height) rfl
  have bd : Binds K fd ["long", "wide"] [] := FunD.bindsN FD fun _ _ _ _ _ _ us hl => match us, hl with | [_, _], _ => rfl
  have ok : FnOk P w K mg base (L2.CX P w) 1 (He.fAd K d_arc_height.at_) fd ["long", "wide"] (spM TL K (cK K) (fun i : Int × Int => [D.int i.1, D.int i.2]) (fun i : Int × Int => []) (fun i : Int × Int => arc_height_m i.1 i.2) (fun (i : Int × Int) (b : Unit) S => S = (D.non, [])) (fun (i : Int × Int) (e : Unit) => [])) := by
    refine fn_okC (ε := Unit) (β' := Unit) FD sc_arc_height (r' := fun i : Int × Int => arc_height_b i.1 i.2) (Γ0 := fun i : Int × Int => [some (D.int i.1), some (D.int i.2), none, none]) (oN := fun _ _ _ => False) (oJ := fun z : Empty => z.elim) (fun _ => ()) ?_ (by intros; unfold arc_height_m; rfl) (by intros; rfl) (by intros; rfl) ?_
    · rintro ⟨long_, wide_⟩ cdv ec A outer s H E hr
      show SS TL _ (cK K) E (defBody st_arc_height) [some (D.int long_), some (D.int wide_), none, none] [] (arc_height_b long_ wide_) (fun _ _ => False) (fun z : Empty => z.elim) (fun (b : Unit) S => S = (D.non, [])) (fun e : Unit => [])
      unfold arc_height_b
      exact (ss_ifxP (etp_cmp (ep_var 1) ep_int oc_lt) (ss_one (s1_raise (e0 := ()) rfl (takes_of rfl rfl rfl rfl) (exc_BadSize F rfl rfl) (eap_cons (ep_str (x := "no width")) eap_nil) (by rfl) rfl rfl .slnil)) (ss_ifxP (etp_cmp (ep_var 0) (ep_var 1) oc_le) (ss_one (s1_raise (e0 := ()) rfl (takes_of rfl rfl rfl rfl) (exc_NoWay F rfl rfl) (eap_cons (ep_str (x := "it doesn't bend")) eap_nil) (by rfl) rfl rfl .slnil)) ss_bad))
    · exact fun i b S hS => hS.elim
  exact ⟨_, _, ok, gl_arc_height F, FD.kp, bd⟩
theorem und (F : Fx P K mg base TL) {X : Cx} (hK : X.K = K) (hm : X.mg = mg) : UndF X (cK K) st_law_under := by
  obtain ⟨fd, FD⟩ := F.s.def_ 14 (d := d_law_under) rfl
  exact und_of hK hm FD (gl__law_under F) (FunD.bindsN FD fun _ _ _ _ _ _ us hl => match us, hl with | [_], _ => rfl) F.un (gl_TentFault F) (fr_ValueError F) (fr_isinstance F) (gl_BadSize F) (gl_BadPlan F) (gl_NoSuch F) (gl_NoRoom F) (gl_NoWay F) (gl_Gives F) (gl_BadText F) (gl_BadDeed F) ⟨_, _, _, _, _, _, _, _, _, _, _, _, _, _, _, _, _, _, _, _, _, _, _, _, _, _, _, _, _, _, _, _, _, _, _, _, _, _, _, _, _, _, _, _, _, _, _, _, _, _, _, _, _, _, _, _, rfl⟩ ⟨rfl, rfl, rfl, by decide +kernel, rfl, by decide +kernel, by decide +kernel⟩ (by decide +kernel) rfl rfl (Or.inl rfl)
abbrev N_Fire_init : List Str := ["self", "holds"]
theorem sc_Fire_init : FnScope N_Fire_init ["self", "holds"] (defScope st_Fire_init) := ⟨rfl, rfl, rfl, by decide +kernel, rfl, by decide +kernel, by decide +kernel⟩
def Fire_init_b (holds_ : Int) : Res Unit (Fl (Int × (List (Str × Int)) × Int × Bool) Empty (Unit × Int × (List (Str × Int)) × Int × Bool)) :=
  (if (decide (holds_ < (1 : Int))) = true then (Res.err .plan ()) else ((Res.ok holds_).bind fun x194 : Int => ((Res.ok ([] : List (Str × Int))).bind fun x195 : List (Str × Int) => ((Res.ok (0 : Int)).bind fun x196 : Int => ((Res.ok false).bind fun x197 : Bool => (Res.ok (.nx (x194, x195, x196, x197))))))))
@[irreducible] def Fire_init_m (holds_ : Int) : Res Unit (Unit × Int × (List (Str × Int)) × Int × Bool) := (Fire_init_b holds_).fin (fun b : Int × (List (Str × Int)) × Int × Bool => ((), b))
theorem ok_Fire_init (F : Fx P K mg base TL) : mg "Fire" = some (.ref (He.ga K "Fire")) ∧ ∃ f fd, FnOk P w K mg base (L2.CX P w) 1 f fd ["self", "holds"] (spM TL K (cK K) (fun i : Addr × Int => [D.ref i.1, D.int i.2]) (fun i : Addr × Int => [(i.1, O.ins (He.ga K "Fire") [] [])]) (fun i : Addr × Int => Fire_init_m i.2) (fun (i : Addr × Int) (b : Unit × Int × (List (Str × Int)) × Int × Bool) S => S = (D.non, [(i.1, O.ins (He.ga K "Fire") ["holds", "logs", "ash", "lit"] [D.int b.2.1, f15 b.2.2.1, D.int b.2.2.2.1, D.bl b.2.2.2.2])])) (fun _ (_ : Unit) => [])) ∧ Mk K (He.ga K "Fire") f ∧ Binds K fd ["self", "holds"] [] := by
  obtain ⟨fd, FD⟩ := F.s.def_ 15 (d := d_Fire_init) rfl
  have bd : Binds K fd ["self", "holds"] [] := FunD.bindsN FD fun _ _ _ _ _ _ us hl => match us, hl with | [_, _], _ => rfl
  have ok : FnOk P w K mg base (L2.CX P w) 1 (He.fAd K d_Fire_init.at_) fd ["self", "holds"] (spM TL K (cK K) (fun i : Addr × Int => [D.ref i.1, D.int i.2]) (fun i : Addr × Int => [(i.1, O.ins (He.ga K "Fire") [] [])]) (fun i : Addr × Int => Fire_init_m i.2) (fun (i : Addr × Int) (b : Unit × Int × (List (Str × Int)) × Int × Bool) S => S = (D.non, [(i.1, O.ins (He.ga K "Fire") ["holds", "logs", "ash", "lit"] [D.int b.2.1, f15 b.2.2.1, D.int b.2.2.2.1, D.bl b.2.2.2.2])])) (fun _ (_ : Unit) => [])) := by
    refine fn_okC (ε := Unit) (β' := Int × (List (Str × Int)) × Int × Bool) FD sc_Fire_init (r' := fun i : Addr × Int => Fire_init_b i.2) (Γ0 := fun i : Addr × Int => [some (D.ref i.1), some (D.int i.2)]) (oN := fun i b S => S.2 = [(i.1, O.ins (He.ga K "Fire") ["holds", "logs", "ash", "lit"] [D.int b.1, f15 b.2.1, D.int b.2.2.1, D.bl b.2.2.2])]) (oJ := fun z : Empty => z.elim) (fun b : Int × (List (Str × Int)) × Int × Bool => ((), b)) ?_ (by intros; unfold Fire_init_m; rfl) (by intros; rfl) (by intros; rfl) ?_
    · rintro ⟨self_, holds_⟩ cdv ec A outer s H E hr
      show SS TL _ (cK K) E (defBody st_Fire_init) [some (D.ref self_), some (D.int holds_)] [(self_, O.ins (He.ga K "Fire") [] [])] (Fire_init_b holds_) (fun (b : Int × (List (Str × Int)) × Int × Bool) (S : En × SH) => S.2 = [(self_, O.ins (He.ga K "Fire") ["holds", "logs", "ash", "lit"] [D.int b.1, f15 b.2.1, D.int b.2.2.1, D.bl b.2.2.2])]) (fun z : Empty => z.elim) (fun (b : Unit × Int × (List (Str × Int)) × Int × Bool) S => S = (D.non, [(self_, O.ins (He.ga K "Fire") ["holds", "logs", "ash", "lit"] [D.int b.2.1, f15 b.2.2.1, D.int b.2.2.2.1, D.bl b.2.2.2.2])])) (fun _ : Unit => [])
      unfold Fire_init_b
      exact (ss_ifxP (etp_cmp (ep_var 1) ep_int oc_lt) (ss_one (s1_raise (e0 := ()) rfl (takes_of rfl rfl rfl rfl) (exc_BadPlan F rfl rfl) (eap_cons (ep_str (x := "no fire")) eap_nil) (by rfl) rfl rfl (.cons _ .slnil))) (ss_fld (ns := []) (ns' := ["holds"]) (vs := fun x194 : Int => []) (vs' := fun x194 : Int => [D.int x194]) (h2 := fun x194 : Int => [(self_, O.ins (He.ga K "Fire") ["holds"] [D.int x194])]) 0 (asE (fun x194 : Int => D.int x194) (fun _ => [(self_, O.ins (He.ga K "Fire") [] [])]) (ev_p (f := D.int) (v := holds_) (ep_var 1))) (fun x194 => (ep_var 0)) (fun x194 => (.new (by decide))) (fun x194 => (ss_fld (ns := ["holds"]) (ns' := ["holds", "logs"]) (vs := fun x195 : List (Str × Int) => [D.int x194]) (vs' := fun x195 : List (Str × Int) => [D.int x194, f15 x195]) (h2 := fun x195 : List (Str × Int) => [(self_, O.ins (He.ga K "Fire") ["holds", "logs"] [D.int x194, f15 x195])]) 0 (asE (fun x195 : List (Str × Int) => f15 x195) (fun _ => [(self_, O.ins (He.ga K "Fire") ["holds"] [D.int x194])]) (ev_p (f := f15) (v := ([] : List (Str × Int))) (ep_as (f := f15) (v := []) (ep_tup eap_nil)))) (fun x195 => (ep_var 0)) (fun x195 => (.new (by decide))) (fun x195 => (ss_fld (ns := ["holds", "logs"]) (ns' := ["holds", "logs", "ash"]) (vs := fun x196 : Int => [D.int x194, f15 x195]) (vs' := fun x196 : Int => [D.int x194, f15 x195, D.int x196]) (h2 := fun x196 : Int => [(self_, O.ins (He.ga K "Fire") ["holds", "logs", "ash"] [D.int x194, f15 x195, D.int x196])]) 0 (asE (fun x196 : Int => D.int x196) (fun _ => [(self_, O.ins (He.ga K "Fire") ["holds", "logs"] [D.int x194, f15 x195])]) (ev_p (f := D.int) (v := (0 : Int)) ep_int)) (fun x196 => (ep_var 0)) (fun x196 => (.new (by decide))) (fun x196 => (ss_fld (ns := ["holds", "logs", "ash"]) (ns' := ["holds", "logs", "ash", "lit"]) (vs := fun x197 : Bool => [D.int x194, f15 x195, D.int x196]) (vs' := fun x197 : Bool => [D.int x194, f15 x195, D.int x196, D.bl x197]) (h2 := fun x197 : Bool => [(self_, O.ins (He.ga K "Fire") ["holds", "logs", "ash", "lit"] [D.int x194, f15 x195, D.int x196, D.bl x197])]) 0 (asE (fun x197 : Bool => D.bl x197) (fun _ => [(self_, O.ins (He.ga K "Fire") ["holds", "logs", "ash"] [D.int x194, f15 x195, D.int x196])]) (ev_p (f := D.bl) (v := false) ep_bl)) (fun x197 => (ep_var 0)) (fun x197 => (.new (by decide))) (fun x197 => (ss_nil (b := (x194, x195, x196, x197)) rfl (LeG.refl _) (.cons₂ _ .slnil))) (cls_Fire F) (noat_Fire_lit F))) (cls_Fire F) (noat_Fire_ash F))) (cls_Fire F) (noat_Fire_logs F))) (cls_Fire F) (noat_Fire_holds F)))
    · intro i b S hS; simp only [hS]
  exact ⟨gl_Fire F, _, _, ok, mk_Fire F, bd⟩
abbrev N_Fire_shown : List Str := ["self"]
theorem sc_Fire_shown : FnScope N_Fire_shown ["self"] (defScope st_Fire_shown) := ⟨rfl, rfl, rfl, by decide +kernel, rfl, by decide +kernel, by decide +kernel⟩
def Fire_shown_b (self_holds : Int) (self_logs : List (Str × Int)) (self_ash : Int) (self_lit : Bool) : Res Empty (Fl Unit Empty (Bool × (List (Str × Int)) × Int)) :=
  (Res.ok (.rt (self_lit, self_logs, self_ash)))
@[irreducible] def Fire_shown_m (self_holds : Int) (self_logs : List (Str × Int)) (self_ash : Int) (self_lit : Bool) : Res Empty (Bool × (List (Str × Int)) × Int) := (Fire_shown_b self_holds self_logs self_ash self_lit).fin (fun _ => (false, [], (0 : Int)))
theorem ok_Fire_shown (F : Fx P K mg base TL) : Cls K (He.ga K "Fire") ∧ ∃ f fd, FnOk P w K mg base (L2.CX P w) 1 f fd ["self"] (spM TL K (cK K) (fun i : Addr × Int × (List (Str × Int)) × Int × Bool => [D.ref i.1]) (fun i : Addr × Int × (List (Str × Int)) × Int × Bool => [(i.1, O.ins (He.ga K "Fire") ["holds", "logs", "ash", "lit"] [D.int i.2.1, f15 i.2.2.1, D.int i.2.2.2.1, D.bl i.2.2.2.2])]) (fun i : Addr × Int × (List (Str × Int)) × Int × Bool => Fire_shown_m i.2.1 i.2.2.1 i.2.2.2.1 i.2.2.2.2) (fun (i : Addr × Int × (List (Str × Int)) × Int × Bool) (b : Bool × (List (Str × Int)) × Int) S => S = (f16 b, [(i.1, O.ins (He.ga K "Fire") ["holds", "logs", "ash", "lit"] [D.int i.2.1, f15 i.2.2.1, D.int i.2.2.2.1, D.bl i.2.2.2.2])])) (fun _ (e : Empty) => e.elim)) ∧ Meth K (He.ga K "Fire") "shown" f ∧ Binds K fd ["self"] [] := by
  obtain ⟨fd, FD⟩ := F.s.def_ 16 (d := d_Fire_shown) rfl
  have bd : Binds K fd ["self"] [] := FunD.bindsN FD fun _ _ _ _ _ _ us hl => match us, hl with | [_], _ => rfl
  have ok : FnOk P w K mg base (L2.CX P w) 1 (He.fAd K d_Fire_shown.at_) fd ["self"] (spM TL K (cK K) (fun i : Addr × Int × (List (Str × Int)) × Int × Bool => [D.ref i.1]) (fun i : Addr × Int × (List (Str × Int)) × Int × Bool => [(i.1, O.ins (He.ga K "Fire") ["holds", "logs", "ash", "lit"] [D.int i.2.1, f15 i.2.2.1, D.int i.2.2.2.1, D.bl i.2.2.2.2])]) (fun i : Addr × Int × (List (Str × Int)) × Int × Bool => Fire_shown_m i.2.1 i.2.2.1 i.2.2.2.1 i.2.2.2.2) (fun (i : Addr × Int × (List (Str × Int)) × Int × Bool) (b : Bool × (List (Str × Int)) × Int) S => S = (f16 b, [(i.1, O.ins (He.ga K "Fire") ["holds", "logs", "ash", "lit"] [D.int i.2.1, f15 i.2.2.1, D.int i.2.2.2.1, D.bl i.2.2.2.2])])) (fun _ (e : Empty) => e.elim)) := by
    refine fn_okC (ε := Empty) (β' := Unit) FD sc_Fire_shown (r' := fun i : Addr × Int × (List (Str × Int)) × Int × Bool => Fire_shown_b i.2.1 i.2.2.1 i.2.2.2.1 i.2.2.2.2) (Γ0 := fun i : Addr × Int × (List (Str × Int)) × Int × Bool => [some (D.ref i.1)]) (oN := fun _ _ _ => False) (oJ := fun z : Empty => z.elim) (fun _ => (false, [], (0 : Int))) ?_ (by intros; unfold Fire_shown_m; rfl) (by intros; rfl) (by intros; rfl) ?_
    · rintro ⟨self_, self_holds, self_logs, self_ash, self_lit⟩ cdv ec A outer s H E hr
      show SS TL _ (cK K) E (defBody st_Fire_shown) [some (D.ref self_)] [(self_, O.ins (He.ga K "Fire") ["holds", "logs", "ash", "lit"] [D.int self_holds, f15 self_logs, D.int self_ash, D.bl self_lit])] (Fire_shown_b self_holds self_logs self_ash self_lit) (fun _ _ => False) (fun z : Empty => z.elim) (fun (b : Bool × (List (Str × Int)) × Int) S => S = (f16 b, [(self_, O.ins (He.ga K "Fire") ["holds", "logs", "ash", "lit"] [D.int self_holds, f15 self_logs, D.int self_ash, D.bl self_lit])])) (fun e : Empty => e.elim)
      unfold Fire_shown_b
      exact (ss_one (s1_retP (v := (self_lit, self_logs, self_ash)) (ep_as (f := f16) (v := (self_lit, self_logs, self_ash)) (ep_tup (eap_cons (ep_fld 3 (ep_var 0) (List.mem_of_getElem? (i := 0) rfl) (cls_Fire F) (noat_Fire_lit F) (by decide)) (eap_cons (ep_fld 1 (ep_var 0) (List.mem_of_getElem? (i := 0) rfl) (cls_Fire F) (noat_Fire_logs F) (by decide)) (eap_cons (ep_fld 2 (ep_var 0) (List.mem_of_getElem? (i := 0) rfl) (cls_Fire F) (noat_Fire_ash F) (by decide)) eap_nil)))))))
    · exact fun i b S hS => hS.elim
  exact ⟨cls_Fire F, _, _, ok, me_Fire_shown F, bd⟩
end K21
set_option Elab.async false
set_option linter.all false
set_option maxRecDepth 100000
set_option maxHeartbeats 400000
namespace K21
open PySem PySem.Spec PyProof.Rows L2 TH
variable {P : Program} {w : World} {K : PySem.W.Frag} {mg : Str → Option Value} {base : Heap} {TL : List (Addr × Str)}
abbrev N_law : List Str := ["script", "dice", "many", "desk", "whats", "k", "j"]
theorem nd_law : N_law.Nodup := by decide +kernel
theorem sc_law : FnScope N_law ["script"] (defScope st_law) := ⟨rfl, rfl, rfl, by decide +kernel, rfl, by decide +kernel, by decide +kernel⟩
def law_step : Res Empty (Fl Unit Empty Bool) :=
  ((((Res.ok ()).bind fun uu73 : Unit => ((Res.ok ()).bind fun uu71 : Unit => ((rollM (90 : Int)).noE).bind fun b72 : Int => .ok b72).bind fun b72 : Int => (Res.ofO (some ())).bind fun _ : Unit => .ok ((1 : Int) + b72)).bind fun x75 : Int => (((((Desk_init_m).noE).mapE (fun e : Empty => e.elim)).bind fun b80 : Unit × Str × (List (Str × Str)) × (List (Str × Str)) => .ok b80).bind fun b80 : Unit × Str × (List (Str × Str)) × (List (Str × Str)) => (Res.ok ()).bind fun y85 : Unit => .ok (b80, y85)).bind fun y88 : (Unit × Str × (List (Str × Str)) × (List (Str × Str))) × Unit => .ok (x75, y88)).bind fun z86 : Int × ((Unit × Str × (List (Str × Str)) × (List (Str × Str))) × Unit) => (((Res.ok ()).bind fun uu91 : Unit => ((rollM (8 : Int)).noE).bind fun b92 : Int => .ok b92).bind fun b92 : Int => (((((Res.ofO (atI (List.range 8) b92)).bind fun x93 : Nat => ((([((((Res.ok ()).bind fun _ : Unit => ((Desk_undo_m z86.2.1.2.1 z86.2.1.2.2.1 z86.2.1.2.2.2).mapE (fun ex : Str × (List (Str × Str)) × (List (Str × Str)) => (ex.1, ex.2.1, ex.2.2))).bind fun b95 : Unit × Str × (List (Str × Str)) × (List (Str × Str)) => .ok b95).bind fun _ : Unit × Str × (List (Str × Str)) × (List (Str × Str)) => (.ok none : Res (Str × (List (Str × Str)) × (List (Str × Str))) (Option Ex))).caught fun (q97 : Ex) (_ : Str × (List (Str × Str)) × (List (Str × Str))) => .ok (some q97)), ((((Res.ok ()).bind fun _ : Unit => ((Cloth_init_m (dictT ([(("door" : Str), ((0 : Int), z86.1))] : List (Str × (Int × Int))))).mapE (fun _ : Unit => ())).bind fun b127 : Unit × (List (Str × (Int × Int))) × (List (Str × Int)) => .ok b127).bind fun _ : Unit × (List (Str × (Int × Int))) × (List (Str × Int)) => (.ok none : Res Unit (Option Ex))).caught fun (q131 : Ex) (_ : Unit) => .ok (some q131)), ((((Res.ok ()).bind fun uu132 : Unit => ((thunder_far_m ((0 : Int) - z86.1)).mapE (fun ex : Unit => ())).bind fun b133 : Int => .ok b133).bind fun _ : Int => (.ok none : Res Unit (Option Ex))).caught fun (q135 : Ex) (_ : Unit) => .ok (some q135)), (((((Res.ofO (mulS ("x" : Str) z86.1)).bind fun x136 : Str => (Res.ok ()).bind fun _ : Unit => .ok x136).bind fun x142 : Str => ((read_row_m x142).mapE (fun ex : Unit => ())).bind fun b143 : Unit => .ok b143).bind fun _ : Unit => (.ok none : Res Unit (Option Ex))).caught fun (q145 : Ex) (_ : Unit) => .ok (some q145)), ((((Res.ok ()).bind fun uu147 : Unit => ((fly_overhang_m z86.1 z86.1 (1 : Int)).mapE (fun ex : Unit => ())).bind fun b148 : Int => .ok b148).bind fun _ : Int => (.ok none : Res Unit (Option Ex))).caught fun (q150 : Ex) (_ : Unit) => .ok (some q150)), (((((Res.ok ()).bind fun _ : Unit => ((DryLine_init_m z86.1).mapE (fun _ : Unit => ())).bind fun b154 : Unit × Int × (List (Str × (Int × Int))) => .ok b154).bind fun b154 : Unit × Int × (List (Str × (Int × Int))) => (Res.ok ()).bind fun _ : Unit => ((DryLine_hang_m b154.2.1 b154.2.2 ("sock" : Str) (z86.1 + (1 : Int)) (0 : Int)).mapE (fun ex : Int × (List (Str × (Int × Int))) => ())).bind fun b165 : Unit × Int × (List (Str × (Int × Int))) => .ok b165).bind fun _ : Unit × Int × (List (Str × (Int × Int))) => (.ok none : Res Unit (Option Ex))).caught fun (q167 : Ex) (_ : Unit) => .ok (some q167)), (((((Res.ofO (mulS ("x" : Str) z86.1)).bind fun x168 : Str => (Res.ok ()).bind fun _ : Unit => .ok x168).bind fun x174 : Str => ((wood_of_m x174).mapE (fun ex : Unit => ())).bind fun b175 : Int × Int => .ok b175).bind fun _ : Int × Int => (.ok none : Res Unit (Option Ex))).caught fun (q177 : Ex) (_ : Unit) => .ok (some q177)), ((((Res.ok ()).bind fun uu178 : Unit => ((arc_height_m z86.1 z86.1).mapE (fun ex : Unit => ())).bind fun b179 : Unit => .ok b179).bind fun _ : Unit => (.ok none : Res Unit (Option Ex))).caught fun (q181 : Ex) (_ : Unit) => .ok (some q181))] : List (Res Empty (Option Ex))).getD x93 .bad).mapE Empty.elim).bind fun o_ : Option Ex => .ok o_).bind fun x182 : Option Ex => ((((Res.ok (8 : Int)).bind fun x183 : Int => (Res.guard (rng62 x183)).bind fun _ : Unit => .ok (rangeI 0 (x183).toNat)).bind fun x184 : List Int => mapR (fun p185 : Int => stepR (fun uu187 : Unit => true) (fun x186 : Bool => x186) ((Res.ok ()) : Res Empty Unit) ((Res.ok (decide (p185 = b92))) : Res Empty Bool)) x184).bind fun x188 : List Bool => (Res.ok ()).bind fun uu189 : Unit => (Res.ofO (catG x188 [true])).bind fun g190 : List Bool => .ok g190).bind fun x191 : List Bool => (Res.ofO (some ())).bind fun _ : Unit => .ok (!decide ((undL x182) = x191), x182)).bind fun x193 : Bool × (Option Ex) => if x193.1 = true then .ok (true, x193) else ((((Res.ok ()).bind fun _ : Unit => (((Fire_init_m z86.1).noE).mapE (fun e : Empty => e.elim)).bind fun b198 : Unit × Int × (List (Str × Int)) × Int × Bool => .ok b198).bind fun b198 : Unit × Int × (List (Str × Int)) × Int × Bool => (((Fire_shown_m b198.2.1 b198.2.2.1 b198.2.2.2.1 b198.2.2.2.2).noE (ε' := Empty)).mapE (fun ex : Empty => ex.elim)).bind fun b201 : Bool × (List (Str × Int)) × Int => .ok b201).bind fun b201 : Bool × (List (Str × Int)) × Int => (Res.ok ()).bind fun uu202 : Unit => (Res.ofO (some ())).bind fun _ : Unit => .ok (!decide (b201 = (false, ([] : List (Str × Int)), (0 : Int))))).bind fun x204 : Bool => .ok (x204, x193)).bind fun x205 : Bool × (Bool × (Option Ex)) => if x205.1 = true then (Res.ok (.rt false)) else (Res.ok (.nx ())))))
theorem ok_law (F : Fx P K mg base TL) (hm : StepOk (law_step)) {fd : FuncData} (FD : FunD K d_law.name d_law.qual d_law.params d_law.body d_law.scope [] [] (He.fAd K d_law.at_) fd) : FnOk P w K mg base (L2.CX P w) 8 (He.fAd K d_law.at_) fd ["script"] (spLaw TL K) := by
  obtain ⟨cc, PP, hcc, TB, hmT, huT⟩ := F.t_law fd FD
  obtain ⟨rf, rfd, rok, rm, rk, rb⟩ := ok_law_rounds (P := P) (w := w) F
  refine law_fn (k := 7) (cA := cK K) (Γe := List.replicate 7 none) (step := law_step) FD sc_law rfl rfl rfl (rok.mono (by decide)) rm rk rb (fun cdv ec A outer s H E hr q_ => ?_) (.inl rfl) (by first | exact .inl rfl | exact .inr rfl) (fun _ _ _ _ _ _ => rfl) (by decide) hm
  show SS TL _ (cK K) E _ [none, some (D.ref q_), none, none, none, none, none] [(q_, .dice)] (law_step) (fun _ S => S = ([none, none, none, none, none, none, none], [(q_, .dice)])) _ (fun (b : Bool) S => S = (D.bl b, [(q_, .dice)])) _
  unfold law_step
  exact (ss_tupE (ha := fun (z86 : Int × ((Unit × Str × (List (Str × Str)) × (List (Str × Str))) × Unit)) (n87 : Unit × (Addr × Unit)) => [(q_, O.dice), (n87.2.1, O.ins (He.ga K "Desk") ["text", "deeds", "undone"] [D.str z86.2.1.2.1, f3 z86.2.1.2.2.1, f3 z86.2.1.2.2.2])]) (Γ1 := fun (z86 : Int × ((Unit × Str × (List (Str × Str)) × (List (Str × Str))) × Unit)) (n87 : Unit × (Addr × Unit)) => [none, some (D.ref q_), some (D.int z86.1), some (D.ref n87.2.1), none, none, none]) (out := fun (z86 : Int × ((Unit × Str × (List (Str × Str)) × (List (Str × Str))) × Unit)) (n87 : Unit × (Addr × Unit)) => [D.int z86.1, D.ref n87.2.1]) (nea_cons (fun (x75 : Int) (y88 : (Unit × Str × (List (Str × Str)) × (List (Str × Str))) × Unit) => (x75, y88)) (out := fun (z86 : Int × ((Unit × Str × (List (Str × Str)) × (List (Str × Str))) × Unit)) (n87 : Unit × (Addr × Unit)) => [D.int z86.1, D.ref n87.2.1]) (ho := fun (z86 : Int × ((Unit × Str × (List (Str × Str)) × (List (Str × Str))) × Unit)) (n87 : Unit × (Addr × Unit)) => [(q_, O.dice), (n87.2.1, O.ins (He.ga K "Desk") ["text", "deeds", "undone"] [D.str z86.2.1.2.1, f3 z86.2.1.2.2.1, f3 z86.2.1.2.2.2])]) (asN (fun (x75 : Int) (n76 : Unit) => D.int x75) (fun (x75 : Int) (n76 : Unit) => [(q_, O.dice)]) (ne_ev (asE (fun x75 : Int => D.int x75) (fun _ => [(q_, O.dice)]) (ev_two (out := D.int) (ho := fun _ => [(q_, O.dice)]) two_bin (fun (uu73 : Unit) (b72 : Int) (g74 : Unit) => (1 : Int) + b72) (asE (fun uu73 : Unit => D.int (1 : Int)) (fun _ => [(q_, O.dice)]) (ev_ep ep_int)) (fun uu73 => (asE (fun b72 : Int => D.int b72) (fun _ => [(q_, O.dice)]) (ev_callN (ok_dice_roll F) (hr.mono (by decide)) (by rfl) (takes_of rfl rfl rfl rfl) (ea_eap (eap_cons (ep_var 1) (eap_cons ep_int eap_nil))) (fun uu71 : Unit => (q_, (90 : Int))) 1 [0] [] (fun (_ : Unit) (b72 : Int) => b72) (out := fun b72 : Int => D.int b72) (ho := fun _ : Int => [(q_, O.dice)]) ))) (fun uu73 b72 => oi_add))))) (fun x75 n76 => (nea_cons (fun (b80 : Unit × Str × (List (Str × Str)) × (List (Str × Str))) (y85 : Unit) => (b80, y85)) (out := fun (z83 : (Unit × Str × (List (Str × Str)) × (List (Str × Str))) × Unit) (n84 : Addr × Unit) => [D.ref n84.1]) (ho := fun (z83 : (Unit × Str × (List (Str × Str)) × (List (Str × Str))) × Unit) (n84 : Addr × Unit) => [(q_, O.dice), (n84.1, O.ins (He.ga K "Desk") ["text", "deeds", "undone"] [D.str z83.1.2.1, f3 z83.1.2.2.1, f3 z83.1.2.2.2])]) (asN (fun (b80 : Unit × Str × (List (Str × Str)) × (List (Str × Str))) (n82 : Addr) => D.ref n82) (fun (b80 : Unit × Str × (List (Str × Str)) × (List (Str × Str))) (n82 : Addr) => [(q_, O.dice), (n82, O.ins (He.ga K "Desk") ["text", "deeds", "undone"] [D.str b80.2.1, f3 b80.2.2.1, f3 b80.2.2.2])]) (ne_nc (o := fun b80 : Unit × Str × (List (Str × Str)) × (List (Str × Str)) => O.ins (He.ga K "Desk") ["text", "deeds", "undone"] [D.str b80.2.1, f3 b80.2.2.1, f3 b80.2.2.2]) (ho := fun _ => [(q_, O.dice)]) (ho' := fun (b80 : Unit × Str × (List (Str × Str)) × (List (Str × Str))) (n82 : Addr) => [(q_, O.dice), (n82, O.ins (He.ga K "Desk") ["text", "deeds", "undone"] [D.str b80.2.1, f3 b80.2.2.1, f3 b80.2.2.2])]) (en_mk0 (r1 := (Desk_init_m).noE) (po' := (NC (fun b80 : Unit × Str × (List (Str × Str)) × (List (Str × Str)) => O.ins (He.ga K "Desk") ["text", "deeds", "undone"] [D.str b80.2.1, f3 b80.2.2.1, f3 b80.2.2.2]) (fun _ => [(q_, O.dice)]))) (CF.noE (X := _) (ok_Desk_init F)) (hr.mono (by decide)) (by rfl) (takes_of rfl rfl rfl rfl) (fun (a81 : Addr) => (a81)) (fun b80 : Unit × Str × (List (Str × Str)) × (List (Str × Str)) => b80) (fun (e : Empty) => e.elim) (fun n b S h => by subst h; exact ⟨rfl, n, rfl, rfl⟩) (by intros; rfl) (by intros; rfl) (by intros; rfl) (fun _ e => e.elim) (fun e => e.elim)))) (fun b80 n82 => nea_nil)))) (fun z86 n87 => (eg_tup rfl (egs_cons (Γ1 := [none, some (D.ref q_), some (D.int z86.1), none, none, none, none]) (eg_name 2 nd_law) (egs_cons (Γ1 := [none, some (D.ref q_), some (D.int z86.1), some (D.ref n87.2.1), none, none, none]) (eg_name 3 nd_law) egs_nil)))) (fun z86 n87 => (asS [none, some (D.ref q_), some (D.int z86.1), some (D.ref n87.2.1), none, none, none] [(q_, O.dice), (n87.2.1, O.ins (He.ga K "Desk") ["text", "deeds", "undone"] [D.str z86.2.1.2.1, f3 z86.2.1.2.2.1, f3 z86.2.1.2.2.2])] (ss_lams (Γ1 := fun dv89 : Nat → D => [none, some (D.ref q_), some (D.int z86.1), some (D.ref n87.2.1), some ((fun p : List Nat => D.lst (p.map dv89)) (List.range 8)), none, none]) 4 l00 8 (by exact TB) (by exact ec.symm.trans hcc) (by exact hmT) (by exact huT) (.cons (LamX.lamS_by (sc := defScope st_law) (by decide +kernel)) rfl rfl (.cons (LamX.lamS_by (sc := defScope st_law) (by decide +kernel)) rfl rfl (.cons (LamX.lamS_by (sc := defScope st_law) (by decide +kernel)) rfl rfl (.cons (LamX.lamS_by (sc := defScope st_law) (by decide +kernel)) rfl rfl (.cons (LamX.lamS_by (sc := defScope st_law) (by decide +kernel)) rfl rfl (.cons (LamX.lamS_by (sc := defScope st_law) (by decide +kernel)) rfl rfl (.cons (LamX.lamS_by (sc := defScope st_law) (by decide +kernel)) rfl rfl (.cons (LamX.lamS_by (sc := defScope st_law) (by decide +kernel)) rfl rfl .nil)))))))) (fun dv89 hdv90 => (asS [none, some (D.ref q_), some (D.int z86.1), some (D.ref n87.2.1), some ((fun p : List Nat => D.lst (p.map dv89)) (List.range 8)), none, none] [(q_, O.dice), (n87.2.1, O.ins (He.ga K "Desk") ["text", "deeds", "undone"] [D.str z86.2.1.2.1, f3 z86.2.1.2.2.1, f3 z86.2.1.2.2.2])] (ss_set (Γ1 := fun b92 : Int => [none, some (D.ref q_), some (D.int z86.1), some (D.ref n87.2.1), some ((fun p : List Nat => D.lst (p.map dv89)) (List.range 8)), some (D.int b92), none]) 5 (asE (fun b92 : Int => D.int b92) (fun _ => [(q_, O.dice), (n87.2.1, O.ins (He.ga K "Desk") ["text", "deeds", "undone"] [D.str z86.2.1.2.1, f3 z86.2.1.2.2.1, f3 z86.2.1.2.2.2])]) (ev_callN (ok_dice_roll F) (hr.mono (by decide)) (by rfl) (takes_of rfl rfl rfl rfl) (ea_eap (eap_cons (ep_var 1) (eap_cons ep_int eap_nil))) (fun uu91 : Unit => (q_, (8 : Int))) 2 [0] [1] (fun (_ : Unit) (b92 : Int) => b92) (out := fun b92 : Int => D.int b92) (ho := fun _ : Int => [(q_, O.dice), (n87.2.1, O.ins (He.ga K "Desk") ["text", "deeds", "undone"] [D.str z86.2.1.2.1, f3 z86.2.1.2.2.1, f3 z86.2.1.2.2.2])]) )) (fun b92 => (ss_ifx (asC (fun x205 : Bool × (Bool × (Option Ex)) => x205.1) (fun _ => [(q_, O.dice)]) (et_w (ew_or (out := fun x205 : Bool × (Bool × (Option Ex)) => x205.1) (ho := fun x205 : Bool × (Bool × (Option Ex)) => [(q_, O.dice)]) (fun x193 : Bool × (Option Ex) => (true, x193)) (fun (x193 : Bool × (Option Ex)) (x204 : Bool) => (x204, x193)) (asC (fun x193 : Bool × (Option Ex) => x193.1) (fun _ => [(q_, O.dice)]) (et_cmp (out := fun x193 : Bool × (Option Ex) => x193.1) (ho := fun x193 : Bool × (Option Ex) => [(q_, O.dice)]) (fun (x182 : Option Ex) (x191 : List Bool) (g192 : Unit) => (!decide ((undL x182) = x191), x182)) (asE (fun x182 : Option Ex => f14 (undL x182)) (fun _ => [(q_, O.dice)]) (ev_under (out := fun x182 : Option Ex => f14 (undL x182)) (ho := fun _ => [(q_, O.dice)]) (k := 5) (und F (by rfl) (by rfl)) (by rfl) (hr.mono (by decide)) hdv90 (.cons (uj_of (he := fun e96 : Str × (List (Str × Str)) × (List (Str × Str)) => [(q_, O.dice), (n87.2.1, O.ins (He.ga K "Desk") ["text", "deeds", "undone"] [D.str e96.1, f3 e96.2.1, f3 e96.2.2])]) (LamX.lamS_by (sc := defScope st_law) (by decide +kernel)) [(q_, O.dice)] (fun A outer s H E f c hrl => (asE (fun b95 : Unit × Str × (List (Str × Str)) × (List (Str × Str)) => D.non) (fun b95 => [(q_, O.dice), (n87.2.1, O.ins (He.ga K "Desk") ["text", "deeds", "undone"] [D.str b95.2.1, f3 b95.2.2.1, f3 b95.2.2.2])]) (ev_meth0 (ok_Desk_undo F) (hrl.mono (by decide)) (takes_of rfl rfl rfl rfl) (ev_ep (ep_var 3)) (fun _ => .inr ⟨_, _, _, rfl, List.mem_of_getElem? (i := 1) rfl, by decide⟩) (fun _ : Unit => (n87.2.1, z86.2.1.2.1, z86.2.1.2.2.1, z86.2.1.2.2.2)) 2 [1] [0] (fun (_ : Unit) (b95 : Unit × Str × (List (Str × Str)) × (List (Str × Str))) => b95) (fun (_ : Unit) (ex : Str × (List (Str × Str)) × (List (Str × Str))) => (ex.1, ex.2.1, ex.2.2)) (out := fun b95 : Unit × Str × (List (Str × Str)) × (List (Str × Str)) => D.non) (ho := fun b95 : Unit × Str × (List (Str × Str)) × (List (Str × Str)) => [(q_, O.dice), (n87.2.1, O.ins (He.ga K "Desk") ["text", "deeds", "undone"] [D.str b95.2.1, f3 b95.2.2.1, f3 b95.2.2.2])]) (fun _ ex => (subP_of (h' := [(q_, O.dice), (n87.2.1, O.ins (He.ga K "Desk") ["text", "deeds", "undone"] [D.str ex.1, f3 ex.2.1, f3 ex.2.2])]) (n := 2) (is := [1]) (rs := [0]) (by decide) rfl rfl rfl (.cons₂ _ (.cons₂ _ .slnil))))))) (fun _ => (.cons₂ _ (.cons _ .slnil))) (fun _ => (.cons₂ _ (.cons _ .slnil)))) (.cons (uj_of (he := fun _ : Unit => [(q_, O.dice), (n87.2.1, O.ins (He.ga K "Desk") ["text", "deeds", "undone"] [D.str z86.2.1.2.1, f3 z86.2.1.2.2.1, f3 z86.2.1.2.2.2])]) (LamX.lamS_by (sc := defScope st_law) (by decide +kernel)) [(q_, O.dice)] (fun A outer s H E f c hrl => (asE (fun b127 : Unit × (List (Str × (Int × Int))) × (List (Str × Int)) => D.obj (He.ga K "Cloth") ["panels", "tight"] [f5 b127.2.1, D.dic false (b127.2.2.map fun q : Str × Int => D.str q.1) (b127.2.2.map fun q : Str × Int => D.int q.2)]) (fun _ => [(q_, O.dice), (n87.2.1, O.ins (He.ga K "Desk") ["text", "deeds", "undone"] [D.str z86.2.1.2.1, f3 z86.2.1.2.2.1, f3 z86.2.1.2.2.2])]) (ev_enOD (C := He.ga K "Cloth") (ns := ["panels", "tight"]) 1 (vr := fun (b127 : Unit × (List (Str × (Int × Int))) × (List (Str × Int))) (n_ : Addr) => [f5 b127.2.1, D.ref n_]) (vs := fun b127 : Unit × (List (Str × (Int × Int))) × (List (Str × Int)) => [f5 b127.2.1, D.dic false (b127.2.2.map fun q : Str × Int => D.str q.1) (b127.2.2.map fun q : Str × Int => D.int q.2)]) (ks := fun b127 : Unit × (List (Str × (Int × Int))) × (List (Str × Int)) => b127.2.2.map fun q : Str × Int => D.str q.1) (ws := fun b127 : Unit × (List (Str × (Int × Int))) × (List (Str × Int)) => b127.2.2.map fun q : Str × Int => D.int q.2) (ha := fun _ => [(q_, O.dice), (n87.2.1, O.ins (He.ga K "Desk") ["text", "deeds", "undone"] [D.str z86.2.1.2.1, f3 z86.2.1.2.2.1, f3 z86.2.1.2.2.2])]) (en_mk (r1 := fun _ => Cloth_init_m (dictT ([(("door" : Str), ((0 : Int), z86.1))] : List (Str × (Int × Int))))) (po' := (NE (fun (b127 : Unit × (List (Str × (Int × Int))) × (List (Str × Int))) (n129 : Addr × Addr) => D.ref n129.1) (fun (b127 : Unit × (List (Str × (Int × Int))) × (List (Str × Int))) (n129 : Addr × Addr) => [(q_, O.dice), (n87.2.1, O.ins (He.ga K "Desk") ["text", "deeds", "undone"] [D.str z86.2.1.2.1, f3 z86.2.1.2.2.1, f3 z86.2.1.2.2.2]), (n129.1, O.ins (He.ga K "Cloth") ["panels", "tight"] [f5 b127.2.1, D.ref n129.2]), (n129.2, dcO D.str D.int b127.2.2)]))) (ok_Cloth_init F) (hrl.mono (by decide)) (by rfl) (takes_of rfl rfl rfl rfl) (ea_eap (eap_cons (ep_as (f := f5) (v := dictT ([(("door" : Str), ((0 : Int), z86.1))] : List (Str × (Int × Int)))) (ep_disp (g := D.str) (f := f4) tyk_str ([(("door" : Str), ((0 : Int), z86.1))] : List (Str × (Int × Int))) (by exact ⟨(ep_str (x := "door")), (ep_as (f := f4) (v := ((0 : Int), z86.1)) (ep_tupH (eap_cons ep_int (eap_cons (ep_var 2) eap_nil)))), trivial⟩))) eap_nil)) (fun (a128 : Addr) (_ : Unit) => (a128, (dictT ([(("door" : Str), ((0 : Int), z86.1))] : List (Str × (Int × Int)))))) (fun (_ : Unit) (b127 : Unit × (List (Str × (Int × Int))) × (List (Str × Int))) => b127) (fun (_ : Unit) (_ : Unit) => ()) (fun _ n b S h => by obtain ⟨d0_, h⟩ := h; subst h; exact ⟨rfl, (n, d0_), rfl, rfl⟩) (by intros; rfl) (by intros; rfl) (by intros; rfl) (by intros; rfl) (fun _ _ => (.cons₂ _ (.cons₂ _ .slnil))))))) (fun _ => (.cons₂ _ (.cons _ .slnil))) (fun _ => (.cons₂ _ (.cons _ .slnil)))) (.cons (uj_of (he := fun _ : Unit => [(q_, O.dice), (n87.2.1, O.ins (He.ga K "Desk") ["text", "deeds", "undone"] [D.str z86.2.1.2.1, f3 z86.2.1.2.2.1, f3 z86.2.1.2.2.2])]) (LamX.lamS_by (sc := defScope st_law) (by decide +kernel)) [(q_, O.dice)] (fun A outer s H E f c hrl => (asE (fun b133 : Int => D.int b133) (fun _ => [(q_, O.dice), (n87.2.1, O.ins (He.ga K "Desk") ["text", "deeds", "undone"] [D.str z86.2.1.2.1, f3 z86.2.1.2.2.1, f3 z86.2.1.2.2.2])]) (ev_call (ok_thunder_far F) (hrl.mono (by decide)) (by rfl) (takes_of rfl rfl rfl rfl) (ea_eap (eap_cons (ep_two two_bin ep_int (ep_var 2) oi_sub) eap_nil)) (fun uu132 : Unit => ((0 : Int) - z86.1)) 2 [] [0, 1] (fun (_ : Unit) (b133 : Int) => b133) (fun (uu132 : Unit) (ex : Unit) => ()) (out := fun b133 : Int => D.int b133) (ho := fun _ : Int => [(q_, O.dice), (n87.2.1, O.ins (He.ga K "Desk") ["text", "deeds", "undone"] [D.str z86.2.1.2.1, f3 z86.2.1.2.2.1, f3 z86.2.1.2.2.2])]) (fun _ ex => (subP_of (h' := [(q_, O.dice), (n87.2.1, O.ins (He.ga K "Desk") ["text", "deeds", "undone"] [D.str z86.2.1.2.1, f3 z86.2.1.2.2.1, f3 z86.2.1.2.2.2])]) (n := 2) (is := []) (rs := [0, 1]) (by decide) rfl rfl rfl (.cons₂ _ (.cons₂ _ .slnil))))))) (fun _ => (.cons₂ _ (.cons _ .slnil))) (fun _ => (.cons₂ _ (.cons _ .slnil)))) (.cons (uj_of (he := fun _ : Unit => [(q_, O.dice), (n87.2.1, O.ins (He.ga K "Desk") ["text", "deeds", "undone"] [D.str z86.2.1.2.1, f3 z86.2.1.2.2.1, f3 z86.2.1.2.2.2])]) (LamX.lamS_by (sc := defScope st_law) (by decide +kernel)) [(q_, O.dice)] (fun A outer s H E f c hrl => (asE (fun b143 : Unit => D.non) (fun _ => [(q_, O.dice), (n87.2.1, O.ins (He.ga K "Desk") ["text", "deeds", "undone"] [D.str z86.2.1.2.1, f3 z86.2.1.2.2.1, f3 z86.2.1.2.2.2])]) (ev_call (ok_read_row F) (hrl.mono (by decide)) (by rfl) (takes_of rfl rfl rfl rfl) (ea_cons (fun (x136 : Str) (_ : Unit) => x136) (out := fun y141 : Str => [D.str y141]) (ho := fun _ : Str => [(q_, O.dice), (n87.2.1, O.ins (He.ga K "Desk") ["text", "deeds", "undone"] [D.str z86.2.1.2.1, f3 z86.2.1.2.2.1, f3 z86.2.1.2.2.2])]) (asE (fun x136 : Str => D.str x136) (fun _ => [(q_, O.dice), (n87.2.1, O.ins (He.ga K "Desk") ["text", "deeds", "undone"] [D.str z86.2.1.2.1, f3 z86.2.1.2.2.1, f3 z86.2.1.2.2.2])]) (ev_two0 two_bin (ep_str (x := "x")) (ep_var 2) oi_mulS)) (fun _ => ea_eap eap_nil)) (fun x142 : Str => (x142)) 2 [] [0, 1] (fun (_ : Str) (b143 : Unit) => b143) (fun (x142 : Str) (ex : Unit) => ()) (out := fun b143 : Unit => D.non) (ho := fun _ : Unit => [(q_, O.dice), (n87.2.1, O.ins (He.ga K "Desk") ["text", "deeds", "undone"] [D.str z86.2.1.2.1, f3 z86.2.1.2.2.1, f3 z86.2.1.2.2.2])]) (fun _ ex => (subP_of (h' := [(q_, O.dice), (n87.2.1, O.ins (He.ga K "Desk") ["text", "deeds", "undone"] [D.str z86.2.1.2.1, f3 z86.2.1.2.2.1, f3 z86.2.1.2.2.2])]) (n := 2) (is := []) (rs := [0, 1]) (by decide) rfl rfl rfl (.cons₂ _ (.cons₂ _ .slnil))))))) (fun _ => (.cons₂ _ (.cons _ .slnil))) (fun _ => (.cons₂ _ (.cons _ .slnil)))) (.cons (uj_of (he := fun _ : Unit => [(q_, O.dice), (n87.2.1, O.ins (He.ga K "Desk") ["text", "deeds", "undone"] [D.str z86.2.1.2.1, f3 z86.2.1.2.2.1, f3 z86.2.1.2.2.2])]) (LamX.lamS_by (sc := defScope st_law) (by decide +kernel)) [(q_, O.dice)] (fun A outer s H E f c hrl => (asE (fun b148 : Int => D.int b148) (fun _ => [(q_, O.dice), (n87.2.1, O.ins (He.ga K "Desk") ["text", "deeds", "undone"] [D.str z86.2.1.2.1, f3 z86.2.1.2.2.1, f3 z86.2.1.2.2.2])]) (ev_call (ok_fly_overhang F) (hrl.mono (by decide)) (by rfl) (takes_of rfl rfl rfl rfl) (ea_eap (eap_cons (ep_var 2) (eap_cons (ep_var 2) (eap_cons ep_int eap_nil)))) (fun uu147 : Unit => (z86.1, z86.1, (1 : Int))) 2 [] [0, 1] (fun (_ : Unit) (b148 : Int) => b148) (fun (uu147 : Unit) (ex : Unit) => ()) (out := fun b148 : Int => D.int b148) (ho := fun _ : Int => [(q_, O.dice), (n87.2.1, O.ins (He.ga K "Desk") ["text", "deeds", "undone"] [D.str z86.2.1.2.1, f3 z86.2.1.2.2.1, f3 z86.2.1.2.2.2])]) (fun _ ex => (subP_of (h' := [(q_, O.dice), (n87.2.1, O.ins (He.ga K "Desk") ["text", "deeds", "undone"] [D.str z86.2.1.2.1, f3 z86.2.1.2.2.1, f3 z86.2.1.2.2.2])]) (n := 2) (is := []) (rs := [0, 1]) (by decide) rfl rfl rfl (.cons₂ _ (.cons₂ _ .slnil))))))) (fun _ => (.cons₂ _ (.cons _ .slnil))) (fun _ => (.cons₂ _ (.cons _ .slnil)))) (.cons (uj_of (he := fun _ : Unit => [(q_, O.dice), (n87.2.1, O.ins (He.ga K "Desk") ["text", "deeds", "undone"] [D.str z86.2.1.2.1, f3 z86.2.1.2.2.1, f3 z86.2.1.2.2.2])]) (LamX.lamS_by (sc := defScope st_law) (by decide +kernel)) [(q_, O.dice)] (fun A outer s H E f c hrl => (asE (fun b165 : Unit × Int × (List (Str × (Int × Int))) => D.non) (fun _ => [(q_, O.dice), (n87.2.1, O.ins (He.ga K "Desk") ["text", "deeds", "undone"] [D.str z86.2.1.2.1, f3 z86.2.1.2.2.1, f3 z86.2.1.2.2.2])]) (ev_methE (ok_DryLine_hang F) (hrl.mono (by decide)) (takes_of rfl rfl rfl rfl) (asN (fun (b154 : Unit × Int × (List (Str × (Int × Int)))) (n156 : Addr × Addr) => D.ref n156.1) (fun (b154 : Unit × Int × (List (Str × (Int × Int)))) (n156 : Addr × Addr) => [(q_, O.dice), (n87.2.1, O.ins (He.ga K "Desk") ["text", "deeds", "undone"] [D.str z86.2.1.2.1, f3 z86.2.1.2.2.1, f3 z86.2.1.2.2.2]), (n156.1, O.ins (He.ga K "DryLine") ["long", "things"] [D.int b154.2.1, D.ref n156.2]), (n156.2, dcO D.str f4 b154.2.2)]) (en_mk (r1 := fun _ => DryLine_init_m z86.1) (po' := (NE (fun (b154 : Unit × Int × (List (Str × (Int × Int)))) (n156 : Addr × Addr) => D.ref n156.1) (fun (b154 : Unit × Int × (List (Str × (Int × Int)))) (n156 : Addr × Addr) => [(q_, O.dice), (n87.2.1, O.ins (He.ga K "Desk") ["text", "deeds", "undone"] [D.str z86.2.1.2.1, f3 z86.2.1.2.2.1, f3 z86.2.1.2.2.2]), (n156.1, O.ins (He.ga K "DryLine") ["long", "things"] [D.int b154.2.1, D.ref n156.2]), (n156.2, dcO D.str f4 b154.2.2)]))) (ok_DryLine_init F) (hrl.mono (by decide)) (by rfl) (takes_of rfl rfl rfl rfl) (ea_eap (eap_cons (ep_var 2) eap_nil)) (fun (a155 : Addr) (_ : Unit) => (a155, z86.1)) (fun (_ : Unit) (b154 : Unit × Int × (List (Str × (Int × Int)))) => b154) (fun (_ : Unit) (_ : Unit) => ()) (fun _ n b S h => by obtain ⟨d0_, h⟩ := h; subst h; exact ⟨rfl, (n, d0_), rfl, rfl⟩) (by intros; rfl) (by intros; rfl) (by intros; rfl) (by intros; rfl) (fun _ _ => (.cons₂ _ (.cons₂ _ .slnil))))) (fun _ _ => .inr ⟨_, _, _, rfl, List.mem_of_getElem? (i := 2) rfl, by decide⟩) (fun b154 n156 => ea_eap (eap_cons (ep_str (x := "sock")) (eap_cons (ep_two two_bin (ep_var 2) ep_int oi_add) (eap_cons ep_int eap_nil)))) (fun (b154 : Unit × Int × (List (Str × (Int × Int)))) (n156 : Addr × Addr) (_ : Unit) => (n156.1, b154.2.1, n156.2, b154.2.2, ("sock" : Str), z86.1 + (1 : Int), (0 : Int))) (fun (b154 : Unit × Int × (List (Str × (Int × Int)))) (_ : Unit) => DryLine_hang_m b154.2.1 b154.2.2 ("sock" : Str) (z86.1 + (1 : Int)) (0 : Int)) 4 [2, 3] [0, 1] (fun (b154 : Unit × Int × (List (Str × (Int × Int)))) (_ : Unit) (b165 : Unit × Int × (List (Str × (Int × Int)))) => b165) (fun (b154 : Unit × Int × (List (Str × (Int × Int)))) (_ : Unit) (ex : Int × (List (Str × (Int × Int)))) => ()) (fun (b154 : Unit × Int × (List (Str × (Int × Int)))) (n156 : Addr × Addr) (_ : Unit) (b165 : Unit × Int × (List (Str × (Int × Int)))) => [(q_, O.dice), (n87.2.1, O.ins (He.ga K "Desk") ["text", "deeds", "undone"] [D.str z86.2.1.2.1, f3 z86.2.1.2.2.1, f3 z86.2.1.2.2.2]), (n156.1, O.ins (He.ga K "DryLine") ["long", "things"] [D.int b165.2.1, D.ref n156.2]), (n156.2, dcO D.str f4 b165.2.2)]) (out := fun b165 : Unit × Int × (List (Str × (Int × Int))) => D.non) (ho := fun _ : Unit × Int × (List (Str × (Int × Int))) => [(q_, O.dice), (n87.2.1, O.ins (He.ga K "Desk") ["text", "deeds", "undone"] [D.str z86.2.1.2.1, f3 z86.2.1.2.2.1, f3 z86.2.1.2.2.2])]) (fun b154 n156 _ ex => (subP_of (h' := [(q_, O.dice), (n87.2.1, O.ins (He.ga K "Desk") ["text", "deeds", "undone"] [D.str z86.2.1.2.1, f3 z86.2.1.2.2.1, f3 z86.2.1.2.2.2]), (n156.1, O.ins (He.ga K "DryLine") ["long", "things"] [D.int ex.1, D.ref n156.2]), (n156.2, dcO D.str f4 ex.2)]) (n := 4) (is := [2, 3]) (rs := [0, 1]) (by decide) rfl rfl rfl (.cons₂ _ (.cons₂ _ (.cons _ (.cons _ .slnil)))))) (e6 := fun b154 n156 _ b165 => (.cons₂ _ (.cons₂ _ (.cons _ (.cons _ .slnil)))))))) (fun _ => (.cons₂ _ (.cons _ .slnil))) (fun _ => (.cons₂ _ (.cons _ .slnil)))) (.cons (uj_of (he := fun _ : Unit => [(q_, O.dice), (n87.2.1, O.ins (He.ga K "Desk") ["text", "deeds", "undone"] [D.str z86.2.1.2.1, f3 z86.2.1.2.2.1, f3 z86.2.1.2.2.2])]) (LamX.lamS_by (sc := defScope st_law) (by decide +kernel)) [(q_, O.dice)] (fun A outer s H E f c hrl => (asE (fun b175 : Int × Int => f13 b175) (fun _ => [(q_, O.dice), (n87.2.1, O.ins (He.ga K "Desk") ["text", "deeds", "undone"] [D.str z86.2.1.2.1, f3 z86.2.1.2.2.1, f3 z86.2.1.2.2.2])]) (ev_call (ok_wood_of F) (hrl.mono (by decide)) (by rfl) (takes_of rfl rfl rfl rfl) (ea_cons (fun (x168 : Str) (_ : Unit) => x168) (out := fun y173 : Str => [D.str y173]) (ho := fun _ : Str => [(q_, O.dice), (n87.2.1, O.ins (He.ga K "Desk") ["text", "deeds", "undone"] [D.str z86.2.1.2.1, f3 z86.2.1.2.2.1, f3 z86.2.1.2.2.2])]) (asE (fun x168 : Str => D.str x168) (fun _ => [(q_, O.dice), (n87.2.1, O.ins (He.ga K "Desk") ["text", "deeds", "undone"] [D.str z86.2.1.2.1, f3 z86.2.1.2.2.1, f3 z86.2.1.2.2.2])]) (ev_two0 two_bin (ep_str (x := "x")) (ep_var 2) oi_mulS)) (fun _ => ea_eap eap_nil)) (fun x174 : Str => (x174)) 2 [] [0, 1] (fun (_ : Str) (b175 : Int × Int) => b175) (fun (x174 : Str) (ex : Unit) => ()) (out := fun b175 : Int × Int => f13 b175) (ho := fun _ : Int × Int => [(q_, O.dice), (n87.2.1, O.ins (He.ga K "Desk") ["text", "deeds", "undone"] [D.str z86.2.1.2.1, f3 z86.2.1.2.2.1, f3 z86.2.1.2.2.2])]) (fun _ ex => (subP_of (h' := [(q_, O.dice), (n87.2.1, O.ins (He.ga K "Desk") ["text", "deeds", "undone"] [D.str z86.2.1.2.1, f3 z86.2.1.2.2.1, f3 z86.2.1.2.2.2])]) (n := 2) (is := []) (rs := [0, 1]) (by decide) rfl rfl rfl (.cons₂ _ (.cons₂ _ .slnil))))))) (fun _ => (.cons₂ _ (.cons _ .slnil))) (fun _ => (.cons₂ _ (.cons _ .slnil)))) (.cons (uj_of (he := fun _ : Unit => [(q_, O.dice), (n87.2.1, O.ins (He.ga K "Desk") ["text", "deeds", "undone"] [D.str z86.2.1.2.1, f3 z86.2.1.2.2.1, f3 z86.2.1.2.2.2])]) (LamX.lamS_by (sc := defScope st_law) (by decide +kernel)) [(q_, O.dice)] (fun A outer s H E f c hrl => (asE (fun b179 : Unit => D.non) (fun _ => [(q_, O.dice), (n87.2.1, O.ins (He.ga K "Desk") ["text", "deeds", "undone"] [D.str z86.2.1.2.1, f3 z86.2.1.2.2.1, f3 z86.2.1.2.2.2])]) (ev_call (ok_arc_height F) (hrl.mono (by decide)) (by rfl) (takes_of rfl rfl rfl rfl) (ea_eap (eap_cons (ep_var 2) (eap_cons (ep_var 2) eap_nil))) (fun uu178 : Unit => (z86.1, z86.1)) 2 [] [0, 1] (fun (_ : Unit) (b179 : Unit) => b179) (fun (uu178 : Unit) (ex : Unit) => ()) (out := fun b179 : Unit => D.non) (ho := fun _ : Unit => [(q_, O.dice), (n87.2.1, O.ins (He.ga K "Desk") ["text", "deeds", "undone"] [D.str z86.2.1.2.1, f3 z86.2.1.2.2.1, f3 z86.2.1.2.2.2])]) (fun _ ex => (subP_of (h' := [(q_, O.dice), (n87.2.1, O.ins (He.ga K "Desk") ["text", "deeds", "undone"] [D.str z86.2.1.2.1, f3 z86.2.1.2.2.1, f3 z86.2.1.2.2.2])]) (n := 2) (is := []) (rs := [0, 1]) (by decide) rfl rfl rfl (.cons₂ _ (.cons₂ _ .slnil))))))) (fun _ => (.cons₂ _ (.cons _ .slnil))) (fun _ => (.cons₂ _ (.cons _ .slnil)))) .nil)))))))) (asE (fun x93 : Nat => dv89 x93) (fun _ => [(q_, O.dice), (n87.2.1, O.ins (He.ga K "Desk") ["text", "deeds", "undone"] [D.str z86.2.1.2.1, f3 z86.2.1.2.2.1, f3 z86.2.1.2.2.2])]) (ev_two0 two_ix (ep_var 4) (ep_var 5) ix_L)) (fun o_ => o_))) (fun x182 => (asE (fun x191 : List Bool => f14 x191) (fun _ => [(q_, O.dice)]) (ev_two (out := f14) (ho := fun _ => [(q_, O.dice)]) two_bin (fun (x188 : List Bool) (uu189 : Unit) (g190 : List Bool) => g190) (asE (fun x188 : List Bool => f14 x188) (fun _ => [(q_, O.dice)]) (ev_lc (own' := [("j", 6)]) (f := D.int) (xs := fun x184 : List Int => x184) (Γb := fun p185 : Int => [none, some (D.ref q_), some (D.int z86.1), some (D.ref n87.2.1), some ((fun p : List Nat => D.lst (p.map dv89)) (List.range 8)), some (D.int b92), some (D.int p185)]) (fo := D.bl) (ot := fun (p185 : Int) (uu187 : Unit) => true) (ov := fun (p185 : Int) (x186 : Bool) => x186) (het := fun _ : Empty => [(q_, O.dice)]) (hee := fun _ : Empty => [(q_, O.dice)]) (ei_range1 (n := fun x183 : Int => x183) (fun (x183 : Int) => rangeI 0 (x183).toNat) (out := fun x184 : List Int => x184.map D.int) (ho' := fun _ => [(q_, O.dice)]) (asE (fun x183 : Int => D.int x183) (fun _ => [(q_, O.dice)]) (ev_p (f := D.int) (v := (8 : Int)) ep_int)) (by intros; rfl) (by rfl) (fr_range F)) rfl nd_law (blkOk_by (N := N_law) (sc := defScope st_law) (by decide +kernel)) (fun _ _ _ _ _ p185 => (egw_name 6 nd_law)) (fun _ _ _ _ _ p185 => ets_nil) (fun _ _ _ _ _ p185 => (asE (fun x186 : Bool => D.bl x186) (fun _ => [(q_, O.dice)]) (ev_p (f := D.bl) (v := decide (p185 = b92)) (ep_two (two_cmp (nomark _ (by decide) (by decide))) (ep_var 6) (ep_var 5) (oc_eq tye_int (u64 hr)))))))) (fun x188 => (asE (fun uu189 : Unit => f14 [true]) (fun _ => [(q_, O.dice)]) (ev_ep (ep_as (f := f14) (v := [true]) (ep_lst (eap_cons ep_bl eap_nil)))))) (fun x188 uu189 => (oi_catLF .frz .frz))))) (fun x182 x191 => (oc_ne (tye_lst tye_bl) (u64 hr))))) (fun x193 => (ew_or1 (asC (fun x204 : Bool => x204) (fun _ => [(q_, O.dice)]) (et_cmp (out := fun x204 : Bool => x204) (ho := fun _ => [(q_, O.dice)]) (fun (b201 : Bool × (List (Str × Int)) × Int) (uu202 : Unit) (g203 : Unit) => !decide (b201 = (false, ([] : List (Str × Int)), (0 : Int)))) (asE (fun b201 : Bool × (List (Str × Int)) × Int => f16 b201) (fun _ => [(q_, O.dice)]) (ev_methE0 (MF.noE (ok_Fire_shown F)) (hr.mono (by decide)) (takes_of rfl rfl rfl rfl) (asN (fun (b198 : Unit × Int × (List (Str × Int)) × Int × Bool) (n200 : Addr) => D.ref n200) (fun (b198 : Unit × Int × (List (Str × Int)) × Int × Bool) (n200 : Addr) => [(q_, O.dice), (n200, O.ins (He.ga K "Fire") ["holds", "logs", "ash", "lit"] [D.int b198.2.1, f15 b198.2.2.1, D.int b198.2.2.2.1, D.bl b198.2.2.2.2])]) (ne_nc (o := fun b198 : Unit × Int × (List (Str × Int)) × Int × Bool => O.ins (He.ga K "Fire") ["holds", "logs", "ash", "lit"] [D.int b198.2.1, f15 b198.2.2.1, D.int b198.2.2.2.1, D.bl b198.2.2.2.2]) (ho := fun _ => [(q_, O.dice)]) (ho' := fun (b198 : Unit × Int × (List (Str × Int)) × Int × Bool) (n200 : Addr) => [(q_, O.dice), (n200, O.ins (He.ga K "Fire") ["holds", "logs", "ash", "lit"] [D.int b198.2.1, f15 b198.2.2.1, D.int b198.2.2.2.1, D.bl b198.2.2.2.2])]) (en_mk (r1 := fun _ => (Fire_init_m z86.1).noE) (po' := (NC (fun b198 : Unit × Int × (List (Str × Int)) × Int × Bool => O.ins (He.ga K "Fire") ["holds", "logs", "ash", "lit"] [D.int b198.2.1, f15 b198.2.2.1, D.int b198.2.2.2.1, D.bl b198.2.2.2.2]) (fun _ => [(q_, O.dice)]))) (CF.noE (X := _) (ok_Fire_init F)) (hr.mono (by decide)) (by rfl) (takes_of rfl rfl rfl rfl) (ea_eap (eap_cons (ep_var 2) eap_nil)) (fun (a199 : Addr) (_ : Unit) => (a199, z86.1)) (fun (_ : Unit) (b198 : Unit × Int × (List (Str × Int)) × Int × Bool) => b198) (fun (_ : Unit) (e : Empty) => e.elim) (fun _ n b S h => by subst h; exact ⟨rfl, n, rfl, rfl⟩) (by intros; rfl) (by intros; rfl) (by intros; rfl) (fun _ _ e => e.elim) (fun _ e => e.elim)))) (fun _ _ => .inr ⟨_, _, _, rfl, List.mem_of_getElem? (i := 1) rfl, by decide⟩) (fun (b198 : Unit × Int × (List (Str × Int)) × Int × Bool) (n200 : Addr) => (n200, b198.2.1, b198.2.2.1, b198.2.2.2.1, b198.2.2.2.2)) (fun (b198 : Unit × Int × (List (Str × Int)) × Int × Bool) => (Fire_shown_m b198.2.1 b198.2.2.1 b198.2.2.2.1 b198.2.2.2.2).noE (ε' := Empty)) 2 [1] [0] (fun (b198 : Unit × Int × (List (Str × Int)) × Int × Bool) (b201 : Bool × (List (Str × Int)) × Int) => b201) (fun (b198 : Unit × Int × (List (Str × Int)) × Int × Bool) (ex : Empty) => ex.elim) (fun (b198 : Unit × Int × (List (Str × Int)) × Int × Bool) (n200 : Addr) (b201 : Bool × (List (Str × Int)) × Int) => [(q_, O.dice), (n200, O.ins (He.ga K "Fire") ["holds", "logs", "ash", "lit"] [D.int b198.2.1, f15 b198.2.2.1, D.int b198.2.2.2.1, D.bl b198.2.2.2.2])]) (out := fun b201 : Bool × (List (Str × Int)) × Int => f16 b201) (ho := fun _ : Bool × (List (Str × Int)) × Int => [(q_, O.dice)]) (fun _ _ ex => ex.elim) (e6 := fun b198 n200 b201 => (.cons₂ _ (.cons _ .slnil))))) (fun b201 => (asE (fun uu202 : Unit => f16 (false, ([] : List (Str × Int)), (0 : Int))) (fun _ => [(q_, O.dice)]) (ev_ep (ep_as (f := f16) (v := (false, ([] : List (Str × Int)), (0 : Int))) (ep_tup (eap_cons ep_bl (eap_cons (ep_as (f := f15) (v := []) (ep_tup eap_nil)) (eap_cons ep_int eap_nil)))))))) (fun b201 uu202 => (oc_ne (tye_3 tye_bl (tye_tup (tye_2 tye_str tye_int)) tye_int) (u64 hr)))))))))) (fun x205 => (ss_one (s1_retP (v := false) ep_bl))) (fun x205 => (ss_nil (b := ()) rfl trivial (.cons₂ _ .slnil))))) (by intros; rfl) nd_law))) (hN := nd_law)))))
def ts : List Tb := [⟨d_Cloth_init.at_, (d_Cloth_init.qual ++ ".<locals>.") ++ "<genexpr>"⟩, ⟨d_DryLine_taken.at_, (d_DryLine_taken.qual ++ ".<locals>.") ++ "<genexpr>"⟩, ⟨d_law.at_, (d_law.qual ++ ".<locals>.") ++ "<lambda>"⟩]
def ext (K : PySem.W.Frag) : Bool := undB K (He.ga K "TentFault") && (btB PR K (He.ga K "BadText") && (bfB PR K (He.ga K "BadText") (He.ma K (He.ga K "BadText") "__init__") && (vB K (f12 c_WOODS) (.ref (He.ga K "WOODS")) && (true))))
abbrev st_bt : Stmt := inner (top 9) 0
def fc : List FcD := [⟨("BadText", some "__init__"), defArgs st_bt, defBody st_bt, defScope st_bt⟩]
theorem bts : BtS (defArgs st_bt) (defBody st_bt) (defScope st_bt) := ⟨fun _ _ _ _ _ _ _ _ _ _ _ => BindsTo.of_eq rfl, ⟨_, rfl, rfl⟩, ⟨_, _, _, _, _, _, _, _, _, _, _, _, rfl, fun _ _ _ _ _ => ⟨_, rfl⟩⟩, fun _ _ _ _ _ => rfl, rfl, rfl, rfl, by decide +kernel, rfl, rfl, rfl, rfl⟩
theorem fx_of {tb : Addr → Addr} {h : Heap} (SY : SaysY fa fn ts fc ext K tb h) (b1 : K.In base) (b2 : base.Ns mainGlobals mg) (b3 : ∀ p ∈ ts.map (fun t => (codeOf K t.at_, tb (codeOf K t.at_))), LamX.TabB base mg p.1 p.2) : Fx PR K mg base (tlOf K tb ts) where
  s := SY.s.s
  i := b1
  g := b2
  un := (He.ba SY.s.x).1
  bc := btB_ok ((He.ba (He.ba SY.s.x).2).1)
  bf := ⟨_, _, _, _, btF_of ((He.ba (He.ba (He.ba SY.s.x).2).2).1) (List.cons.inj SY.f).1 bts⟩
  k_WOODS := (He.ba (He.ba (He.ba (He.ba SY.s.x).2).2).2).1
  t_Cloth_init := fun fd FD => tab_of SY.s b3 0 (t := ⟨d_Cloth_init.at_, _⟩) rfl FD
  t_DryLine_taken := fun fd FD => tab_of SY.s b3 1 (t := ⟨d_DryLine_taken.at_, _⟩) rfl FD
  t_law := fun fd FD => tab_of SY.s b3 2 (t := ⟨d_law.at_, _⟩) rfl FD
end K21
namespace K21
open PySem PySem.Spec PyProof.Rows L2 TH
abbrev RR : PySem.W.OpenRow := PySem.W.OpenLaw.row PySem.Challenge.rw_tenthall_k21_refusals_apart
abbrev hk : PySem.W.Hook := hookY 5 fa fn ts fc ext
def ob (s : PySem.W.SharedT) : AlY := obsY 5 fa fn ts fc ext (HandSHeadRun.getT s)
theorem ob_eq (s : PySem.W.SharedT) : ob s = hk.obs s.abs := obsY_eq (HandSHeadRun.getT_eq s)
def loose0 : List Str := ["_wall", "__name__", "TentFault", "BadSize", "BadPlan", "NoSuch", "NoRoom", "NoWay", "Gives", "BadText", "BadDeed", "__name__", "WOODS", "wood_of", "Fire", "__name__", "Cloth", "fly_overhang", "__name__", "DEEDS", "Row", "read_row", "Book", "__name__", "Desk", "__name__", "arc_height", "__name__", "DryLine", "thunder_far"]
def loose1 : List Str := ["__name__", "_law_dice", "_law_roll", "_law_rounds", "_law_under"]
abbrev loose : List Str := loose0 ++ loose1
set_option maxHeartbeats 0 in
theorem run (w : World) : HandSHeadRun.RunEq RR (PySem.W.view RR.prog [35]) hk ob 6000 loose w := by
  intro os
  kernel_rfl
set_option maxHeartbeats 0 in
theorem step_ok : StepOk (law_step) := by
  show (law_step).wp okF _
  refine Res.wp_mono (fun f k => ?_) (fun _ _ k => k) (chk_ok (p := isNx) (r := law_step) (fun e => by kernel_rfl))
  cases f with
  | nx b => exact trivial
  | bk c => exact absurd k Bool.false_ne_true
  | ct c => exact absurd k Bool.false_ne_true
  | rt v => exact absurd k Bool.false_ne_true
end K21
open PySem PySem.W PySem.Calls PyProof.Rows
set_option maxHeartbeats 0 in
theorem PySem.Challenge.cw_tenthall_k21_refusals_apart_holds : PySem.Challenge.rw_tenthall_k21_refusals_apart.Holds := by
  w_on; o_law
  refine HandSHeadRun.head_any (r := K21.RR) (q := view K21.RR.prog [35]) (H := K21.hk) (ob := K21.ob) (M := 6000) (loose := K21.loose) (d := HandSHeadRun.topDef K21.RR.prog 35) (kwd := []) K21.ob_eq
    (by kernel_rfl) (fun s => by kernel_rfl) K21.run (by kernel_rfl) (by kernel_rfl) (by kernel_rfl) (by rfl) (by first | assumption | decide +kernel) (by decide +kernel) ⟨rfl, rfl, rfl, rfl, rfl, by decide +kernel⟩ ?hw ?hc
  case hw => w_witness2
  case hc =>
    refine LamX.walk_ofTsE (l := PySem.Challenge.rw_tenthall_k21_refusals_apart) (n := 63) (k := 8) (x := "script") (CX := fun w => L2.CX (PySem.Challenge.rw_tenthall_k21_refusals_apart).prog w) rfl (by decide) (by kernel_rfl) ⟨rfl, by decide, by decide⟩ ?F TH.cx_end
    intro w mg fa h Y G hmg0
    obtain ⟨K, tb, SY⟩ := Y
    have S := SY.s
    have hmg : mg ("law" : PySem.Str) = some (.ref fa) := by
      have e : (HandSHeadRun.topDef K21.RR.prog 35).name = ("law" : PySem.Str) := by kernel_rfl
      rw [← e]
      exact hmg0
    have e := hmg.symm.trans (He.glo_ok S.i G (S.s.fact 65 (f := .glo "law") rfl))
    have e : fa = He.ga K "law" := by
      have := Option.some.inj e
      injection this
    exact ⟨K, S.i, TH.law_at (px := L2.defArgs K21.st_law) (d := K21.d_law) S 17 rfl rfl rfl e (fun fd FD s u => L2.FunD.bindsA (ps := ["script"]) FD (fun _ _ _ _ _ _ us hl => match us, hl with | [_], _ => rfl) s [u] rfl) fun fd FD base b1 b2 b3 => K21.ok_law (K21.fx_of SY b1 b2 b3) (K21.step_ok) FD⟩
