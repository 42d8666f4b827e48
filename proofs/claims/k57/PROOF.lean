import PyProof.Rows.All
import Wide.All
import OpenK.AllK
import Wide.FinOn
import HandS.ForMost
import HandS.Exc
import HandS.TryOnly
import HandS.ExcOwn
import HandS.WordsExc
import HandS.Flow
import HandS.IsInst
import HandS.Wide
import HandS.SortInts
import HandS.Defaults
import HandS.Lambda
import HandS.Zip
import KE.GoesMore
import KE.GoesEnum
import HandS.Style
import HandS.TupAny
import HandS.TupMul
import HandS.RaiseMore
import HandS.Ends
import PyProof.ReprRoads
import PyProof.ReprLen
import HandS.EndTab
import KE.KDflt
import HandS.ExcIs
import HandS.Dict
import HandS.More
import HandS.DictComp
import HandS.Comp
import HandS.Conv
import HandS.Flt
import HandS.SortRule
import PySem.Challenge.RW_rankrows_k57_whole_same_classes_of_ways
set_option Elab.async false
set_option linter.all false
set_option maxRecDepth 100000
set_option maxHeartbeats 4000000
namespace Dn
open PySem PySem.Spec L2

/-! ## heaps without tables of code objects -/
def nt (H : Hp) : Hp := fun b => match H b with
  | some (.tbl _) => none
  | o => o
def NoT (H : Hp) : Prop := ∀ b ps, H b ≠ some (.tbl ps)
abbrev ExtN (H H' : Hp) : Prop := LamX.ExtN H H'
section
variable {H H' Hf : Hp} {b p : Addr} {o : HO}
theorem nt_of (h : H b = some o) (n : ∀ ps, o ≠ .tbl ps) : nt H b = some o := by
  unfold nt
  rw [h]
  cases o <;> first | rfl | exact absurd rfl (n _)
theorem of_nt (h : nt H b = some o) : H b = some o ∧ ∀ ps, o ≠ .tbl ps := by
  unfold nt at h
  split at h
  · cases h
  · rename_i n
    exact ⟨h, fun ps z => n ps (by rw [h, z])⟩
theorem nt_none (h : H b = none) : nt H b = none := by unfold nt; rw [h]
theorem nt_noT : NoT (nt H) := fun b ps z => (of_nt z).2 ps rfl
theorem nt_same : Same (nt H) H := fun b o e => (of_nt e).1
theorem nt_lst {xs : List V} (h : H b = some (.lst xs)) : nt H b = some (.lst xs) := nt_of h fun ps z => nomatch z
theorem nt_split (h : nt H b = none) : H b = none ∨ ∃ ps, H b = some (.tbl ps) := by
  cases e : H b with
  | none => exact .inl rfl
  | some o =>
    unfold nt at h
    rw [e] at h
    cases o <;> first | cases h; done | exact .inr ⟨_, rfl⟩
theorem ExtN.ofSame (k : Same H H') : ExtN H H' := fun b o e _ => k b o e
theorem ExtN.nt (k : ExtN H H') : Same (nt H) (nt H') := fun b o e => nt_of (k b o (of_nt e).1 (of_nt e).2) (of_nt e).2
/-- what is known: none of it a table -/
def Sb (Hf H : Hp) : Prop := Same Hf (nt H)
theorem Sb.same (s : Sb Hf H) : Same Hf H := fun b o e => (of_nt (s b o e)).1
theorem Sb.up (s : Sb Hf H) (k : ExtN H H') : Sb Hf H' := s.trans k.nt
theorem Sb.noT (s : Sb Hf H) : NoT Hf := fun b ps z => (of_nt (s b _ z)).2 ps rfl
theorem Sb.of (s : Same Hf H) (n : NoT Hf) : Sb Hf H := fun b o e => nt_of (s b o e) fun ps z => n b ps (by rw [e, z])
theorem NoT.upd (n : NoT H) (ho : ∀ ps, o ≠ .tbl ps) : NoT (upd H p o) := fun b ps z => by
  by_cases hb : b = p
  · subst hb; rw [upd_same] at z; exact ho ps (Option.some.inj z)
  · rw [upd_ne hb] at z; exact n b ps z
open LamX (Tabs TabS CodeO) in
theorem tabs_ext {T : List (Addr × Str)} (t : Tabs T H) (e : Same H H') : Tabs T H' := t.ext e
open LamX (Tabs TabS CodeO) in
/-- a list is written -/
theorem tabs_upd {T : List (Addr × Str)} {xs : List V} (t : Tabs T H) (hp : H p = some (.lst xs)) (e : ∀ b, b ≠ p → H' b = H b) : Tabs T H' := fun q hq => by
  obtain ⟨ps, h1, h2, h3⟩ := t q hq
  refine ⟨ps, ?_, h2, fun pos cv hc => ?_⟩
  · rw [e _ fun z => by rw [z, hp] at h1; cases h1]; exact h1
  · obtain ⟨c, e1, e2⟩ := h3 pos cv hc
    refine ⟨c, e1, ?_⟩
    rw [e _ fun z => by rw [z, hp] at e2; unfold CodeO at e2; cases e2]; exact e2
end

/-! ## pure data -/
inductive D where
  | non | bl (b : Bool) | int (i : Int) | str (x : Str) | tup (xs : List D) | lst (xs : List D) | scr (xs : List D) | dct (ks : List Key) (vs : List D) | fn (x : Str) (a : Addr) | ty (n : String)

mutual
/-- a value denotes data, in a heap that knows -/
def Rel (K : PySem.W.Frag) (H : Hp) : D → V → Prop
  | .non, v => v = .non
  | .bl b, v => v = .bl b
  | .int i, v => v = .int i
  | .str x, v => v = .str x
  | .ty n, v => v = .ty n
  | .fn _ a, v => v = .ref a
  | .tup ds, v => ∃ a xs, v = .ref a ∧ SqT K H a xs ∧ RelL K H ds xs
  | .lst ds, v => ∃ a xs, v = .ref a ∧ H a = some (.lst xs) ∧ RelL K H ds xs
  | .scr ds, v => ∃ a xs, v = .ref a ∧ SqL K H a xs ∧ RelL K H ds xs
  | .dct ks ds, v => ∃ a kvs, v = .ref a ∧ H a = some (.dK kvs) ∧ kvs.map (·.1) = ks ∧ RelL K H ds (kvs.map (·.2))
def RelL (K : PySem.W.Frag) (H : Hp) : List D → List V → Prop
  | [], xs => xs = []
  | d :: ds, xs => ∃ x r, xs = x :: r ∧ Rel K H d x ∧ RelL K H ds r
end

theorem Same.sqt {K : PySem.W.Frag} {H H' : Hp} {a : Addr} {xs : List V} (e : Same H H') (h : SqT K H a xs) : SqT K H' a xs := by
  rcases h with (h | ⟨o, h⟩) | h
  · exact .inl (.inl (e _ _ h))
  · exact .inl (.inr ⟨o, e _ _ h⟩)
  · exact .inr h
theorem Same.sql {K : PySem.W.Frag} {H H' : Hp} {a : Addr} {xs : List V} (e : Same H H') (h : SqL K H a xs) : SqL K H' a xs := by
  rcases h with (h | ⟨o, h⟩) | h
  · exact .inl (.inl (e _ _ h))
  · exact .inl (.inr ⟨o, e _ _ h⟩)
  · exact .inr h
theorem Same.new {H : Hp} {p : Addr} {o : HO} (h : H p = none) : Same H (upd H p o) := fun b x e => by
  rw [upd_ne (ne_of_none e h)]
  exact e

mutual
theorem Rel.mono {K : PySem.W.Frag} {H H' : Hp} (e : Same H H') : ∀ {d : D} {v : V}, Rel K H d v → Rel K H' d v
  | .non, _, h => h
  | .bl _, _, h => h
  | .int _, _, h => h
  | .str _, _, h => h
  | .ty _, _, h => h
  | .fn _ _, _, h => h
  | .tup ds, v, h => by
    unfold Rel at h ⊢
    obtain ⟨a, xs, h1, h2, h3⟩ := h
    exact ⟨a, xs, h1, Same.sqt e h2, RelL.mono e h3⟩
  | .lst ds, v, h => by
    unfold Rel at h ⊢
    obtain ⟨a, xs, h1, h2, h3⟩ := h
    exact ⟨a, xs, h1, e _ _ h2, RelL.mono e h3⟩
  | .scr ds, v, h => by
    unfold Rel at h ⊢
    obtain ⟨a, xs, h1, h2, h3⟩ := h
    exact ⟨a, xs, h1, Same.sql e h2, RelL.mono e h3⟩
  | .dct ks ds, v, h => by
    unfold Rel at h ⊢
    obtain ⟨a, kvs, h1, h2, h3, h4⟩ := h
    exact ⟨a, kvs, h1, e _ _ h2, h3, RelL.mono e h4⟩
theorem RelL.mono {K : PySem.W.Frag} {H H' : Hp} (e : Same H H') : ∀ {ds : List D} {xs : List V}, RelL K H ds xs → RelL K H' ds xs
  | [], _, h => h
  | d :: ds, xs, h => by
    unfold RelL at h ⊢
    obtain ⟨x, r, h1, h2, h3⟩ := h
    exact ⟨x, r, h1, Rel.mono e h2, RelL.mono e h3⟩
end
section
variable {K : PySem.W.Frag} {H H' : Hp}
theorem RelL.nil : RelL K H [] [] := by unfold RelL; rfl
theorem RelL.cons {d : D} {ds : List D} {x : V} {xs : List V} (h : Rel K H d x) (r : RelL K H ds xs) : RelL K H (d :: ds) (x :: xs) := by
  unfold RelL; exact ⟨x, xs, rfl, h, r⟩
theorem RelL.length : ∀ {ds : List D} {xs : List V}, RelL K H ds xs → xs.length = ds.length
  | [], _, h => by unfold RelL at h; subst h; rfl
  | d :: ds, xs, h => by
    unfold RelL at h
    obtain ⟨x, r, rfl, _, h3⟩ := h
    simp [RelL.length h3]
theorem RelL.get : ∀ {ds : List D} {xs : List V} {i : Nat} {d : D}, RelL K H ds xs → ds[i]? = some d → ∃ x, xs[i]? = some x ∧ Rel K H d x
  | [], _, _, _, _, e => by simp at e
  | d :: ds, xs, i, d', h, e => by
    unfold RelL at h
    obtain ⟨x, r, rfl, h2, h3⟩ := h
    cases i with
    | zero => simp at e; subst e; exact ⟨x, rfl, h2⟩
    | succ i => simpa using RelL.get h3 (by simpa using e)
theorem RelL.append : ∀ {ds es : List D} {xs ys : List V}, RelL K H ds xs → RelL K H es ys → RelL K H (ds ++ es) (xs ++ ys)
  | [], _, _, _, h, k => by unfold RelL at h; subst h; exact k
  | d :: ds, _, xs, _, h, k => by
    unfold RelL at h
    obtain ⟨x, r, rfl, h2, h3⟩ := h
    exact RelL.cons h2 (RelL.append h3 k)
theorem RelL.set {d : D} {x : V} (q : Rel K H d x) : ∀ {ds : List D} {xs : List V} (i : Nat), RelL K H ds xs → RelL K H (ds.set i d) (xs.set i x)
  | [], _, _, h => by unfold RelL at h; subst h; exact RelL.nil
  | d :: ds, xs, i, h => by
    unfold RelL at h
    obtain ⟨x, r, rfl, h2, h3⟩ := h
    cases i with
    | zero => exact RelL.cons q h3
    | succ i => exact RelL.cons h2 (RelL.set q i h3)
theorem RelL.take : ∀ {ds : List D} {xs : List V} (n : Nat), RelL K H ds xs → RelL K H (ds.take n) (xs.take n)
  | [], _, _, h => by unfold RelL at h; subst h; simp; exact RelL.nil
  | d :: ds, xs, n, h => by
    unfold RelL at h
    obtain ⟨x, r, rfl, h2, h3⟩ := h
    cases n with
    | zero => exact RelL.nil
    | succ n => exact RelL.cons h2 (RelL.take n h3)
theorem RelL.drop : ∀ {ds : List D} {xs : List V} (n : Nat), RelL K H ds xs → RelL K H (ds.drop n) (xs.drop n)
  | [], _, _, h => by unfold RelL at h; subst h; simp; exact RelL.nil
  | d :: ds, xs, n, h => by
    unfold RelL at h
    obtain ⟨x, r, rfl, h2, h3⟩ := h
    cases n with
    | zero => exact RelL.cons h2 h3
    | succ n => exact RelL.drop n h3
theorem RelL.reverse : ∀ {ds : List D} {xs : List V}, RelL K H ds xs → RelL K H ds.reverse xs.reverse
  | [], _, h => by unfold RelL at h; subst h; exact RelL.nil
  | d :: ds, xs, h => by
    unfold RelL at h
    obtain ⟨x, r, rfl, h2, h3⟩ := h
    simpa using RelL.append (RelL.reverse h3) (RelL.cons h2 RelL.nil)
theorem RelL.ints : ∀ {ns : List Int} {xs : List V}, RelL K H (ns.map D.int) xs → xs = ns.map V.int
  | [], _, h => by simpa [RelL] using h
  | n :: ns, xs, h => by
    simp only [List.map, RelL, Rel] at h
    obtain ⟨x, r, rfl, rfl, h3⟩ := h
    rw [RelL.ints h3]; rfl
theorem RelL.of_ints : ∀ {ns : List Int}, RelL K H (ns.map D.int) (ns.map V.int)
  | [] => RelL.nil
  | n :: ns => RelL.cons rfl RelL.of_ints
theorem RelL.bls : ∀ {ns : List Bool} {xs : List V}, RelL K H (ns.map D.bl) xs → xs = ns.map V.bl
  | [], _, h => by simpa [RelL] using h
  | n :: ns, xs, h => by
    simp only [List.map, RelL, Rel] at h
    obtain ⟨x, r, rfl, rfl, h3⟩ := h
    rw [RelL.bls h3]; rfl
end

/-! ## slots -/
inductive Sl where
  | no | fz (d : D) | own (ds : List D) | io (ds : List D) | exn
def Sl.isOwn : Sl → Bool
  | .own _ => true
  | .io _ => true
  | _ => false

/-- the tables of code objects; the exception that a suite holds -/
structure Cst where
  tabs : List (Addr × Str)
  xa : Addr
/-- what stays fixed while a body runs: the heap ahead, what was known then, the addresses of lists that the caller lends -/
structure Gh (C : Cst) where
  g : Hp
  gn : NoT g
  f0 : Hp
  ia : Nat → Option Addr

def SlR (K : PySem.W.Frag) {C : Cst} (G : Gh C) (Hf H : Hp) (i : Nat) (o : Option V) : Sl → Prop
  | .no => G.ia i = none
  | .exn => G.ia i = none ∧ o = some (.ref C.xa)
  | .fz d => G.ia i = none ∧ ∃ v, o = some v ∧ Rel K Hf d v
  | .own ds => G.ia i = none ∧ ∃ p vs, o = some (.ref p) ∧ H p = some (.lst vs) ∧ RelL K Hf ds vs ∧ Hf p = none ∧ G.g p = none ∧ ∀ j, G.ia j ≠ some p
  | .io ds => ∃ p vs, G.ia i = some p ∧ o = some (.ref p) ∧ H p = some (.lst vs) ∧ RelL K Hf ds vs ∧ Hf p = none

structure IV (K : PySem.W.Frag) {C : Cst} (G : Gh C) (Hf : Hp) (σ : St) (H : Hp) (δ : List Sl) : Prop where
  len : σ.length = δ.length
  subN : Sb Hf H
  f0s : Same G.f0 Hf
  hf0 : ∀ b, Hf b ≠ none → G.f0 b ≠ none ∨ G.g b = none
  frame : ∀ b o, G.g b = some o → (∀ i, G.ia i ≠ some b) → H b = some o
  dom : ∀ b, H b = none → G.g b = none
  sl : ∀ (i : Nat) (s : Sl), δ[i]? = some s → ∃ o, σ[i]? = some o ∧ SlR K G Hf H i o s
  dj : ∀ (i j : Nat) (s t : Sl) (p : Addr), i ≠ j → δ[i]? = some s → s.isOwn = true → δ[j]? = some t → t.isOwn = true → σ[i]? = some (some (V.ref p)) → σ[j]? ≠ some (some (V.ref p))
  iai : ∀ (i : Nat) (p : Addr), G.ia i = some p → ∃ ds, δ[i]? = some (.io ds)
  tab : LamX.Tabs C.tabs H
theorem IV.sub {K : PySem.W.Frag} {C : Cst} {G : Gh C} {Hf : Hp} {σ : St} {H : Hp} {δ : List Sl} (I : IV K G Hf σ H δ) : Same Hf H := I.subN.same

/-! ## results -/
inductive Rs where
  | fz (d : D) | fresh (ds : List D) | slot (i : Nat)
/-- an exception: its class by name, its field -/
structure Ex where
  cls : Str
  field : Option (Str × D) := none
inductive ER where
  | ok (r : Rs) (δ : List Sl)
  | er (x : Ex) (δ : List Sl)
abbrev ED := List Sl → Option ER
def ER.bind (o : Option ER) (k : Rs → List Sl → Option ER) : Option ER :=
  match o with
  | none => none
  | some (.er x δ) => some (.er x δ)
  | some (.ok r δ) => k r δ

/-- the data that a result holds now -/
def Rs.data (δ : List Sl) : Rs → Option D
  | .fz d => some d
  | .fresh ds => some (.lst ds)
  | .slot i => match δ[i]? with
    | some (.fz d) => some d
    | some (.own ds) => some (.lst ds)
    | some (.io ds) => some (.lst ds)
    | _ => none
/-- .. where it is kept by something else from now on -/
def Rs.settle (δ : List Sl) : Rs → Option (D × List Sl)
  | .fz d => some (d, δ)
  | .fresh ds => some (.lst ds, δ)
  | .slot i => match δ[i]? with
    | some (.fz d) => some (d, δ)
    | some (.own ds) => some (.lst ds, δ.set i (.fz (.lst ds)))
    | _ => none

def ownAt (σ : St) (δ : List Sl) (p : Addr) : Prop := ∃ (i : Nat) (s : Sl), δ[i]? = some s ∧ s.isOwn = true ∧ σ[i]? = some (some (V.ref p))
/-- a new list that nothing else holds -/
def FreshAt (K : PySem.W.Frag) {C : Cst} (G : Gh C) (Hf : Hp) (σ : St) (H : Hp) (δ : List Sl) (p : Addr) (ds : List D) : Prop :=
  ∃ vs, H p = some (.lst vs) ∧ RelL K Hf ds vs ∧ Hf p = none ∧ G.g p = none ∧ (∀ j, G.ia j ≠ some p) ∧ ¬ ownAt σ δ p
def RsR (K : PySem.W.Frag) {C : Cst} (G : Gh C) (Hf : Hp) (σ : St) (H : Hp) (δ : List Sl) (v : V) : Rs → Prop
  | .fz d => Rel K Hf d v
  | .fresh ds => ∃ p, v = .ref p ∧ FreshAt K G Hf σ H δ p ds
  | .slot i => σ[i]? = some (some v)
/-- a value denotes data now: at most its outermost list may be one's own -/
def RN (K : PySem.W.Frag) (Hf H : Hp) : D → V → Prop
  | .lst ds, v => ∃ a xs, v = .ref a ∧ H a = some (.lst xs) ∧ RelL K Hf ds xs
  | d, v => Rel K Hf d v
theorem RN.of {K : PySem.W.Frag} {Hf H : Hp} (e : Same Hf H) {d : D} {v : V} (h : Rel K Hf d v) : RN K Hf H d v := by
  cases d <;> first
    | exact h
    | (unfold Rel at h
       obtain ⟨a, xs, h1, h2, h3⟩ := h
       exact ⟨a, xs, h1, e _ _ h2, h3⟩)
theorem RN.rel {K : PySem.W.Frag} {Hf H : Hp} (e : Same Hf H) {d : D} {v : V} (h : RN K Hf H d v) : Rel K H d v := by
  cases d <;> first
    | exact Rel.mono e h
    | (obtain ⟨a, xs, h1, h2, h3⟩ := h
       unfold Rel
       exact ⟨a, xs, h1, h2, RelL.mono e h3⟩)

section
variable {K : PySem.W.Frag} {C : Cst} {G : Gh C} {Hf Hf' : Hp} {σ : St} {H H' : Hp} {δ : List Sl} {p : Addr} {v : V}
theorem IV.fnone (I : IV K G Hf σ H δ) (h : H p = none) : Hf p = none := by
  cases q : Hf p with
  | none => rfl
  | some o => rw [I.sub _ _ q] at h; cases h
theorem IV.own_some (I : IV K G Hf σ H δ) {i : Nat} {s : Sl} (h : δ[i]? = some s) (ho : s.isOwn = true) : ∃ p vs ds, σ[i]? = some (some (.ref p)) ∧ H p = some (.lst vs) ∧ RelL K Hf ds vs ∧ Hf p = none ∧ (s = .own ds ∧ G.g p = none ∧ (∀ j, G.ia j ≠ some p) ∨ s = .io ds ∧ G.ia i = some p) := by
  obtain ⟨o, e, r⟩ := I.sl i s h
  cases s with
  | no => cases ho
  | fz d => cases ho
  | exn => cases ho
  | own ds =>
    obtain ⟨_, p, vs, rfl, h1, h2, h3, h4, h5⟩ := r
    exact ⟨p, vs, ds, e, h1, h2, h3, .inl ⟨rfl, h4, h5⟩⟩
  | io ds =>
    obtain ⟨p, vs, h0, rfl, h1, h2, h3⟩ := r
    exact ⟨p, vs, ds, e, h1, h2, h3, .inr ⟨rfl, h0⟩⟩
theorem IV.own_ne (I : IV K G Hf σ H δ) {i : Nat} {s : Sl} (h : δ[i]? = some s) (ho : s.isOwn = true) (hp : H p = none) : σ[i]? ≠ some (some (.ref p)) := fun e => by
  obtain ⟨q, vs, _, e2, h1, _⟩ := I.own_some h ho
  rw [e] at e2
  cases e2
  rw [hp] at h1
  cases h1
theorem IV.not_own (I : IV K G Hf σ H δ) (hp : H p = none) : ¬ ownAt σ δ p := fun ⟨_, _, h, ho, e⟩ => I.own_ne h ho hp e
theorem IV.not_ia (I : IV K G Hf σ H δ) (hp : H p = none) (j : Nat) : G.ia j ≠ some p := fun e => by
  obtain ⟨ds, h⟩ := I.iai j p e
  obtain ⟨o, e2, r⟩ := I.sl j _ h
  obtain ⟨q, vs, h0, _, h1, _⟩ := r
  rw [e] at h0
  cases h0
  rw [hp] at h1
  cases h1

/-- a lent list is there -/
theorem IV.lent (I : IV K G Hf σ H δ) {i : Nat} (h : G.ia i = some p) : ∃ vs, H p = some (.lst vs) := by
  obtain ⟨ds, e⟩ := I.iai i p h
  obtain ⟨o, _, q, vs, h0, _, h1, _⟩ := I.sl i _ e
  rw [h] at h0
  cases h0
  exact ⟨vs, h1⟩
theorem IV.domN (I : IV K G Hf σ H δ) (h : nt H p = none) : G.g p = none := by
  rcases nt_split h with h | ⟨ps, h⟩
  · exact I.dom p h
  · cases z : G.g p with
    | none => rfl
    | some o =>
      have e := I.frame p o z fun i q => by
        obtain ⟨vs, w⟩ := I.lent q
        rw [h] at w; cases w
      rw [h] at e
      cases e
      exact absurd z (G.gn p ps)
/-- the known heap grows; the heap too, all it held stands -/
theorem IV.grow (I : IV K G Hf σ H δ) (e : Same Hf Hf') (s : Sb Hf' H') (k : ExtN H H') (n : ∀ b, Hf b = none → Hf' b ≠ none → nt H b = none) (t : LamX.Tabs C.tabs H') : IV K G Hf' σ H' δ where
  len := I.len
  subN := s
  f0s := fun b o q => e b o (I.f0s b o q)
  hf0 := fun b q => by
    cases z : Hf b with
    | none => exact .inr (I.domN (n b z q))
    | some o => exact I.hf0 b (by rw [z]; intro z; cases z)
  frame := fun b o q h => k b o (I.frame b o q h) fun ps z => G.gn b ps (by rw [q, z])
  dom := fun b q => by
    cases z : G.g b with
    | none => rfl
    | some o =>
      exfalso
      by_cases h : ∃ i, G.ia i = some b
      · obtain ⟨i, h⟩ := h
        obtain ⟨vs, w⟩ := I.lent h
        have := k b _ w fun ps z => nomatch z
        rw [q] at this; cases this
      · have := k b o (I.frame b o z fun i w => h ⟨i, w⟩) fun ps w => G.gn b ps (by rw [z, w])
        rw [q] at this; cases this
  sl := fun i t h => by
    obtain ⟨o, e1, r⟩ := I.sl i t h
    have nn : ∀ p vs, H p = some (.lst vs) → Hf p = none → Hf' p = none := fun p vs h1 h2 => by
      cases z : Hf' p with
      | none => rfl
      | some u =>
        have := n p h2 (by rw [z]; intro z; cases z)
        rw [nt_lst h1] at this; cases this
    refine ⟨o, e1, ?_⟩
    cases t with
    | no => exact r
    | exn => exact r
    | fz d => exact ⟨r.1, r.2.imp fun v h => ⟨h.1, Rel.mono e h.2⟩⟩
    | own ds =>
      obtain ⟨h0, p, vs, h1, h2, h3, h4, h5⟩ := r
      exact ⟨h0, p, vs, h1, k _ _ h2 (fun ps z => nomatch z), RelL.mono e h3, nn p vs h2 h4, h5⟩
    | io ds =>
      obtain ⟨p, vs, h0, h1, h2, h3, h4⟩ := r
      exact ⟨p, vs, h0, h1, k _ _ h2 (fun ps z => nomatch z), RelL.mono e h3, nn p vs h2 h4⟩
  dj := I.dj
  iai := I.iai
  tab := t
/-- something new that is known from now on -/
theorem IV.alloc (I : IV K G Hf σ H δ) (hp : H p = none) (o : HO) (ho : ∀ ps, o ≠ .tbl ps := by intro _ z; cases z) : IV K G (upd Hf p o) σ (upd H p o) δ :=
  I.grow (Same.new (I.fnone hp)) (.of (fun b x e => by
    by_cases hb : b = p
    · subst hb; rw [upd_same] at e ⊢; exact e
    · rw [upd_ne hb] at e ⊢; exact I.sub b x e) (I.subN.noT.upd ho)) (.ofSame (Same.new hp)) (fun b h1 h2 => by
    by_cases hb : b = p
    · subst hb; exact nt_none hp
    · rw [upd_ne hb] at h2; exact absurd h1 h2) (tabs_ext I.tab (Same.new hp))
/-- something new that stays one's own -/
theorem IV.allocOwn (I : IV K G Hf σ H δ) (hp : H p = none) (o : HO) : IV K G Hf σ (upd H p o) δ :=
  I.grow (Same.refl _) (I.subN.up (.ofSame (Same.new hp))) (.ofSame (Same.new hp)) (fun b h1 h2 => absurd h1 h2) (tabs_ext I.tab (Same.new hp))
theorem IV.fresh_new (I : IV K G Hf σ H δ) (hp : H p = none) {ds : List D} {vs : List V} (r : RelL K Hf ds vs) : FreshAt K G Hf σ (upd H p (.lst vs)) δ p ds :=
  ⟨vs, upd_same, r, I.fnone hp, I.dom p hp, I.not_ia hp, I.not_own hp⟩

/-- a new list that nothing holds is known from now on -/
theorem IV.freeze (I : IV K G Hf σ H δ) {ds : List D} (f : FreshAt K G Hf σ H δ p ds) : ∃ vs, H p = some (.lst vs) ∧ Same Hf (upd Hf p (.lst vs)) ∧ IV K G (upd Hf p (.lst vs)) σ H δ ∧ Rel K (upd Hf p (.lst vs)) (.lst ds) (.ref p) := by
  obtain ⟨vs, h1, h2, h3, h4, h5, h6⟩ := f
  refine ⟨vs, h1, Same.new h3, ?_, ?_⟩
  · have ne : ∀ (i : Nat) (s : Sl), δ[i]? = some s → s.isOwn = true → ∀ q, σ[i]? = some (some (V.ref q)) → q ≠ p := fun i s a b q c z => h6 ⟨i, s, a, b, z ▸ c⟩
    refine ⟨I.len, .of (fun b x e => ?_) (I.subN.noT.upd fun ps z => nomatch z), I.f0s.trans (Same.new h3), fun b hb => ?_, I.frame, I.dom, fun i s a => ?_, I.dj, I.iai, I.tab⟩
    · by_cases hb : b = p
      · subst hb; rw [upd_same] at e; cases e; exact h1
      · rw [upd_ne hb] at e; exact I.sub b x e
    · by_cases hb' : b = p
      · subst hb'; exact .inr h4
      · rw [upd_ne hb'] at hb; exact I.hf0 b hb
    · obtain ⟨o, e, r⟩ := I.sl i s a
      refine ⟨o, e, ?_⟩
      cases s with
      | no => exact r
      | exn => exact r
      | fz d => exact ⟨r.1, r.2.imp fun v h => ⟨h.1, Rel.mono (Same.new h3) h.2⟩⟩
      | own ds' =>
        obtain ⟨k0, q, ws, k1, k2, k3, k4, k5⟩ := r
        have nq := ne i _ a rfl q (by rw [e, k1])
        exact ⟨k0, q, ws, k1, k2, RelL.mono (Same.new h3) k3, by rw [upd_ne nq]; exact k4, k5⟩
      | io ds' =>
        obtain ⟨q, ws, k0, k1, k2, k3, k4⟩ := r
        have nq := ne i _ a rfl q (by rw [e, k1])
        exact ⟨q, ws, k0, k1, k2, RelL.mono (Same.new h3) k3, by rw [upd_ne nq]; exact k4⟩
  · unfold Rel
    exact ⟨p, vs, rfl, upd_same, RelL.mono (Same.new h3) h2⟩
/-- one's own list in a slot is known from now on -/
theorem IV.freezeSlot (I : IV K G Hf σ H δ) {i : Nat} {ds : List D} (hi : δ[i]? = some (.own ds)) (hv : σ[i]? = some (some v)) : ∃ Hf', Same Hf Hf' ∧ IV K G Hf' σ H (δ.set i (.fz (.lst ds))) ∧ Rel K Hf' (.lst ds) v ∧ ∀ q, Hf q = none → Hf' q ≠ none → v = .ref q := by
  obtain ⟨o, e, r⟩ := I.sl i _ hi
  obtain ⟨k0, p, vs, rfl, k2, k3, k4, k5, k6⟩ := r
  rw [hv] at e
  cases e
  have lt : i < δ.length := (List.getElem?_eq_some_iff.mp hi).1
  -- without the slot
  have I2 : IV K G Hf σ H (δ.set i .no) := by
    refine ⟨by simpa using I.len, I.subN, I.f0s, I.hf0, I.frame, I.dom, fun j s a => ?_, fun j k s t q njk a1 a2 a3 a4 => ?_, fun j q a => ?_, I.tab⟩
    · by_cases hj : i = j
      · subst hj
        rw [List.getElem?_set_self lt] at a
        cases a
        exact ⟨_, hv, k0⟩
      · rw [List.getElem?_set_ne hj] at a
        exact I.sl j s a
    · have n1 : i ≠ j := fun z => by subst z; rw [List.getElem?_set_self lt] at a1; cases a1; cases a2
      have n2 : i ≠ k := fun z => by subst z; rw [List.getElem?_set_self lt] at a3; cases a3; cases a4
      rw [List.getElem?_set_ne n1] at a1
      rw [List.getElem?_set_ne n2] at a3
      exact I.dj j k s t q njk a1 a2 a3 a4
    · obtain ⟨es, z⟩ := I.iai j q a
      have n1 : i ≠ j := fun y => by subst y; rw [hi] at z; cases z
      exact ⟨es, by rw [List.getElem?_set_ne n1]; exact z⟩
  have F : FreshAt K G Hf σ H (δ.set i .no) p ds := by
    refine ⟨vs, k2, k3, k4, k5, k6, fun ⟨j, s, a1, a2, a3⟩ => ?_⟩
    have n1 : i ≠ j := fun z => by subst z; rw [List.getElem?_set_self lt] at a1; cases a1; cases a2
    rw [List.getElem?_set_ne n1] at a1
    exact I.dj i j _ s p n1 hi rfl a1 a2 hv a3
  obtain ⟨vs', e1, s1, I3, r3⟩ := I2.freeze F
  refine ⟨_, s1, ?_, r3, fun q h1 h2 => ?_⟩
  rotate_left
  · by_cases hq : q = p
    · rw [hq]
    · rw [upd_ne hq] at h2; exact absurd h1 h2
  refine ⟨by simpa using I.len, I3.subN, I3.f0s, I3.hf0, I3.frame, I3.dom, fun j s a => ?_, fun j k s t q njk a1 a2 a3 a4 => ?_, fun j q a => ?_, I3.tab⟩
  · by_cases hj : i = j
    · subst hj
      rw [List.getElem?_set_self lt] at a
      cases a
      exact ⟨_, hv, k0, _, rfl, r3⟩
    · rw [List.getElem?_set_ne hj] at a
      exact I3.sl j s (by rw [List.getElem?_set_ne hj]; exact a)
  · have n1 : i ≠ j := fun z => by subst z; rw [List.getElem?_set_self lt] at a1; cases a1; cases a2
    have n2 : i ≠ k := fun z => by subst z; rw [List.getElem?_set_self lt] at a3; cases a3; cases a4
    rw [List.getElem?_set_ne n1] at a1
    rw [List.getElem?_set_ne n2] at a3
    exact I.dj j k s t q njk a1 a2 a3 a4
  · obtain ⟨es, z⟩ := I.iai j q a
    have n1 : i ≠ j := fun y => by subst y; rw [hi] at z; cases z
    exact ⟨es, by rw [List.getElem?_set_ne n1]; exact z⟩

/-- a result is kept -/
theorem IV.settle (I : IV K G Hf σ H δ) {r : Rs} {d : D} {δ' : List Sl} (hr : RsR K G Hf σ H δ v r) (e : r.settle δ = some (d, δ')) : ∃ Hf', Same Hf Hf' ∧ IV K G Hf' σ H δ' ∧ Rel K Hf' d v ∧ (∀ q, Hf q = none → Hf' q ≠ none → v = .ref q ∧ ((∃ ds, r = .fresh ds) ∨ ownAt σ δ q)) ∧ ∀ q, ownAt σ δ' q → ownAt σ δ q := by
  cases r with
  | fz d' => cases e; exact ⟨Hf, Same.refl _, I, hr, fun q a b => absurd a b, fun _ z => z⟩
  | fresh ds =>
    cases e
    obtain ⟨p, rfl, f⟩ := hr
    obtain ⟨vs, _, s, I2, r2⟩ := I.freeze f
    refine ⟨_, s, I2, r2, fun q a b => ?_, fun _ z => z⟩
    by_cases hq : q = p
    · exact ⟨by rw [hq], .inl ⟨_, rfl⟩⟩
    · rw [upd_ne hq] at b; exact absurd a b
  | slot i =>
    have hv : σ[i]? = some (some v) := hr
    unfold Rs.settle at e
    dsimp only at e
    split at e
    · rename_i d' hd
      cases e
      obtain ⟨o, e2, r⟩ := I.sl i _ hd
      obtain ⟨_, v', rfl, r⟩ := r
      rw [hv] at e2; cases e2
      exact ⟨Hf, Same.refl _, I, r, fun q a b => absurd a b, fun _ z => z⟩
    · rename_i ds hd
      cases e
      obtain ⟨Hf', s1, I1, r1, n1⟩ := I.freezeSlot hd hv
      refine ⟨Hf', s1, I1, r1, fun q a b => ⟨n1 q a b, .inr ⟨i, _, hd, rfl, ?_⟩⟩, fun q ⟨j, t, a1, a2, a3⟩ => ?_⟩
      · rw [hv, n1 q a b]
      · by_cases hj : i = j
        · subst hj
          rw [List.getElem?_set_self (List.getElem?_eq_some_iff.mp hd).1] at a1
          cases a1; cases a2
        · rw [List.getElem?_set_ne hj] at a1
          exact ⟨j, t, a1, a2, a3⟩
    · cases e
/-- a result is read now -/
theorem IV.data (I : IV K G Hf σ H δ) {r : Rs} {d : D} (hr : RsR K G Hf σ H δ v r) (e : r.data δ = some d) : RN K Hf H d v := by
  cases r with
  | fz d' => cases e; exact RN.of I.sub hr
  | fresh ds =>
    cases e
    obtain ⟨p, rfl, vs, h1, h2, _⟩ := hr
    exact ⟨p, vs, rfl, h1, h2⟩
  | slot i =>
    have hv : σ[i]? = some (some v) := hr
    unfold Rs.data at e
    dsimp only at e
    split at e
    · rename_i d' hd
      cases e
      obtain ⟨o, e2, r⟩ := I.sl i _ hd
      obtain ⟨_, v', rfl, r⟩ := r
      rw [hv] at e2; cases e2
      exact RN.of I.sub r
    · rename_i ds hd
      cases e
      obtain ⟨o, e2, r⟩ := I.sl i _ hd
      obtain ⟨_, p, vs, rfl, h1, h2, _⟩ := r
      rw [hv] at e2; cases e2
      exact ⟨p, vs, rfl, h1, h2⟩
    · rename_i ds hd
      cases e
      obtain ⟨o, e2, r⟩ := I.sl i _ hd
      obtain ⟨p, vs, _, rfl, h1, h2, _⟩ := r
      rw [hv] at e2; cases e2
      exact ⟨p, vs, rfl, h1, h2⟩
    · cases e

/-! ### while something else is reckoned, new lists that nothing holds stand -/
def guardH (g H : Hp) (S : List Addr) : Hp := fun b => if b ∈ S then nt H b else g b
theorem guardH_no {g : Hp} {S : List Addr} (n : NoT g) : NoT (guardH g H S) := fun b ps z => by
  unfold guardH at z
  split at z
  · exact nt_noT _ _ z
  · exact n _ _ z
def Gh.guard (G : Gh C) (H : Hp) (S : List Addr) : Gh C := ⟨guardH G.g H S, guardH_no G.gn, G.f0, G.ia⟩
theorem Gh.guard_inN (G : Gh C) {S : List Addr} {b : Addr} (h : b ∈ S) : (G.guard H S).g b = nt H b := if_pos h
theorem Gh.guard_out (G : Gh C) {S : List Addr} {b : Addr} (h : b ∉ S) : (G.guard H S).g b = G.g b := if_neg h
theorem IV.guard (I : IV K G Hf σ H δ) {S : List Addr} (f : ∀ p ∈ S, ∃ ds, FreshAt K G Hf σ H δ p ds) : IV K (G.guard H S) Hf σ H δ := by
  have ne : ∀ (i : Nat) (s : Sl), δ[i]? = some s → s.isOwn = true → ∀ q, σ[i]? = some (some (V.ref q)) → q ∉ S := fun i s a b q c z => by
    obtain ⟨ds, _, _, _, _, _, _, h6⟩ := f q z
    exact h6 ⟨i, s, a, b, c⟩
  refine ⟨I.len, I.subN, I.f0s, fun b hb => ?_, fun b o e hi => ?_, fun b hb => ?_, fun i s a => ?_, I.dj, I.iai, I.tab⟩
  · have nb : b ∉ S := fun z => by
      obtain ⟨ds, _, _, _, h3, _⟩ := f b z
      exact hb h3
    rw [G.guard_out nb]
    exact I.hf0 b hb
  · by_cases hb : b ∈ S
    · rw [G.guard_inN hb] at e; exact (of_nt e).1
    · rw [G.guard_out hb] at e; exact I.frame b o e hi
  · by_cases h : b ∈ S
    · rw [G.guard_inN h]; exact nt_none hb
    · rw [G.guard_out h]; exact I.dom b hb
  · obtain ⟨o, e, r⟩ := I.sl i s a
    refine ⟨o, e, ?_⟩
    cases s with
    | no => exact r
    | exn => exact r
    | fz d => exact r
    | own ds' =>
      obtain ⟨k0, q, ws, k1, k2, k3, k4, k5, k6⟩ := r
      have nq := ne i _ a rfl q (by rw [e, k1])
      exact ⟨k0, q, ws, k1, k2, k3, k4, by rw [G.guard_out nq]; exact k5, k6⟩
    | io ds' => exact r
theorem IV.unguard {δ' : List Sl} {σ' : L2.St} (I0 : IV K G Hf σ H δ) {S : List Addr} (f : ∀ p ∈ S, ∃ ds, FreshAt K G Hf σ H δ p ds) (s : Same Hf Hf') (I : IV K (G.guard H S) Hf' σ' H' δ') :
    IV K G Hf' σ' H' δ' ∧ (∀ p ∈ S, ∀ ds, FreshAt K G Hf σ H δ p ds → FreshAt K G Hf' σ' H' δ' p ds) ∧ ∀ q ds, FreshAt K (G.guard H S) Hf' σ' H' δ' q ds → q ∉ S ∧ FreshAt K G Hf' σ' H' δ' q ds := by
  have gp : ∀ p ∈ S, ∃ vs, (G.guard H S).g p = some (.lst vs) ∧ H p = some (.lst vs) := fun p hp => by
    obtain ⟨ds, vs, h1, _⟩ := f p hp
    exact ⟨vs, by rw [G.guard_inN hp]; exact nt_lst h1, h1⟩
  have fp : ∀ p ∈ S, Hf' p = none := fun p hp => by
    cases z : Hf' p with
    | none => rfl
    | some o =>
      obtain ⟨ds, _, _, _, h3, _⟩ := f p hp
      rcases I.hf0 p (by rw [z]; intro z; cases z) with q | q
      · exfalso
        apply q
        cases z : G.f0 p with
        | none => exact z
        | some o => rw [I0.f0s _ _ z] at h3; cases h3
      · obtain ⟨vs, e, _⟩ := gp p hp
        rw [e] at q; cases q
  have I1 : IV K G Hf' σ' H' δ' := by
    refine ⟨I.len, I.subN, I.f0s, fun b hb => ?_, fun b o e hi => ?_, fun b hb => ?_, fun i s a => ?_, I.dj, I.iai, I.tab⟩
    · by_cases e : b ∈ S
      · exact absurd (fp b e) hb
      · have := I.hf0 b hb
        rw [G.guard_out e] at this
        exact this
    · by_cases e' : b ∈ S
      · obtain ⟨ds, _, _, _, _, h4, _⟩ := f b e'
        rw [h4] at e; cases e
      · exact I.frame b o (by rw [G.guard_out e']; exact e) hi
    · by_cases e' : b ∈ S
      · obtain ⟨ds, _, _, _, _, h4, _⟩ := f b e'
        exact h4
      · rw [← G.guard_out (H := H) e']; exact I.dom b hb
    · obtain ⟨o, e, r⟩ := I.sl i s a
      refine ⟨o, e, ?_⟩
      cases s with
      | no => exact r
      | exn => exact r
      | fz d => exact r
      | own ds' =>
        obtain ⟨k0, q, ws, k1, k2, k3, k4, k5, k6⟩ := r
        have nq : q ∉ S := fun z => by
          obtain ⟨vs, e, _⟩ := gp q z
          rw [e] at k5; cases k5
        rw [G.guard_out nq] at k5
        exact ⟨k0, q, ws, k1, k2, k3, k4, k5, k6⟩
      | io ds' => exact r
  refine ⟨I1, fun p hp ds ⟨vs, h1, h2, h3, h4, h5, h6⟩ => ⟨vs, I.frame p _ (by rw [G.guard_inN hp]; exact nt_lst h1) h5, RelL.mono s h2, fp p hp, h4, h5, fun ⟨i, t, a1, a2, a3⟩ => ?_⟩, fun q ds ⟨vs, h1, h2, h3, h4, h5, h6⟩ => ?_⟩
  · obtain ⟨q, ws, es, b1, b2, b3, b4, b5⟩ := I.own_some a1 a2
    rw [a3] at b1; cases b1
    rcases b5 with ⟨_, b5, _⟩ | ⟨_, b5⟩
    · obtain ⟨vs, e, _⟩ := gp p hp
      rw [e] at b5; cases b5
    · exact h5 i b5
  · have nq : q ∉ S := fun z => by
      obtain ⟨vs, e, _⟩ := gp q z
      rw [e] at h4; cases h4
    rw [G.guard_out nq] at h4
    exact ⟨nq, vs, h1, h2, h3, h4, h5, h6⟩

/-! ### slots are stored -/
theorem IV.setFz (I : IV K G Hf σ H δ) {i : Nat} {d : D} (hn : ∀ ds, δ[i]? ≠ some (.io ds)) (r : Rel K Hf d v) : IV K G Hf (σ.set i (some v)) H (δ.set i (.fz d)) := by
  have ni : ∀ (s : Sl), δ[i]? = some s → G.ia i = none := fun s a => by
    cases z : G.ia i with
    | none => rfl
    | some p => obtain ⟨ds, q⟩ := I.iai i p z; exact absurd q (hn ds)
  refine ⟨by simpa using I.len, I.subN, I.f0s, I.hf0, I.frame, I.dom, fun j s a => ?_, fun j k s t q njk a1 a2 a3 a4 a5 => ?_, fun j q a => ?_, I.tab⟩
  · by_cases hj : i = j
    · subst hj
      by_cases lt : i < δ.length
      · rw [List.getElem?_set_self lt] at a
        cases a
        exact ⟨_, List.getElem?_set_self (by rw [I.len]; exact lt), ni _ (List.getElem?_eq_getElem lt), v, rfl, r⟩
      · rw [List.getElem?_eq_none (by simpa using lt)] at a; cases a
    · rw [List.getElem?_set_ne hj] at a ⊢
      exact I.sl j s a
  · have n1 : i ≠ j := fun z => by
      subst z
      by_cases lt : i < δ.length
      · rw [List.getElem?_set_self lt] at a1; cases a1; cases a2
      · rw [List.getElem?_eq_none (by simpa using lt)] at a1; cases a1
    have n2 : i ≠ k := fun z => by
      subst z
      by_cases lt : i < δ.length
      · rw [List.getElem?_set_self lt] at a3; cases a3; cases a4
      · rw [List.getElem?_eq_none (by simpa using lt)] at a3; cases a3
    rw [List.getElem?_set_ne n1] at a1 a5
    rw [List.getElem?_set_ne n2] at a3 ⊢
    exact I.dj j k s t q njk a1 a2 a3 a4 a5
  · obtain ⟨es, z⟩ := I.iai j q a
    have n1 : i ≠ j := fun y => by subst y; exact hn _ z
    exact ⟨es, by rw [List.getElem?_set_ne n1]; exact z⟩
theorem IV.setOwn (I : IV K G Hf σ H δ) {i : Nat} {ds : List D} (hn : ∀ ds, δ[i]? ≠ some (.io ds)) (f : FreshAt K G Hf σ H δ p ds) : IV K G Hf (σ.set i (some (.ref p))) H (δ.set i (.own ds)) := by
  have ni : ∀ (s : Sl), δ[i]? = some s → G.ia i = none := fun s a => by
    cases z : G.ia i with
    | none => rfl
    | some p => obtain ⟨ds, q⟩ := I.iai i p z; exact absurd q (hn ds)
  obtain ⟨vs, h1, h2, h3, h4, h5, h6⟩ := f
  refine ⟨by simpa using I.len, I.subN, I.f0s, I.hf0, I.frame, I.dom, fun j s a => ?_, fun j k s t q njk a1 a2 a3 a4 a5 a6 => ?_, fun j q a => ?_, I.tab⟩
  · by_cases hj : i = j
    · subst hj
      by_cases lt : i < δ.length
      · rw [List.getElem?_set_self lt] at a
        cases a
        exact ⟨_, List.getElem?_set_self (by rw [I.len]; exact lt), ni _ (List.getElem?_eq_getElem lt), p, vs, rfl, h1, h2, h3, h4, h5⟩
      · rw [List.getElem?_eq_none (by simpa using lt)] at a; cases a
    · rw [List.getElem?_set_ne hj] at a ⊢
      exact I.sl j s a
  · by_cases n1 : i = j
    · subst n1
      rw [List.getElem?_set_ne njk] at a3 a6
      have lt : i < σ.length := by
        by_cases lt : i < σ.length
        · exact lt
        · rw [List.getElem?_eq_none (by simpa using lt)] at a5; cases a5
      rw [List.getElem?_set_self lt] at a5
      cases a5
      exact h6 ⟨k, t, a3, a4, a6⟩
    · by_cases n2 : i = k
      · subst n2
        rw [List.getElem?_set_ne n1] at a1 a5
        have lt : i < σ.length := by
          by_cases lt : i < σ.length
          · exact lt
          · rw [List.getElem?_eq_none (by simpa using lt)] at a6; cases a6
        rw [List.getElem?_set_self lt] at a6
        cases a6
        exact h6 ⟨j, s, a1, a2, a5⟩
      · rw [List.getElem?_set_ne n1] at a1 a5
        rw [List.getElem?_set_ne n2] at a3 a6
        exact I.dj j k s t q njk a1 a2 a3 a4 a5 a6
  · obtain ⟨es, z⟩ := I.iai j q a
    have n1 : i ≠ j := fun y => by subst y; exact hn _ z
    exact ⟨es, by rw [List.getElem?_set_ne n1]; exact z⟩
def Sl.put (ds : List D) : Sl → Sl
  | .own _ => .own ds
  | .io _ => .io ds
  | s => s
/-- one's own list, or a lent one, is written -/
theorem IV.write (I : IV K G Hf σ H δ) {i : Nat} {s : Sl} (hi : δ[i]? = some s) (ho : s.isOwn = true) (hv : σ[i]? = some (some (.ref p))) {ds : List D} {vs : List V} (r : RelL K Hf ds vs) : IV K G Hf σ (upd H p (.lst vs)) (δ.set i (s.put ds)) := by
  obtain ⟨p', vs', ds', e1, h1, h2, h3, h4⟩ := I.own_some hi ho
  rw [hv] at e1; cases e1
  have lt : i < δ.length := (List.getElem?_eq_some_iff.mp hi).1
  have po : (s.put ds).isOwn = true := by cases s <;> first | rfl | cases ho
  have at_ : ∀ (j : Nat) (t : Sl), (δ.set i (s.put ds))[j]? = some t → t.isOwn = true → ∃ u, δ[j]? = some u ∧ u.isOwn = true := fun j t a b => by
    by_cases hj : i = j
    · subst hj; exact ⟨s, hi, ho⟩
    · rw [List.getElem?_set_ne hj] at a; exact ⟨t, a, b⟩
  refine ⟨by simpa using I.len, .of (fun b x e => ?_) I.subN.noT, I.f0s, I.hf0, fun b o e k => ?_, fun b e => ?_, fun j t a => ?_, fun j k t u q njk a1 a2 a3 a4 a5 => ?_, fun j q a => ?_, tabs_upd I.tab h1 fun b hb => upd_ne hb⟩
  · have nb : b ≠ p := fun z => by subst z; rw [h3] at e; cases e
    rw [upd_ne nb]; exact I.sub b x e
  · have nb : b ≠ p := fun z => by
      subst z
      rcases h4 with ⟨_, h4, _⟩ | ⟨_, h4⟩
      · rw [h4] at e; cases e
      · exact k i h4
    rw [upd_ne nb]; exact I.frame b o e k
  · have nb : b ≠ p := fun z => by subst z; rw [upd_same] at e; cases e
    rw [upd_ne nb] at e; exact I.dom b e
  · by_cases hj : i = j
    · subst hj
      rw [List.getElem?_set_self lt] at a
      cases a
      refine ⟨_, hv, ?_⟩
      rcases h4 with ⟨rfl, h4, h5⟩ | ⟨rfl, h4⟩
      · obtain ⟨o, eo, ro⟩ := I.sl i _ hi
        exact ⟨ro.1, p, vs, rfl, upd_same, r, h3, h4, h5⟩
      · exact ⟨p, vs, h4, rfl, upd_same, r, h3⟩
    · rw [List.getElem?_set_ne hj] at a
      obtain ⟨o, e, rr⟩ := I.sl j t a
      refine ⟨o, e, ?_⟩
      cases t with
      | no => exact rr
      | exn => exact rr
      | fz d => exact rr
      | own es =>
        obtain ⟨k0, q, ws, k1, k2, k3, k4⟩ := rr
        have nq : q ≠ p := fun z => by
          subst z
          exact I.dj i j s _ q hj hi ho a rfl hv (by rw [e, k1])
        exact ⟨k0, q, ws, k1, by rw [upd_ne nq]; exact k2, k3, k4⟩
      | io es =>
        obtain ⟨q, ws, k0, k1, k2, k3, k4⟩ := rr
        have nq : q ≠ p := fun z => by
          subst z
          exact I.dj i j s _ q hj hi ho a rfl hv (by rw [e, k1])
        exact ⟨q, ws, k0, k1, by rw [upd_ne nq]; exact k2, k3, k4⟩
  · obtain ⟨s1, b1, b2⟩ := at_ j t a1 a2
    obtain ⟨s2, b3, b4⟩ := at_ k u a3 a4
    exact I.dj j k s1 s2 q njk b1 b2 b3 b4 a5
  · obtain ⟨es, z⟩ := I.iai j q a
    by_cases hj : i = j
    · subst hj
      rw [hi] at z; cases z
      exact ⟨ds, by rw [List.getElem?_set_self lt]; rfl⟩
    · exact ⟨es, by rw [List.getElem?_set_ne hj]; exact z⟩
end
end Dn

namespace Dn
open PySem PySem.Spec L2

/-! ## what a result asks -/
/-- what is wished of exceptions, with what stays fixed -/
structure WT where
  w : WX
  c : Cst
instance : CoeFun WT fun _ => Value → Option Addr → L2.St → Hp → Prop := ⟨WT.w⟩
def ExR (K : PySem.W.Frag) (mg : Str → Option Value) (Hf H : Hp) (x : Ex) (cls : Value) (d : Option Addr) : Prop :=
  mg x.cls = some cls ∧ match x.field with
    | none => d = none
    | some (f, dv) => ∃ da v, d = some da ∧ H da = some (.xd [(f, v)]) ∧ Rel K Hf dv v
def EPost (K : PySem.W.Frag) (mg : Str → Option Value) (W : WT) {C : Cst} (G : Gh C) (σ : L2.St) (Hf : Hp) (o : Option ER) (Q : VK) : Prop :=
  match o with
  | none => False
  | some (.ok r δ') => ∀ Hf' H' v, Same Hf Hf' → IV K G Hf' σ H' δ' → RsR K G Hf' σ H' δ' v r → Q v H'
  | some (.er x δ') => ∀ Hf' H' cls d, Same Hf Hf' → IV K G Hf' σ H' δ' → ExR K mg Hf' H' x cls d → W cls d σ H'
/-- the reading of an expression by its plain form -/
def rdE (K : PySem.W.Frag) (mg : Str → Option Value) (W : WT) (e : ED) : TE := fun σ H Q => ∃ (G : Gh W.c) (Hf : Hp) (δ : List Sl), IV K G Hf σ H δ ∧ EPost K mg W G σ Hf (e δ) Q
abbrev DE (X : Cx) (W : WT) (e : Expr) (ed : ED) : Prop := PE X e (rdE X.K X.mg W ed)
theorem _root_.L2.PE.imp {X : Cx} {e : Expr} {t t' : TE} (h : PE X e t) (k : ∀ σ H Q, t' σ H Q → t σ H Q) : PE X e t' := ⟨fun pins s σ H Q I q => h.run pins s σ H Q I (k σ H Q q)⟩
theorem _root_.L2.PT.imp {X : Cx} {e : Expr} {t t' : TT} (h : PT X e t) (k : ∀ σ H Q, t' σ H Q → t σ H Q) : PT X e t' := ⟨fun pins s σ H Q I q => h.run pins s σ H Q I (k σ H Q q)⟩
theorem _root_.L2.PW.imp {X : Cx} {e : Expr} {t t' : TT} (h : PW X e t) (k : ∀ σ H Q, t' σ H Q → t σ H Q) : PW X e t' := ⟨fun wh pins s σ H Q I q => h.run wh pins s σ H Q I (k σ H Q q)⟩
theorem _root_.L2.PA.imp {X : Cx} {e : List Expr} {t t' : TA} (h : PA X e t) (k : ∀ σ H Q, t' σ H Q → t σ H Q) : PA X e t' := ⟨fun pos pins s σ H Q I q => h.run pos pins s σ H Q I (k σ H Q q)⟩
theorem _root_.L2.PS.imp {X : Cx} {e : Stmt} {t t' : TS} (h : PS X e t) (k : ∀ D σ H, t' D σ H → t D σ H) : PS X e t' := ⟨fun pins s σ H D I q => h.run pins s σ H D I (k D σ H q)⟩

section
variable {K : PySem.W.Frag} {mg : Str → Option Value} {W : WT} {C : Cst} {G : Gh C} {Hf Hf' : Hp} {σ : L2.St} {H H' : Hp} {δ δ' : List Sl} {v : V}
theorem EPost.mono {o : Option ER} {Q Q' : VK} (h : EPost K mg W G σ Hf o Q) (k : ∀ v H, Q v H → Q' v H) : EPost K mg W G σ Hf o Q' := by
  cases o with
  | none => exact h
  | some r =>
    cases r with
    | ok r δ' => exact fun Hf' H' v a b c => k _ _ (h Hf' H' v a b c)
    | er x δ' => exact h
theorem EPost.up {o : Option ER} {Q : VK} (h : EPost K mg W G σ Hf o Q) (s : Same Hf Hf') : EPost K mg W G σ Hf' o Q := by
  cases o with
  | none => exact h
  | some r =>
    cases r with
    | ok r δ' => exact fun Hf2 H' v a b c => h Hf2 H' v (s.trans a) b c
    | er x δ' => exact fun Hf2 H' v d a b c => h Hf2 H' v d (s.trans a) b c
/-- first one, then what follows -/
theorem EPost.seq {o : Option ER} {k : Rs → List Sl → Option ER} {Q : VK} (h : EPost K mg W G σ Hf (ER.bind o k) Q) :
    EPost K mg W G σ Hf o fun v H1 => ∃ Hf1 δ1 r, Same Hf Hf1 ∧ IV K G Hf1 σ H1 δ1 ∧ RsR K G Hf1 σ H1 δ1 v r ∧ EPost K mg W G σ Hf1 (k r δ1) Q := by
  cases o with
  | none => exact h
  | some r =>
    cases r with
    | ok r δ' => exact fun Hf' H' v a b c => ⟨Hf', δ', r, a, b, c, h.up a⟩
    | er x δ' => exact h

/-! ### results that wait -/
def frs : List (V × Rs) → List Addr
  | [] => []
  | (.ref p, .fresh _) :: l => p :: frs l
  | _ :: l => frs l
theorem mem_frs {p : Addr} : ∀ {l : List (V × Rs)}, p ∈ frs l ↔ ∃ ds, (V.ref p, Rs.fresh ds) ∈ l
  | [] => by simp [frs]
  | (v, r) :: l => by
    have ih := mem_frs (p := p) (l := l)
    cases v <;> cases r <;> simp_all [frs]
    rename_i a ds
    constructor
    · rintro (rfl | ⟨ds', h⟩)
      · exact ⟨ds, .inl ⟨rfl, rfl⟩⟩
      · exact ⟨ds', .inr h⟩
    · rintro ⟨ds', ⟨rfl, _⟩ | h⟩
      · exact .inl rfl
      · exact .inr ⟨ds', h⟩
structure PL (K : PySem.W.Frag) {C : Cst} (G : Gh C) (Hf : Hp) (σ : L2.St) (H : Hp) (δ : List Sl) (l : List (V × Rs)) : Prop where
  all : ∀ x ∈ l, RsR K G Hf σ H δ x.1 x.2
  nd : (frs l).Nodup
theorem PL.nil : PL K G Hf σ H δ [] := ⟨fun _ h => absurd h (by simp), by simp [frs]⟩
theorem PL.fresh {l : List (V × Rs)} (h : PL K G Hf σ H δ l) : ∀ p ∈ frs l, ∃ ds, FreshAt K G Hf σ H δ p ds := fun p hp => by
  obtain ⟨ds, hm⟩ := mem_frs.mp hp
  obtain ⟨q, e, f⟩ := h.all _ hm
  cases e
  exact ⟨ds, f⟩
theorem PL.one {r : Rs} (h : RsR K G Hf σ H δ v r) : PL K G Hf σ H δ [(v, r)] := by
  refine ⟨fun x hx => ?_, ?_⟩
  · simp at hx; subst hx; exact h
  · cases v <;> cases r <;> simp [frs]
/-- they wait while something else is reckoned -/
theorem IV.pend (I : IV K G Hf σ H δ) {l : List (V × Rs)} (h : PL K G Hf σ H δ l) :
    ∃ G' : Gh C, IV K G' Hf σ H δ ∧ ∀ Hf' H' δ', Same Hf Hf' → IV K G' Hf' σ H' δ' → IV K G Hf' σ H' δ' ∧ PL K G Hf' σ H' δ' l ∧ ∀ v r, RsR K G' Hf' σ H' δ' v r → RsR K G Hf' σ H' δ' v r ∧ ∀ p ds, v = .ref p → r = .fresh ds → p ∉ frs l := by
  refine ⟨G.guard H (frs l), I.guard h.fresh, fun Hf' H' δ' s I' => ?_⟩
  obtain ⟨I1, k1, k2⟩ := I.unguard h.fresh s I'
  refine ⟨I1, ⟨fun x hx => ?_, h.nd⟩, fun v r hr => ?_⟩
  · have q := h.all x hx
    obtain ⟨v, r⟩ := x
    cases r with
    | fz d => exact Rel.mono s q
    | slot i => exact q
    | fresh ds =>
      obtain ⟨p, e, f⟩ := q
      dsimp only at e
      subst e
      exact ⟨p, rfl, k1 p (mem_frs.mpr ⟨ds, hx⟩) ds f⟩
  · cases r with
    | fz d => exact ⟨hr, fun _ _ _ e => nomatch e⟩
    | slot i => exact ⟨hr, fun _ _ _ e => nomatch e⟩
    | fresh ds =>
      obtain ⟨p, rfl, f⟩ := hr
      obtain ⟨n, f'⟩ := k2 p ds f
      exact ⟨⟨p, rfl, f'⟩, fun q ds' e _ => by cases e; exact n⟩
/-- one more behind them, while they wait -/
theorem EPost.pend (I : IV K G Hf σ H δ) {l : List (V × Rs)} (hl : PL K G Hf σ H δ l) {o : Option ER} {k : Rs → List Sl → Option ER} {Q : VK} (h : EPost K mg W G σ Hf (ER.bind o k) Q) :
    ∃ G' : Gh C, IV K G' Hf σ H δ ∧ EPost K mg W G' σ Hf o fun v H1 => ∃ Hf1 δ1 r, Same Hf Hf1 ∧ IV K G Hf1 σ H1 δ1 ∧ RsR K G Hf1 σ H1 δ1 v r ∧ PL K G Hf1 σ H1 δ1 l ∧ (∀ p ds, v = .ref p → r = .fresh ds → p ∉ frs l) ∧ EPost K mg W G σ Hf1 (k r δ1) Q := by
  obtain ⟨G', I', back⟩ := I.pend hl
  refine ⟨G', I', ?_⟩
  cases o with
  | none => exact h
  | some r =>
    cases r with
    | ok r δ' =>
      intro Hf1 H1 v s I1 r1
      obtain ⟨I2, l2, k2⟩ := back Hf1 H1 δ' s I1
      obtain ⟨r2, n2⟩ := k2 v r r1
      exact ⟨Hf1, δ', r, s, I2, r2, l2, n2, h.up s⟩
    | er x δ' =>
      intro Hf1 H1 cls d s I1 r1
      exact h Hf1 H1 cls d s (back Hf1 H1 δ' s I1).1 r1
theorem PL.cons {r : Rs} {l : List (V × Rs)} (h : RsR K G Hf σ H δ v r) (hl : PL K G Hf σ H δ l) (n : ∀ p ds, v = .ref p → r = .fresh ds → p ∉ frs l) : PL K G Hf σ H δ ((v, r) :: l) := by
  refine ⟨fun x hx => ?_, ?_⟩
  · rcases List.mem_cons.mp hx with rfl | hx
    · exact h
    · exact hl.all x hx
  · cases v <;> cases r <;> simp only [frs] <;> first | exact hl.nd | exact List.nodup_cons.mpr ⟨n _ _ rfl rfl, hl.nd⟩

/-! ### what an operation gives -/
inductive OR where
  | v (d : D) | l (ds : List D) | t (ds : List D)
def OR.rs : OR → Rs
  | .v d => .fz d
  | .l ds => .fresh ds
  | .t ds => .fz (.tup ds)
def OPost (K : PySem.W.Frag) (Hf H : Hp) (out : OR) (Q : VK) : Prop :=
  match out with
  | .v d => ∀ v, Rel K Hf d v → Q v H
  | .l ds => ∀ p xs, H p = none → RelL K Hf ds xs → Q (.ref p) (upd H p (.lst xs))
  | .t ds => ∀ p xs, H p = none → RelL K Hf ds xs → Q (.ref p) (upd H p (.tup xs))
theorem OPost.of (I : IV K G Hf σ H δ) {out : OR} {Q : VK} (h : EPost K mg W G σ Hf (some (.ok out.rs δ)) Q) : OPost K Hf H out Q := by
  cases out with
  | v d => exact fun v r => h Hf H v (Same.refl _) I r
  | l ds => exact fun p xs hp r => h Hf _ _ (Same.refl _) (I.allocOwn hp _) ⟨p, rfl, I.fresh_new hp r⟩
  | t ds =>
    intro p xs hp r
    refine h _ _ _ (Same.new (I.fnone hp)) (I.alloc hp (.tup xs)) ?_
    show Rel K _ (.tup ds) _
    unfold Rel
    exact ⟨p, xs, rfl, SqT.of upd_same, RelL.mono (Same.new (I.fnone hp)) r⟩
end

/-! ## names, constants -/
def eVar (i : Nat) : ED := fun δ => match δ[i]? with
  | some (.fz d) => some (.ok (.fz d) δ)
  | some (.own _) => some (.ok (.slot i) δ)
  | some (.io _) => some (.ok (.slot i) δ)
  | _ => none
def eC (d : D) : ED := fun δ => some (.ok (.fz d) δ)
section
variable {X : Cx} {W : WT} {e : Expr} {pos : Pos}
theorem de_var {i : Nat} (h : PE X e (tVar i)) : DE X W e (eVar i) := h.imp fun σ H Q ⟨G, Hf, δ, I, q⟩ => by
  unfold eVar at q
  split at q
  · rename_i d hd
    obtain ⟨o, e, _, v, rfl, r⟩ := I.sl i _ hd
    exact ⟨v, e, q Hf H v (Same.refl _) I r⟩
  · rename_i ds hd
    obtain ⟨p, vs, ds', e, _⟩ := I.own_some hd rfl
    exact ⟨_, e, q Hf H _ (Same.refl _) I e⟩
  · rename_i ds hd
    obtain ⟨p, vs, ds', e, _⟩ := I.own_some hd rfl
    exact ⟨_, e, q Hf H _ (Same.refl _) I e⟩
  · exact q.elim
/-- a constant, or a name of the module's or a built-in one -/
theorem de_c {v : V} {d : D} (h : PE X e (tC v)) (r : ∀ K H, Rel K H d v) : DE X W e (eC d) := h.imp fun σ H Q ⟨G, Hf, δ, I, q⟩ => q Hf H v (Same.refl _) I (r _ _)
theorem de_int {i j} : DE X W (.Constant (.int i) j pos) (eC (.int i)) := de_c pe_int fun _ _ => rfl
theorem de_bl {i j} : DE X W (.Constant (.bool i) j pos) (eC (.bl i)) := de_c pe_bl fun _ _ => rfl
theorem de_non {j} : DE X W (.Constant .none j pos) (eC .non) := de_c pe_non fun _ _ => rfl
theorem de_str {x j} : DE X W (.Constant (.str x) j pos) (eC (.str x)) := de_c pe_str fun _ _ => rfl

/-! ## operators -/
def Op2 (X : Cx) (f : Value → Value → Sem Value) (sem : D → D → Option OR) : Prop := ∃ r : R2, OpR X f r ∧
  ∀ (Hf H : Hp) (d e : D) (x y : V) (out : OR) (Q : VK), Same Hf H → RN X.K Hf H d x → RN X.K Hf H e y → sem d e = some out → OPost X.K Hf H out Q → r x y H Q
def opRs (sem : D → D → Option OR) (r r2 : Rs) (δ : List Sl) : Option ER :=
  match r.data δ, r2.data δ with
  | some d, some e => match sem d e with
    | some o => some (.ok o.rs δ)
    | none => none
  | _, _ => none
def eBin (sem : D → D → Option OR) (a b : ED) : ED := fun δ => ER.bind (a δ) fun r δ1 => ER.bind (b δ1) fun r2 δ2 => opRs sem r r2 δ2
theorem opRs_run {K : PySem.W.Frag} {mg : Str → Option Value} {C : Cst} {G : Gh C} {Hf : Hp} {σ : L2.St} {H : Hp} {δ : List Sl} {x y : V} {r r2 : Rs} {R : R2} {sem : D → D → Option OR} {Q : VK}
    (I : IV K G Hf σ H δ) (h1 : RsR K G Hf σ H δ x r) (h2 : RsR K G Hf σ H δ y r2) (hR : ∀ (d e : D) (out : OR), RN K Hf H d x → RN K Hf H e y → sem d e = some out → OPost K Hf H out Q → R x y H Q)
    (q : EPost K mg W G σ Hf (opRs sem r r2 δ) Q) : R x y H Q := by
  unfold opRs at q
  split at q
  · rename_i d e h1' h2'
    split at q
    · rename_i o ho
      exact hR d e o (I.data h1 h1') (I.data h2 h2') ho (OPost.of I q)
    · exact q.elim
  · exact q.elim
theorem rd_bin {sem : D → D → Option OR} {R : R2} {a b : ED} (hR : ∀ (Hf H : Hp) (d e : D) (x y : V) (out : OR) (Q : VK), Same Hf H → RN X.K Hf H d x → RN X.K Hf H e y → sem d e = some out → OPost X.K Hf H out Q → R x y H Q)
    {σ : L2.St} {H : Hp} {Q : VK} (h : rdE X.K X.mg W (eBin sem a b) σ H Q) : tOp R (rdE X.K X.mg W a) (rdE X.K X.mg W b) σ H Q := by
  obtain ⟨G, Hf, δ, I, q⟩ := h
  refine ⟨G, Hf, δ, I, q.seq.mono fun x H1 ⟨Hf1, δ1, r, s1, I1, r1, q1⟩ => ?_⟩
  obtain ⟨G', I', q'⟩ := q1.pend I1 (PL.one r1)
  refine ⟨G', Hf1, δ1, I', q'.mono fun y H2 ⟨Hf2, δ2, r2, s2, I2, k2, l2, n2, q2⟩ => ?_⟩
  exact opRs_run I2 (l2.all (x, r) (by simp)) k2 (fun d e out a1 a2 a3 a4 => hR Hf2 H2 d e x y out Q I2.sub a1 a2 a3 a4) q2
theorem de_bin {op : Operator} {a b : Expr} {ea eb : ED} {sem : D → D → Option OR} (ho : Op2 X (binaryOp op) sem) (ha : DE X W a ea) (hb : DE X W b eb) : DE X W (.BinOp a op b pos) (eBin sem ea eb) := by
  obtain ⟨R, hr, hs⟩ := ho
  exact (pe_op hr ha hb).imp fun σ H Q h => rd_bin hs h
theorem de_cmp {op : CmpOp} {a b : Expr} {ea eb : ED} {sem : D → D → Option OR} (ho : Op2 X (compareOp op) sem) (ha : DE X W a ea) (hb : DE X W b eb) (hm : behindInMarks op b = false) : DE X W (.Compare a [op] [b] pos) (eBin sem ea eb) := by
  obtain ⟨R, hr, hs⟩ := ho
  exact (pe_cmpR hr ha hb hm).imp fun σ H Q h => rd_bin hs h
def IxS (X : Cx) (sem : D → D → Option OR) : Prop := ∃ r : R2, IxR X r ∧
  ∀ (Hf H : Hp) (d e : D) (x y : V) (out : OR) (Q : VK), Same Hf H → RN X.K Hf H d x → RN X.K Hf H e y → sem d e = some out → OPost X.K Hf H out Q → r x y H Q
theorem de_ix {a b : Expr} {ea eb : ED} {sem : D → D → Option OR} (ho : IxS X sem) (ha : DE X W a ea) (hb : DE X W b eb) (hs : PlainIx b) : DE X W (.Subscript a b pos) (eBin sem ea eb) := by
  obtain ⟨R, hr, hS⟩ := ho
  exact (pe_ix hr ha hb hs).imp fun σ H Q h => rd_bin hS h
def Op1 (X : Cx) (f : Value → Sem Value) (sem : D → Option OR) : Prop := ∃ r : V → Hp → VK → Prop, UnR X f r ∧
  ∀ (Hf H : Hp) (d : D) (x : V) (out : OR) (Q : VK), Same Hf H → RN X.K Hf H d x → sem d = some out → OPost X.K Hf H out Q → r x H Q
def opRs1 (sem : D → Option OR) (r : Rs) (δ : List Sl) : Option ER :=
  match r.data δ with
  | some d => match sem d with
    | some o => some (.ok o.rs δ)
    | none => none
  | _ => none
def eUn (sem : D → Option OR) (a : ED) : ED := fun δ => ER.bind (a δ) fun r δ1 => opRs1 sem r δ1
theorem de_un {op : UnaryOp} {a : Expr} {ea : ED} {sem : D → Option OR} (ho : Op1 X (unaryOp op) sem) (ha : DE X W a ea) : DE X W (.UnaryOp op a pos) (eUn sem ea) := by
  obtain ⟨R, hr, hs⟩ := ho
  refine (pe_un hr ha).imp fun σ H Q ⟨G, Hf, δ, I, q⟩ => ?_
  refine ⟨G, Hf, δ, I, q.seq.mono fun x H1 ⟨Hf1, δ1, r, s1, I1, r1, q1⟩ => ?_⟩
  unfold opRs1 at q1
  split at q1
  · rename_i d hd
    split at q1
    · rename_i o ho
      exact hs Hf1 H1 d x o Q I1.sub (I1.data r1 hd) ho (OPost.of I1 q1)
    · exact q1.elim
  · exact q1.elim
/-- a op b op' c -/
def eChain (s1 s2 : D → D → Option OR) (a b c : ED) : ED := fun δ => ER.bind (a δ) fun r δ1 => ER.bind (b δ1) fun r2 δ2 => ER.bind (opRs s1 r r2 δ2) fun r3 δ3 =>
  match r3 with
  | .fz (.bl true) => match r2 with
    | .fz d2 => ER.bind (c δ3) fun r4 δ4 => opRs s2 (.fz d2) r4 δ4
    | _ => none
  | .fz (.bl false) => some (.ok (.fz (.bl false)) δ3)
  | _ => none
theorem rd_chain {s1 s2 : D → D → Option OR} {R1 R2' : R2} {a b c : ED} (h1 : ∀ (Hf H : Hp) (d e : D) (x y : V) (out : OR) (Q : VK), Same Hf H → RN X.K Hf H d x → RN X.K Hf H e y → s1 d e = some out → OPost X.K Hf H out Q → R1 x y H Q)
    (h2 : ∀ (Hf H : Hp) (d e : D) (x y : V) (out : OR) (Q : VK), Same Hf H → RN X.K Hf H d x → RN X.K Hf H e y → s2 d e = some out → OPost X.K Hf H out Q → R2' x y H Q)
    {σ : L2.St} {H : Hp} {Q : VK} (h : rdE X.K X.mg W (eChain s1 s2 a b c) σ H Q) : tChain R1 R2' (rdE X.K X.mg W a) (rdE X.K X.mg W b) (rdE X.K X.mg W c) σ H Q := by
  obtain ⟨G, Hf, δ, I, q⟩ := h
  refine ⟨G, Hf, δ, I, q.seq.mono fun x H1 ⟨Hf1, δ1, r, _, I1, r1, q1⟩ => ?_⟩
  obtain ⟨G', I', q'⟩ := q1.pend I1 (PL.one r1)
  refine ⟨G', Hf1, δ1, I', q'.mono fun y H2 ⟨Hf2, δ2, r2, s2', I2, k2, l2, n2, q2⟩ => ?_⟩
  refine opRs_run I2 (l2.all (x, r) (by simp)) k2 (fun d e out a1 a2 a3 a4 => h1 Hf2 H2 d e x y out _ I2.sub a1 a2 a3 a4) (q2.seq.mono fun z H3 ⟨Hf3, δ3, r3, s3, I3, k3, q3⟩ => ?_)
  split at q3
  · have ez : z = .bl true := k3
    refine ⟨true, ez, ?_⟩
    rw [if_pos rfl]
    cases r2 with
    | fz d2 =>
      refine ⟨G, Hf3, δ3, I3, q3.seq.mono fun w' H4 ⟨Hf4, δ4, r4, s4, I4, k4, q4⟩ => ?_⟩
      have k2' : RsR X.K G Hf4 σ H4 δ4 y (.fz d2) := Rel.mono (s3.trans s4) k2
      exact opRs_run I4 k2' k4 (fun d e out a1 a2 a3 a4 => h2 Hf4 H4 d e y w' out Q I4.sub a1 a2 a3 a4) q4
    | fresh ds => exact q3.elim
    | slot i => exact q3.elim
  · have ez : z = .bl false := k3
    refine ⟨false, ez, ?_⟩
    rw [if_neg Bool.false_ne_true]
    exact q3 Hf3 H3 _ (Same.refl _) I3 rfl
  · exact q3.elim
theorem de_chain {op op' : CmpOp} {a b c : Expr} {ea eb ec : ED} {s1 s2 : D → D → Option OR} (h1 : Op2 X (compareOp op) s1) (h2 : Op2 X (compareOp op') s2) (ha : DE X W a ea) (hb : DE X W b eb) (hc : DE X W c ec)
    (hm : lastMarks [op, op'] [b, c] = false := by with_unfolding_all rfl) : DE X W (.Compare a [op, op'] [b, c] pos) (eChain s1 s2 ea eb ec) := by
  obtain ⟨R, hr, hs⟩ := h1
  obtain ⟨R', hr', hs'⟩ := h2
  exact (pe_chain hr hr' ha hb hc hm).imp fun σ H Q h => rd_chain hs hs' h
end

/-! ## tests -/
inductive TR where
  | ok (b : Bool) (δ : List Sl)
  | er (x : Ex) (δ : List Sl)
abbrev TD := List Sl → Option TR
def TPost (K : PySem.W.Frag) (mg : Str → Option Value) (W : WT) {C : Cst} (G : Gh C) (σ : L2.St) (Hf : Hp) (o : Option TR) (Q : Bool → Hp → Prop) : Prop :=
  match o with
  | none => False
  | some (.ok b δ') => ∀ Hf' H', Same Hf Hf' → IV K G Hf' σ H' δ' → Q b H'
  | some (.er x δ') => ∀ Hf' H' cls d, Same Hf Hf' → IV K G Hf' σ H' δ' → ExR K mg Hf' H' x cls d → W cls d σ H'
def rdT (K : PySem.W.Frag) (mg : Str → Option Value) (W : WT) (e : TD) : TT := fun σ H Q => ∃ (G : Gh W.c) (Hf : Hp) (δ : List Sl), IV K G Hf σ H δ ∧ TPost K mg W G σ Hf (e δ) Q
abbrev DT (X : Cx) (W : WT) (e : Expr) (td : TD) : Prop := PT X e (rdT X.K X.mg W td)
abbrev DW (X : Cx) (W : WT) (e : Expr) (td : TD) : Prop := PW X e (rdT X.K X.mg W td)
def TR.bind (o : Option TR) (k : Bool → List Sl → Option TR) : Option TR :=
  match o with
  | none => none
  | some (.er x δ) => some (.er x δ)
  | some (.ok r δ) => k r δ
/-- an expression whose value is a bool -/
def tVal (e : ED) : TD := fun δ => match e δ with
  | some (.ok (.fz (.bl b)) δ') => some (.ok b δ')
  | some (.er x δ') => some (.er x δ')
  | _ => none
/-- .. of any kind, by truth -/
def truth : D → Option Bool
  | .non => some false
  | .bl b => some b
  | .int i => some (i != 0)
  | .str s => if s.length ≤ sizeLine then some ((s.length : Int) != 0) else none
  | .lst xs => some (!xs.isEmpty)
  | .tup xs => some (!xs.isEmpty)
  | _ => none
def tTru (e : ED) : TD := fun δ => match e δ with
  | some (.ok r δ') => match r.data δ' with
    | some d => match truth d with
      | some b => some (.ok b δ')
      | none => none
    | none => none
  | some (.er x δ') => some (.er x δ')
  | _ => none
def tAndD (a b : TD) : TD := fun δ => TR.bind (a δ) fun c δ1 => if c then b δ1 else some (.ok false δ1)
def tOrD (a b : TD) : TD := fun δ => TR.bind (a δ) fun c δ1 => if c then some (.ok true δ1) else b δ1
def tNotD (a : TD) : TD := fun δ => TR.bind (a δ) fun c δ1 => some (.ok (!c) δ1)
section
variable {K : PySem.W.Frag} {mg : Str → Option Value} {W : WT} {C : Cst} {G : Gh C} {Hf Hf' : Hp} {σ : L2.St} {H H' : Hp} {δ δ' : List Sl} {v : V}
theorem TPost.mono {o : Option TR} {Q Q' : Bool → Hp → Prop} (h : TPost K mg W G σ Hf o Q) (k : ∀ v H, Q v H → Q' v H) : TPost K mg W G σ Hf o Q' := by
  cases o with
  | none => exact h
  | some r =>
    cases r with
    | ok r δ' => exact fun Hf' H' a b => k _ _ (h Hf' H' a b)
    | er x δ' => exact h
theorem TPost.up {o : Option TR} {Q : Bool → Hp → Prop} (h : TPost K mg W G σ Hf o Q) (s : Same Hf Hf') : TPost K mg W G σ Hf' o Q := by
  cases o with
  | none => exact h
  | some r =>
    cases r with
    | ok r δ' => exact fun Hf2 H' a b => h Hf2 H' (s.trans a) b
    | er x δ' => exact fun Hf2 H' v d a b c => h Hf2 H' v d (s.trans a) b c
theorem TPost.seq {o : Option TR} {k : Bool → List Sl → Option TR} {Q : Bool → Hp → Prop} (h : TPost K mg W G σ Hf (TR.bind o k) Q) :
    TPost K mg W G σ Hf o fun b H1 => ∃ Hf1 δ1, Same Hf Hf1 ∧ IV K G Hf1 σ H1 δ1 ∧ TPost K mg W G σ Hf1 (k b δ1) Q := by
  cases o with
  | none => exact h
  | some r =>
    cases r with
    | ok r δ' => exact fun Hf' H' a b => ⟨Hf', δ', a, b, h.up a⟩
    | er x δ' => exact h
end
section
variable {X : Cx} {W : WT} {a b : Expr} {rest : List Expr} {pos : Pos} {ea : ED} {ta tb : TD}
theorem dt_val (h : DE X W a ea) (he : ∀ whole, isTrue a X.env whole = (do let v ← whole; standAt a.pos; holding [v] (truthy v)) := by intro _; rfl) : DT X W a (tVal ea) :=
  (pt_val h he).imp fun σ H Q ⟨G, Hf, δ, I, q⟩ => by
    refine ⟨G, Hf, δ, I, ?_⟩
    unfold tVal at q
    revert q
    cases ea δ with
    | none => exact fun q => q.elim
    | some r =>
      cases r with
      | er x δ' => exact fun q => q
      | ok r δ' =>
        cases r with
        | fz d =>
          cases d with
          | bl c => exact fun q Hf' H' v a1 a2 a3 => ⟨c, a3, q Hf' H' a1 a2⟩
          | _ => exact fun q => q.elim
        | _ => exact fun q => q.elim
theorem truth_ok {K : PySem.W.Frag} {Hf H : Hp} {d : D} {x : V} {b : Bool} (s : Same Hf H) (h : RN K Hf H d x) (e : truth d = some b) : TruV K x H b := by
  cases d with
  | non => cases h; cases e; rfl
  | bl c => cases h; cases e; rfl
  | int i => cases h; cases e; rfl
  | str z =>
    cases h
    replace e : (if z.length ≤ sizeLine then some ((z.length : Int) != 0) else none) = some b := e
    split at e
    · rename_i hz; cases e; exact ⟨hz, rfl⟩
    · cases e
  | lst xs =>
    cases e
    obtain ⟨p, vs, rfl, h1, h2⟩ := h
    refine .inl ⟨vs, SqL.of h1, ?_⟩
    have := h2.length
    cases xs <;> cases vs <;> simp_all
  | tup xs =>
    cases e
    obtain ⟨p, vs, rfl, h1, h2⟩ := (show ∃ a ys, x = .ref a ∧ SqT K Hf a ys ∧ RelL K Hf xs ys by simpa [RN, Rel] using h)
    refine .inr (.inl ⟨vs, Same.sqt s h1, ?_⟩)
    have := h2.length
    cases xs <;> cases vs <;> simp_all
  | _ => cases e
theorem dt_tru (h : DE X W a ea) (he : ∀ whole, isTrue a X.env whole = (do let v ← whole; standAt a.pos; holding [v] (truthy v)) := by intro _; rfl) : DT X W a (tTru ea) :=
  (pt_truth h he).imp fun σ H Q ⟨G, Hf, δ, I, q⟩ => by
    refine ⟨G, Hf, δ, I, ?_⟩
    unfold tTru at q
    revert q
    cases ea δ with
    | none => exact fun q => q.elim
    | some r =>
      cases r with
      | er x δ' => exact fun q => q
      | ok r δ' =>
        intro q Hf' H' v a1 a2 a3
        dsimp only at q
        split at q
        · rename_i d hd
          split at q
          · rename_i c hc
            exact ⟨c, truth_ok a2.sub (a2.data a3 hd) hc, q Hf' H' a1 a2⟩
          · exact q.elim
        · exact q.elim
theorem dw_and1 (ha : DT X W a ta) : DW X W (.BoolOp .And [a] pos) ta := pw_and1 ha
theorem dw_or1 (ha : DT X W a ta) : DW X W (.BoolOp .Or [a] pos) ta := pw_or1 ha
theorem dw_and (ha : DT X W a ta) (hb : DW X W (.BoolOp .And (b :: rest) pos) tb) : DW X W (.BoolOp .And (a :: b :: rest) pos) (tAndD ta tb) :=
  (pw_and ha hb).imp fun σ H Q ⟨G, Hf, δ, I, q⟩ => ⟨G, Hf, δ, I, q.seq.mono fun c H1 ⟨Hf1, δ1, s1, I1, q1⟩ => by
    cases c with
    | true => exact ⟨G, Hf1, δ1, I1, q1⟩
    | false => exact q1 Hf1 H1 (Same.refl _) I1⟩
theorem dw_or (ha : DT X W a ta) (hb : DW X W (.BoolOp .Or (b :: rest) pos) tb) : DW X W (.BoolOp .Or (a :: b :: rest) pos) (tOrD ta tb) :=
  (pw_or ha hb).imp fun σ H Q ⟨G, Hf, δ, I, q⟩ => ⟨G, Hf, δ, I, q.seq.mono fun c H1 ⟨Hf1, δ1, s1, I1, q1⟩ => by
    cases c with
    | false => exact ⟨G, Hf1, δ1, I1, q1⟩
    | true => exact q1 Hf1 H1 (Same.refl _) I1⟩
theorem dt_not (ha : DT X W a ta) : DT X W (.UnaryOp .Not a pos) (tNotD ta) :=
  (pt_not ha).imp fun σ H Q ⟨G, Hf, δ, I, q⟩ => ⟨G, Hf, δ, I, q.seq.mono fun c H1 ⟨Hf1, δ1, s1, I1, q1⟩ => q1 Hf1 H1 (Same.refl _) I1⟩

/-! ## and, or, not, if as values -/
def eAnd (a b : ED) : ED := fun δ => ER.bind (a δ) fun r δ1 => match r with
  | .fz (.bl true) => b δ1
  | .fz (.bl false) => some (.ok (.fz (.bl false)) δ1)
  | _ => none
def eOr (a b : ED) : ED := fun δ => ER.bind (a δ) fun r δ1 => match r with
  | .fz (.bl false) => b δ1
  | .fz (.bl true) => some (.ok (.fz (.bl true)) δ1)
  | _ => none
def eNot (a : ED) : ED := fun δ => ER.bind (a δ) fun r δ1 => match r with
  | .fz (.bl b) => some (.ok (.fz (.bl (!b))) δ1)
  | _ => none
def eIf (t : TD) (a b : ED) : ED := fun δ => match t δ with
  | none => none
  | some (.er x δ1) => some (.er x δ1)
  | some (.ok c δ1) => if c then a δ1 else b δ1
variable {eb : ED}
theorem de_one {op} {e : ED} (h : DE X W a e) : DE X W (.BoolOp op [a] pos) e := pe_one h
theorem de_and (ha : DE X W a ea) (hb : DE X W (.BoolOp .And (b :: rest) pos) eb) : DE X W (.BoolOp .And (a :: b :: rest) pos) (eAnd ea eb) :=
  (pe_and ha hb).imp fun σ H Q ⟨G, Hf, δ, I, q⟩ => ⟨G, Hf, δ, I, q.seq.mono fun x H1 ⟨Hf1, δ1, r, s1, I1, r1, q1⟩ => by
    split at q1
    · exact ⟨true, r1, by rw [if_pos rfl]; exact ⟨G, Hf1, δ1, I1, q1⟩⟩
    · exact ⟨false, r1, by rw [if_neg Bool.false_ne_true]; exact q1 Hf1 H1 _ (Same.refl _) I1 rfl⟩
    · exact q1.elim⟩
theorem de_or (ha : DE X W a ea) (hb : DE X W (.BoolOp .Or (b :: rest) pos) eb) : DE X W (.BoolOp .Or (a :: b :: rest) pos) (eOr ea eb) :=
  (pe_or ha hb).imp fun σ H Q ⟨G, Hf, δ, I, q⟩ => ⟨G, Hf, δ, I, q.seq.mono fun x H1 ⟨Hf1, δ1, r, s1, I1, r1, q1⟩ => by
    split at q1
    · exact ⟨false, r1, by rw [if_neg Bool.false_ne_true]; exact ⟨G, Hf1, δ1, I1, q1⟩⟩
    · exact ⟨true, r1, by rw [if_pos rfl]; exact q1 Hf1 H1 _ (Same.refl _) I1 rfl⟩
    · exact q1.elim⟩
theorem de_not (ha : DE X W a ea) : DE X W (.UnaryOp .Not a pos) (eNot ea) :=
  (pe_not ha).imp fun σ H Q ⟨G, Hf, δ, I, q⟩ => ⟨G, Hf, δ, I, q.seq.mono fun x H1 ⟨Hf1, δ1, r, s1, I1, r1, q1⟩ => by
    split at q1
    · exact ⟨_, r1, q1 Hf1 H1 _ (Same.refl _) I1 rfl⟩
    · exact q1.elim⟩
theorem de_if {c : Expr} (hc : DT X W c ta) (ha : DE X W a ea) (hb : DE X W b eb) : DE X W (.IfExp c a b pos) (eIf ta ea eb) :=
  (pe_ifExp hc ha hb).imp fun σ H Q ⟨G, Hf, δ, I, q⟩ => by
    refine ⟨G, Hf, δ, I, ?_⟩
    unfold eIf at q
    revert q
    cases ta δ with
    | none => exact fun q => q.elim
    | some r =>
      cases r with
      | er x δ' => exact fun q => q
      | ok c δ' =>
        intro q Hf' H' a1 a2
        cases c with
        | true => exact ⟨G, Hf', δ', a2, q.up a1⟩
        | false => exact ⟨G, Hf', δ', a2, q.up a1⟩
end

/-! ## argument lists, displays -/
inductive AR where
  | ok (rs : List Rs) (δ : List Sl)
  | er (x : Ex) (δ : List Sl)
abbrev AD := List Sl → Option AR
def APost (K : PySem.W.Frag) (mg : Str → Option Value) (W : WT) {C : Cst} (G : Gh C) (σ : L2.St) (Hf : Hp) (o : Option AR) (Q : List V → Hp → Prop) : Prop :=
  match o with
  | none => False
  | some (.ok rs δ') => ∀ Hf' H' vs, Same Hf Hf' → IV K G Hf' σ H' δ' → vs.length = rs.length → PL K G Hf' σ H' δ' (vs.zip rs) → Q vs H'
  | some (.er x δ') => ∀ Hf' H' cls d, Same Hf Hf' → IV K G Hf' σ H' δ' → ExR K mg Hf' H' x cls d → W cls d σ H'
def rdA (K : PySem.W.Frag) (mg : Str → Option Value) (W : WT) (e : AD) : TA := fun σ H Q => ∃ (G : Gh W.c) (Hf : Hp) (δ : List Sl), IV K G Hf σ H δ ∧ APost K mg W G σ Hf (e δ) Q
abbrev DA (X : Cx) (W : WT) (es : List Expr) (ad : AD) : Prop := PA X es (rdA X.K X.mg W ad)
def aNil : AD := fun δ => some (.ok [] δ)
def aCons (e : ED) (es : AD) : AD := fun δ => match e δ with
  | none => none
  | some (.er x δ1) => some (.er x δ1)
  | some (.ok r δ1) => match es δ1 with
    | none => none
    | some (.er x δ2) => some (.er x δ2)
    | some (.ok rs δ2) => some (.ok (r :: rs) δ2)
section
variable {K : PySem.W.Frag} {mg : Str → Option Value} {W : WT} {C : Cst} {G : Gh C} {Hf Hf' : Hp} {σ : L2.St} {H H' : Hp} {δ δ' : List Sl} {v : V}
theorem APost.up {o : Option AR} {Q : List V → Hp → Prop} (h : APost K mg W G σ Hf o Q) (s : Same Hf Hf') : APost K mg W G σ Hf' o Q := by
  cases o with
  | none => exact h
  | some r =>
    cases r with
    | ok r δ' => exact fun Hf2 H' v a b c => h Hf2 H' v (s.trans a) b c
    | er x δ' => exact fun Hf2 H' v d a b c => h Hf2 H' v d (s.trans a) b c
theorem APost.mono {o : Option AR} {Q Q' : List V → Hp → Prop} (h : APost K mg W G σ Hf o Q) (k : ∀ v H, Q v H → Q' v H) : APost K mg W G σ Hf o Q' := by
  cases o with
  | none => exact h
  | some r =>
    cases r with
    | ok r δ' => exact fun Hf' H' v a b c d => k _ _ (h Hf' H' v a b c d)
    | er x δ' => exact h
end
section
variable {X : Cx} {W : WT} {e : Expr} {es : List Expr} {ed : ED} {ad : AD} {pos : Pos}
theorem da_nil : DA X W [] aNil := pa_nil.imp fun σ H Q ⟨G, Hf, δ, I, q⟩ => q Hf H [] (Same.refl _) I rfl PL.nil
theorem da_cons (ha : DE X W e ed) (hr : DA X W es ad) (hs : starEach (e :: es) X.env = (false, eval e X.env) :: starEach es X.env := by rfl) : DA X W (e :: es) (aCons ed ad) :=
  (pa_cons ha hr hs).imp fun σ H Q ⟨G, Hf, δ, I, q⟩ => by
    refine ⟨G, Hf, δ, I, ?_⟩
    unfold aCons at q
    revert q
    cases ed δ with
    | none => exact fun q => q.elim
    | some r =>
      cases r with
      | er x δ' => exact fun q => q
      | ok r δ1 =>
        intro q Hf1 H1 x s1 I1 r1
        dsimp only at q
        obtain ⟨G', I', back⟩ := I1.pend (PL.one r1)
        refine ⟨G', Hf1, δ1, I', ?_⟩
        revert q
        cases ad δ1 with
        | none => exact fun q => q.elim
        | some r2 =>
          cases r2 with
          | er x δ2 => exact fun q Hf2 H2 cls d s2 I2 e2 => q Hf2 H2 cls d (s1.trans s2) (back Hf2 H2 δ2 s2 I2).1 e2
          | ok rs δ2 =>
            intro q Hf2 H2 vs s2 I2 hl pl
            obtain ⟨I3, l3, k3⟩ := back Hf2 H2 δ2 s2 I2
            refine q Hf2 H2 (x :: vs) (s1.trans s2) I3 (by simp [hl]) (PL.cons (l3.all (x, r) (by simp)) ⟨fun y hy => (k3 y.1 y.2 (pl.all y hy)).1, pl.nd⟩ fun p ds e1 e2 hm => ?_)
            obtain ⟨ds', hm'⟩ := mem_frs.mp hm
            have := (k3 _ _ (pl.all _ hm')).2 p ds' rfl rfl
            apply this
            rw [mem_frs]
            exact ⟨ds, by rw [e1, e2]; simp⟩
end
/-- all results of a list are kept -/
def settleL : List Rs → List Sl → Option (List D × List Sl)
  | [], δ => some ([], δ)
  | r :: rs, δ => match r.settle δ with
    | none => none
    | some (d, δ1) => match settleL rs δ1 with
      | none => none
      | some (ds, δ2) => some (d :: ds, δ2)
def dataL (δ : List Sl) : List Rs → Option (List D)
  | [] => some []
  | r :: rs => match r.data δ with
    | none => none
    | some d => match dataL δ rs with
      | none => none
      | some ds => some (d :: ds)
/-- values that are read now -/
def RNL (K : PySem.W.Frag) (Hf H : Hp) : List D → List V → Prop
  | [], xs => xs = []
  | d :: ds, xs => ∃ x r, xs = x :: r ∧ RN K Hf H d x ∧ RNL K Hf H ds r
section
variable {K : PySem.W.Frag} {mg : Str → Option Value} {W : WT} {C : Cst} {G : Gh C} {Hf Hf' : Hp} {σ : L2.St} {H H' : Hp} {δ δ' : List Sl} {v : V}
theorem IV.dataL (I : IV K G Hf σ H δ) : ∀ {rs : List Rs} {vs : List V} {ds : List D}, vs.length = rs.length → PL K G Hf σ H δ (vs.zip rs) → dataL δ rs = some ds → RNL K Hf H ds vs
  | [], vs, ds, hl, _, e => by
    cases e
    exact List.length_eq_zero_iff.mp hl
  | r :: rs, [], ds, hl, _, e => by simp at hl
  | r :: rs, v :: vs, ds, hl, pl, e => by
    unfold Dn.dataL at e
    split at e
    · cases e
    · rename_i d hd
      split at e
      · cases e
      · rename_i ds' hds
        cases e
        refine ⟨v, vs, rfl, I.data (pl.all (v, r) (by simp)) hd, I.dataL (by simpa using hl) ⟨fun x hx => pl.all x (by simp [hx]), ?_⟩ hds⟩
        have := pl.nd
        rw [List.zip_cons_cons] at this
        revert this
        cases v <;> cases r <;> simp only [frs] <;> first | exact fun h => h | exact fun h => (List.nodup_cons.mp h).2
/-- the rest waits while one is kept -/
theorem PL.after {l : List (V × Rs)} {r : Rs} (pl : PL K G Hf σ H δ ((v, r) :: l)) (s : Same Hf Hf') (n : ∀ q, Hf q = none → Hf' q ≠ none → v = .ref q ∧ ((∃ ds, r = .fresh ds) ∨ ownAt σ δ q)) (o : ∀ q, ownAt σ δ' q → ownAt σ δ q) : PL K G Hf' σ H δ' l := by
  have nd : (frs l).Nodup := by
    have := pl.nd
    revert this
    cases v <;> cases r <;> simp only [frs] <;> first | exact fun h => h | exact fun h => (List.nodup_cons.mp h).2
  refine ⟨fun x hx => ?_, nd⟩
  have q := pl.all x (by simp [hx])
  obtain ⟨w, r'⟩ := x
  cases r' with
  | fz d => exact Rel.mono s q
  | slot i => exact q
  | fresh ds =>
    obtain ⟨p, e, vs, h1, h2, h3, h4, h5, h6⟩ := q
    dsimp only at e
    subst e
    refine ⟨p, rfl, vs, h1, RelL.mono s h2, ?_, h4, h5, fun z => h6 (o p z)⟩
    cases z : Hf' p with
    | none => rfl
    | some u =>
      obtain ⟨e1, e2⟩ := n p h3 (by rw [z]; intro z; cases z)
      subst e1
      rcases e2 with ⟨ds', rfl⟩ | e2
      · have := pl.nd
        simp only [frs] at this
        exact absurd (mem_frs.mpr ⟨ds, hx⟩) (List.nodup_cons.mp this).1
      · exact absurd e2 h6
theorem IV.settleL : ∀ {rs : List Rs} {vs : List V} {ds : List D} {Hf : Hp} {δ δ' : List Sl}, IV K G Hf σ H δ → vs.length = rs.length → PL K G Hf σ H δ (vs.zip rs) → settleL rs δ = some (ds, δ') → ∃ Hf', Same Hf Hf' ∧ IV K G Hf' σ H δ' ∧ RelL K Hf' ds vs
  | [], vs, ds, Hf, δ, δ', I, hl, _, e => by
    cases e
    rw [List.length_eq_zero_iff.mp hl]
    exact ⟨Hf, Same.refl _, I, RelL.nil⟩
  | r :: rs, [], ds, Hf, δ, δ', I, hl, _, e => by simp at hl
  | r :: rs, v :: vs, ds, Hf, δ, δ', I, hl, pl, e => by
    unfold Dn.settleL at e
    split at e
    · cases e
    · rename_i d δ1 hd
      split at e
      · cases e
      · rename_i ds' δ2 hds
        cases e
        obtain ⟨Hf1, s1, I1, r1, n1, o1⟩ := I.settle (pl.all (v, r) (by simp)) hd
        obtain ⟨Hf2, s2, I2, r2⟩ := IV.settleL I1 (by simpa using hl) (PL.after pl s1 n1 o1) hds
        exact ⟨Hf2, s1.trans s2, I2, RelL.cons (Rel.mono s2 r1) r2⟩
end
def eTup (a : AD) : ED := fun δ => match a δ with
  | none => none
  | some (.er x δ1) => some (.er x δ1)
  | some (.ok rs δ1) => match settleL rs δ1 with
    | none => none
    | some (ds, δ2) => if ds.length ≤ 16777216 then some (.ok (.fz (.tup ds)) δ2) else none
def eLst (a : AD) : ED := fun δ => match a δ with
  | none => none
  | some (.er x δ1) => some (.er x δ1)
  | some (.ok rs δ1) => match settleL rs δ1 with
    | none => none
    | some (ds, δ2) => if ds.length ≤ 16777216 then some (.ok (.fresh ds) δ2) else none
section
variable {X : Cx} {W : WT} {e : Expr} {es : List Expr} {ed : ED} {ad : AD} {pos : Pos}
theorem szl : (16777216 : Nat) = sizeLine := by rw [sizeLine_eq]
theorem de_tup {x1} (h : DA X W es ad) : DE X W (.Tuple es x1 pos) (eTup ad) := (pe_tup h).imp fun σ H Q ⟨G, Hf, δ, I, q⟩ => by
  refine ⟨G, Hf, δ, I, ?_⟩
  unfold eTup at q
  revert q
  cases ad δ with
  | none => exact fun q => q.elim
  | some r =>
    cases r with
    | er x δ' => exact fun q => q
    | ok rs δ1 =>
      intro q Hf1 H1 vs s1 I1 hl pl
      dsimp only at q
      split at q
      · exact q.elim
      · rename_i ds δ2 hds
        obtain ⟨Hf2, s2, I2, r2⟩ := I1.settleL hl pl hds
        split at q
        · rename_i hz
          refine ⟨by rw [r2.length, ← szl]; exact hz, fun p hp => ?_⟩
          refine q _ _ _ (s1.trans (s2.trans (Same.new (I2.fnone hp)))) (I2.alloc hp (.tup vs)) ?_
          show Rel X.K _ (.tup ds) _
          unfold Rel
          exact ⟨p, vs, rfl, SqT.of upd_same, RelL.mono (Same.new (I2.fnone hp)) r2⟩
        · exact q.elim
theorem de_lst (h : DA X W es ad) : DE X W (.List es pos) (eLst ad) := (pe_lst h).imp fun σ H Q ⟨G, Hf, δ, I, q⟩ => by
  refine ⟨G, Hf, δ, I, ?_⟩
  unfold eLst at q
  revert q
  cases ad δ with
  | none => exact fun q => q.elim
  | some r =>
    cases r with
    | er x δ' => exact fun q => q
    | ok rs δ1 =>
      intro q Hf1 H1 vs s1 I1 hl pl
      dsimp only at q
      split at q
      · exact q.elim
      · rename_i ds δ2 hds
        obtain ⟨Hf2, s2, I2, r2⟩ := I1.settleL hl pl hds
        split at q
        · rename_i hz
          refine ⟨by rw [r2.length, ← szl]; exact hz, fun p hp => ?_⟩
          exact q _ _ _ (s1.trans s2) (I2.allocOwn hp _) ⟨p, rfl, I2.fresh_new hp r2⟩
        · exact q.elim
/-! ## built-in functions and types called -/
def CallS (X : Cx) (f : Value) (sem : List D → Option OR) : Prop := ∃ r : List V → Hp → VK → Prop, CallR X f r ∧
  ∀ (Hf H : Hp) (ds : List D) (xs : List V) (out : OR) (Q : VK), Same Hf H → RNL X.K Hf H ds xs → sem ds = some out → OPost X.K Hf H out Q → r xs H Q
def eB (sem : List D → Option OR) (a : AD) : ED := fun δ => match a δ with
  | none => none
  | some (.er x δ1) => some (.er x δ1)
  | some (.ok rs δ1) => match dataL δ1 rs with
    | none => none
    | some ds => match sem ds with
      | none => none
      | some o => some (.ok o.rs δ1)
theorem rd_B {sem : List D → Option OR} {r : List V → Hp → VK → Prop} (hs : ∀ (Hf H : Hp) (ds : List D) (xs : List V) (out : OR) (Q : VK), Same Hf H → RNL X.K Hf H ds xs → sem ds = some out → OPost X.K Hf H out Q → r xs H Q)
    {σ : L2.St} {H : Hp} {Q : VK} (h : rdE X.K X.mg W (eB sem ad) σ H Q) : tCB r (rdA X.K X.mg W ad) σ H Q := by
  obtain ⟨G, Hf, δ, I, q⟩ := h
  refine ⟨G, Hf, δ, I, ?_⟩
  unfold eB at q
  revert q
  cases ad δ with
  | none => exact fun q => q.elim
  | some r =>
    cases r with
    | er x δ' => exact fun q => q
    | ok rs δ1 =>
      intro q Hf1 H1 vs s1 I1 hl pl
      dsimp only at q
      split at q
      · exact q.elim
      · rename_i ds hds
        split at q
        · exact q.elim
        · rename_i o ho
          exact hs Hf1 H1 ds vs o Q I1.sub (I1.dataL hl pl hds) ho (OPost.of I1 (q.up s1))
theorem de_B {x : Str} {p : Pos} {id : String} {sem : List D → Option OR} (hc : CallS X (.builtin id) sem) (hg : Gl X x) (hm : X.mg x = none) (hv : bootBuiltins x = some (.builtin id)) (ha : DA X W (e :: es) ad) (hn : x ≠ "__name__" := by decide) (hdb : (x == ("__debug__" : Str)) = false := by decide)
    (he : starEach (e :: es) X.env = (false, eval e X.env) :: starEach es X.env := by rfl) (hpl : (backTo pos (starEach es X.env)).any (·.1) = false := by rfl) : DE X W (.Call (.Name x p) (e :: es) [] pos) (eB sem ad) := by
  obtain ⟨r, hr, hs⟩ := hc
  exact (pe_callB hr hg hm hv ha hn hdb he hpl).imp fun σ H Q h => rd_B hs h
theorem de_Ty {x : Str} {p : Pos} {T : String} {sem : List D → Option OR} (hc : CallS X (.type T) sem) (hg : Gl X x) (hm : X.mg x = none) (hv : bootBuiltins x = some (.type T)) (ha : DA X W (e :: es) ad) (hn : x ≠ "__name__" := by decide) (hdb : (x == ("__debug__" : Str)) = false := by decide)
    (he : starEach (e :: es) X.env = (false, eval e X.env) :: starEach es X.env := by rfl) (hpl : (backTo pos (starEach es X.env)).any (·.1) = false := by rfl) : DE X W (.Call (.Name x p) (e :: es) [] pos) (eB sem ad) := by
  obtain ⟨r, hr, hs⟩ := hc
  exact (pe_callTy hr hg hm hv ha hn hdb he hpl).imp fun σ H Q h => rd_B hs h
end
end Dn

namespace Dn
open PySem PySem.Spec L2

/-! ## statements -/
inductive Out where
  | nx (δ : List Sl) | rt (r : Rs) (δ : List Sl) | bk (δ : List Sl) | ct (δ : List Sl) | er (x : Ex) (δ : List Sl)
abbrev SD := List Sl → Option Out
def SPost (K : PySem.W.Frag) (mg : Str → Option Value) (W : WT) {C : Cst} (G : Gh C) (Hf : Hp) (o : Option Out) (D : Ends) : Prop :=
  match o with
  | none => False
  | some (.nx δ') => ∀ Hf' σ' H', Same Hf Hf' → IV K G Hf' σ' H' δ' → D.nx σ' H'
  | some (.rt r δ') => ∀ Hf' σ' H' v, Same Hf Hf' → IV K G Hf' σ' H' δ' → RsR K G Hf' σ' H' δ' v r → D.rt v H'
  | some (.bk δ') => ∀ Hf' σ' H', Same Hf Hf' → IV K G Hf' σ' H' δ' → D.bk σ' H'
  | some (.ct δ') => ∀ Hf' σ' H', Same Hf Hf' → IV K G Hf' σ' H' δ' → D.ct σ' H'
  | some (.er x δ') => ∀ Hf' σ' H' cls d, Same Hf Hf' → IV K G Hf' σ' H' δ' → ExR K mg Hf' H' x cls d → W cls d σ' H'
def rdS (K : PySem.W.Frag) (mg : Str → Option Value) (W : WT) (s : SD) : TS := fun D σ H => ∃ (G : Gh W.c) (Hf : Hp) (δ : List Sl), IV K G Hf σ H δ ∧ SPost K mg W G Hf (s δ) D
abbrev DS (X : Cx) (W : WT) (st : Stmt) (sd : SD) : Prop := PS X st (rdS X.K X.mg W sd)
abbrev DSs (X : Cx) (W : WT) (st : List Stmt) (sd : SD) : Prop := PSs X st (rdS X.K X.mg W sd)
theorem _root_.L2.PSs.imp {X : Cx} {e : List Stmt} {t t' : TS} (h : PSs X e t) (k : ∀ D σ H, t' D σ H → t D σ H) : PSs X e t' := ⟨fun pins s σ H D I q => h.run pins s σ H D I (k D σ H q)⟩
section
variable {K : PySem.W.Frag} {mg : Str → Option Value} {W : WT} {C : Cst} {G : Gh C} {Hf Hf' : Hp} {σ : L2.St} {H H' : Hp} {δ δ' : List Sl} {v : V}
theorem SPost.up {o : Option Out} {D : Ends} (h : SPost K mg W G Hf o D) (s : Same Hf Hf') : SPost K mg W G Hf' o D := by
  cases o with
  | none => exact h
  | some r =>
    cases r with
    | nx δ' => exact fun Hf2 σ' H' a b => h Hf2 σ' H' (s.trans a) b
    | rt r δ' => exact fun Hf2 σ' H' v a b c => h Hf2 σ' H' v (s.trans a) b c
    | bk δ' => exact fun Hf2 σ' H' a b => h Hf2 σ' H' (s.trans a) b
    | ct δ' => exact fun Hf2 σ' H' a b => h Hf2 σ' H' (s.trans a) b
    | er x δ' => exact fun Hf2 σ' H' c d a b e => h Hf2 σ' H' c d (s.trans a) b e
end
def sNil : SD := fun δ => some (.nx δ)
def sBk : SD := fun δ => some (.bk δ)
def sCt : SD := fun δ => some (.ct δ)
def Out.then (o : Option Out) (k : SD) : Option Out :=
  match o with
  | some (.nx δ) => k δ
  | o => o
def sSeq (a b : SD) : SD := fun δ => Out.then (a δ) b
/-- an expression first -/
def Out.with (o : Option ER) (k : Rs → SD) : Option Out :=
  match o with
  | none => none
  | some (.er x δ) => some (.er x δ)
  | some (.ok r δ) => k r δ
def sExpr (e : ED) : SD := fun δ => Out.with (e δ) fun _ δ1 => some (.nx δ1)
def sRet (e : ED) : SD := fun δ => Out.with (e δ) fun r δ1 => some (.rt r δ1)
def sRetN : SD := fun δ => some (.rt (.fz .non) δ)
def sIf (t : TD) (a b : SD) : SD := fun δ =>
  match t δ with
  | none => none
  | some (.er x δ1) => some (.er x δ1)
  | some (.ok c δ1) => if c then a δ1 else b δ1
section
variable {K : PySem.W.Frag} {mg : Str → Option Value} {W : WT} {C : Cst} {G : Gh C} {Hf Hf' : Hp} {σ : L2.St} {H H' : Hp} {δ δ' : List Sl} {v : V}
theorem SPost.with {o : Option ER} {k : Rs → SD} {D : Ends} (h : SPost K mg W G Hf (Out.with o k) D) :
    EPost K mg W G σ Hf o fun v H1 => ∃ Hf1 δ1 r, Same Hf Hf1 ∧ IV K G Hf1 σ H1 δ1 ∧ RsR K G Hf1 σ H1 δ1 v r ∧ SPost K mg W G Hf1 (k r δ1) D := by
  cases o with
  | none => exact h
  | some r =>
    cases r with
    | ok r δ' => exact fun Hf' H' v a b c => ⟨Hf', δ', r, a, b, c, h.up a⟩
    | er x δ' => exact fun Hf' H' cls d a b c => h Hf' σ H' cls d a b c
end
section
variable {X : Cx} {W : WT} {e : Expr} {ed : ED} {st : Stmt} {rest sa sb : List Stmt} {s1 s2 : SD} {td : TD} {pos : Pos}
theorem ss_nil : DSs X W [] sNil := pss_nil.imp fun D σ H ⟨G, Hf, δ, I, q⟩ => q Hf σ H (Same.refl _) I
theorem ss_cons (h1 : DS X W st s1) (h2 : DSs X W rest s2) : DSs X W (st :: rest) (sSeq s1 s2) := (pss_cons h1 h2).imp fun D σ H ⟨G, Hf, δ, I, q⟩ => by
  refine ⟨G, Hf, δ, I, ?_⟩
  unfold sSeq Out.then at q
  revert q
  cases s1 δ with
  | none => exact fun q => q
  | some o =>
    cases o with
    | nx δ1 => exact fun q Hf' σ' H' a b => ⟨G, Hf', δ1, b, q.up a⟩
    | rt r δ1 => exact fun q => q
    | bk δ1 => exact fun q => q
    | ct δ1 => exact fun q => q
    | er x δ1 => exact fun q => q
theorem ss_one (h1 : DS X W st s1) : DSs X W [st] s1 := pss_one h1
theorem s_pass : DS X W (.Pass pos) sNil := ps_pass.imp fun D σ H ⟨G, Hf, δ, I, q⟩ => q Hf σ H (Same.refl _) I
theorem s_break : DS X W (.Break pos) sBk := ps_break.imp fun D σ H ⟨G, Hf, δ, I, q⟩ => q Hf σ H (Same.refl _) I
theorem s_cont : DS X W (.Continue pos) sCt := ps_continue.imp fun D σ H ⟨G, Hf, δ, I, q⟩ => q Hf σ H (Same.refl _) I
theorem s_expr (he : DE X W e ed) (hs : swapsWith e none pos.line X.env = pure false := by rfl) : DS X W (.Expr e pos) (sExpr ed) := (ps_expr he hs).imp fun D σ H ⟨G, Hf, δ, I, q⟩ =>
  ⟨G, Hf, δ, I, (SPost.with q).mono fun v H1 ⟨Hf1, δ1, r, s1, I1, r1, q1⟩ => q1 Hf1 σ H1 (Same.refl _) I1⟩
theorem s_ret (he : DE X W e ed) : DS X W (.Return (some e) pos) (sRet ed) := (ps_ret he).imp fun D σ H ⟨G, Hf, δ, I, q⟩ =>
  ⟨G, Hf, δ, I, (SPost.with q).mono fun v H1 ⟨Hf1, δ1, r, s1, I1, r1, q1⟩ => q1 Hf1 σ H1 v (Same.refl _) I1 r1⟩
theorem s_retN : DS X W (.Return none pos) sRetN := ps_retN.imp fun D σ H ⟨G, Hf, δ, I, q⟩ => q Hf σ H .non (Same.refl _) I rfl
theorem s_if {c : Expr} (hc : DT X W c td) (ha : DSs X W sa s1) (hb : DSs X W sb s2) : DS X W (.If c sa sb pos) (sIf td s1 s2) := (ps_if hc ha hb).imp fun D σ H ⟨G, Hf, δ, I, q⟩ => by
  refine ⟨G, Hf, δ, I, ?_⟩
  unfold sIf at q
  revert q
  cases td δ with
  | none => exact fun q => q
  | some o =>
    cases o with
    | er x δ1 => exact fun q Hf' H' cls d a b c => q Hf' σ H' cls d a b c
    | ok c δ1 =>
      intro q Hf' H' a b
      cases c with
      | true => exact ⟨G, Hf', δ1, b, q.up a⟩
      | false => exact ⟨G, Hf', δ1, b, q.up a⟩
end

/-! ## targets -/
abbrev GD := Rs → List Sl → Option (List Sl)
def rdG (K : PySem.W.Frag) (c : Cst) (g : GD) : TG := fun v σ H Q => ∃ (G : Gh c) (Hf : Hp) (δ : List Sl) (r : Rs) (δ' : List Sl), IV K G Hf σ H δ ∧ RsR K G Hf σ H δ v r ∧ g r δ = some δ' ∧ ∀ Hf' σ' H', Same Hf Hf' → IV K G Hf' σ' H' δ' → Q σ' H'
abbrev DG (X : Cx) (W : WT) (tg : Expr) (gd : GD) : Prop := PG X tg (rdG X.K W.c gd)
theorem _root_.L2.PG.imp {X : Cx} {e : Expr} {t t' : TG} (h : PG X e t) (k : ∀ v σ H Q, t' v σ H Q → t v σ H Q) : PG X e t' := ⟨fun pins s σ H v u Q I r q => h.run pins s σ H v u Q I r (k v σ H Q q)⟩
def Sl.isIo : Sl → Bool
  | .io _ => true
  | _ => false
/-- a name is stored: a new list becomes its own -/
def gN0 (i : Nat) : GD := fun r δ =>
  match r with
  | .fresh ds => some (δ.set i (.own ds))
  | .fz d => some (δ.set i (.fz d))
  | .slot j => match (Rs.slot j).settle δ with
      | none => none
      | some (d, δ1) => some (δ1.set i (.fz d))
def gN (i : Nat) : GD := fun r δ =>
  match δ[i]? with
  | some (.io _) => none
  | none => none
  | some _ => gN0 i r δ
section
variable {K : PySem.W.Frag} {mg : Str → Option Value} {W : WT} {C : Cst} {G : Gh C} {Hf Hf' : Hp} {σ : L2.St} {H H' : Hp} {δ δ' : List Sl} {v : V}
theorem settle_io {r : Rs} {d : D} (e : r.settle δ = some (d, δ')) {i : Nat} (hn : ∀ ds, δ[i]? ≠ some (.io ds)) : ∀ ds, δ'[i]? ≠ some (.io ds) := by
  cases r with
  | fz d' => cases e; exact hn
  | fresh ds => cases e; exact hn
  | slot j =>
    unfold Rs.settle at e
    dsimp only at e
    split at e
    · cases e; exact hn
    · rename_i ds hd
      cases e
      intro es h
      by_cases hj : j = i
      · subst hj
        rw [List.getElem?_set_self (List.getElem?_eq_some_iff.mp hd).1] at h
        cases h
      · rw [List.getElem?_set_ne hj] at h
        exact hn es h
    · cases e
theorem gN_io {i : Nat} {r : Rs} (e : gN i r δ = some δ') : (∀ ds, δ[i]? ≠ some (.io ds)) ∧ gN0 i r δ = some δ' := by
  unfold Dn.gN at e
  revert e
  cases δ[i]? with
  | none => exact fun e => nomatch e
  | some s =>
    cases s with
    | io ds => exact fun e => nomatch e
    | no => exact fun e => ⟨(fun ds z => by cases z), e⟩
    | exn => exact fun e => ⟨(fun ds z => by cases z), e⟩
    | fz d => exact fun e => ⟨(fun ds z => by cases z), e⟩
    | own es => exact fun e => ⟨(fun ds z => by cases z), e⟩
theorem IV.gN (I : IV K G Hf σ H δ) {i : Nat} {r : Rs} (hr : RsR K G Hf σ H δ v r) (e : gN i r δ = some δ') : ∃ Hf', Same Hf Hf' ∧ IV K G Hf' (σ.set i (some v)) H δ' := by
  obtain ⟨hn, e⟩ := gN_io e
  cases r with
  | fresh ds =>
    cases e
    obtain ⟨p, rfl, f⟩ := hr
    exact ⟨Hf, Same.refl _, I.setOwn hn f⟩
  | fz d =>
    cases e
    exact ⟨Hf, Same.refl _, I.setFz hn hr⟩
  | slot j =>
    unfold gN0 at e
    dsimp only at e
    split at e
    · cases e
    · rename_i d δ1 hd
      cases e
      obtain ⟨Hf1, s1, I1, r1, _⟩ := I.settle hr hd
      exact ⟨Hf1, s1, I1.setFz (settle_io hd hn) r1⟩
end
/-- the names of a tuple of targets, each given its item -/
def gNs : List Nat → List D → List Sl → Option (List Sl)
  | [], [], δ => some δ
  | i :: is, d :: ds, δ => match gN i (.fz d) δ with
    | none => none
    | some δ1 => gNs is ds δ1
  | _, _, _ => none
/-- a, b, .. = a tuple -/
def gT (is : List Nat) : GD := fun r δ => match r.data δ with
  | some (.tup ds) => gNs is ds δ
  | _ => none
/-- a, b, .. = a list -/
def gL (is : List Nat) : GD := fun r δ => match r.settle δ with
  | some (.lst ds, δ1) => gNs is ds δ1
  | _ => none
/-- the readings of names in a row -/
def gNames : List Nat → TGs
  | [] => gNil
  | i :: is => gCons (gName i) (gNames is)
def setAll : L2.St → List Nat → List V → L2.St
  | σ, i :: is, v :: vs => setAll (σ.set i (some v)) is vs
  | σ, _, _ => σ
section
variable {K : PySem.W.Frag} {mg : Str → Option Value} {W : WT} {C : Cst} {G : Gh C} {Hf Hf' : Hp} {σ : L2.St} {H H' : Hp} {δ δ' : List Sl} {v : V}
theorem IV.gNs : ∀ {is : List Nat} {ds : List D} {vs : List V} {Hf : Hp} {σ : L2.St} {δ : List Sl}, IV K G Hf σ H δ → RelL K Hf ds vs → gNs is ds δ = some δ' → is.length = vs.length ∧ ∃ Hf', Same Hf Hf' ∧ IV K G Hf' (setAll σ is vs) H δ'
  | [], [], vs, Hf, σ, δ, I, r, e => by
    cases e
    unfold RelL at r
    subst r
    exact ⟨rfl, Hf, Same.refl _, I⟩
  | [], d :: ds, vs, Hf, σ, δ, I, r, e => by cases e
  | i :: is, [], vs, Hf, σ, δ, I, r, e => by cases e
  | i :: is, d :: ds, vs, Hf, σ, δ, I, r, e => by
    unfold RelL at r
    obtain ⟨x, xs, rfl, h2, h3⟩ := r
    unfold Dn.gNs at e
    split at e
    · cases e
    · rename_i δ1 h1
      obtain ⟨Hf1, s1, I1⟩ := I.gN (r := .fz d) h2 h1
      obtain ⟨hl, Hf2, s2, I2⟩ := IV.gNs I1 (RelL.mono s1 h3) e
      exact ⟨by simp [hl], Hf2, s1.trans s2, I2⟩
theorem gNames_run {Q : L2.St → Hp → Prop} : ∀ {is : List Nat} {vs : List V} {σ : L2.St}, is.length = vs.length → Q (setAll σ is vs) H → gNames is vs σ H Q
  | [], [], σ, _, q => ⟨rfl, q⟩
  | [], _ :: _, σ, h, q => by simp at h
  | _ :: _, [], σ, h, q => by simp at h
  | i :: is, v :: vs, σ, h, q => ⟨v, vs, rfl, gNames_run (by simpa using h) q⟩
end
section
variable {X : Cx} {W : WT} {e tg : Expr} {ed : ED} {gd : GD} {pos : Pos}
theorem dg_name {i : Nat} (h : PG X tg (gName i)) : DG X W tg (gN i) := h.imp fun v σ H Q ⟨G, Hf, δ, r, δ', I, hr, e, q⟩ => by
  obtain ⟨Hf', s, I'⟩ := I.gN hr e
  exact q Hf' _ H s I'
theorem dg_tup {is : List Nat} {n : Nat} (h : PG X tg (gTup X.K n (gNames is))) (hn : is.length = n := by rfl) : DG X W tg (gT is) := h.imp fun v σ H Q ⟨G, Hf, δ, r, δ', I, hr, e, q⟩ => by
  unfold gT at e
  split at e
  · rename_i ds hd
    have rn := I.data hr hd
    obtain ⟨a, xs, rfl, h1, h2⟩ := (show ∃ a ys, v = .ref a ∧ SqT X.K Hf a ys ∧ RelL X.K Hf ds ys by simpa [RN, Rel] using rn)
    obtain ⟨hl, Hf', s, I'⟩ := I.gNs h2 e
    exact ⟨a, xs, rfl, Same.sqt I.sub h1, by rw [← hl, hn], gNames_run hl (q Hf' _ H s I')⟩
  · cases e
theorem dg_lst {is : List Nat} {n : Nat} (h : PG X tg (gLst X.K n (gNames is))) (hn : is.length = n := by rfl) : DG X W tg (gL is) := h.imp fun v σ H Q ⟨G, Hf, δ, r, δ', I, hr, e, q⟩ => by
  unfold gL at e
  split at e
  · rename_i ds δ1 hd
    obtain ⟨Hf1, s1, I1, r1, _⟩ := I.settle hr hd
    unfold Rel at r1
    obtain ⟨a, xs, rfl, h1, h2⟩ := r1
    obtain ⟨hl, Hf', s, I'⟩ := I1.gNs h2 e
    exact ⟨a, xs, rfl, SqL.of (I1.sub _ _ h1), by rw [← hl, hn], gNames_run hl (q Hf' _ H (s1.trans s) I')⟩
  · cases e
/-- x[i] = .. -/
def putAt (j : Nat) (k : Int) (d : D) (δ : List Sl) : Option (List Sl) :=
  match δ[j]? with
  | some (.own ds) => match ixN ds.length k with
    | some m => some (δ.set j (.own (ds.set m d)))
    | none => none
  | some (.io ds) => match ixN ds.length k with
    | some m => some (δ.set j (.io (ds.set m d)))
    | none => none
  | _ => none
def gIx (io ii : ED) : GD := fun r δ =>
  match io δ with
  | some (.ok (.slot j) δ1) => match ii δ1 with
    | some (.ok (.fz (.int k)) δ2) => match r.settle δ2 with
      | some (d, δ3) => putAt j k d δ3
      | none => none
    | _ => none
  | _ => none
def SetS (X : Cx) : Prop := ∃ t : TSet, PSet X t ∧ ∀ (H : Hp) (p : Addr) (xs : List V) (k : Int) (m : Nat) (v : V) (Q : Hp → Prop), H p = some (.lst xs) → ixN xs.length k = some m → Q (upd H p (.lst (xs.set m v))) → t (.ref p) (.int k) v H Q
theorem setS : SetS X := ⟨rSetL, set_list, fun H p xs k m v Q h1 h2 q => ⟨p, xs, k, m, rfl, rfl, h1, h2, q⟩⟩
theorem IV.putAt {K : PySem.W.Frag} {C : Cst} {G : Gh C} {Hf : Hp} {σ : L2.St} {H : Hp} {δ δ' : List Sl} {v : V} (I : IV K G Hf σ H δ) {j : Nat} {k : Int} {d : D} {o : V} (hv : σ[j]? = some (some o)) (r : Rel K Hf d v) (e : putAt j k d δ = some δ') :
    ∃ p xs m, o = .ref p ∧ H p = some (.lst xs) ∧ ixN xs.length k = some m ∧ IV K G Hf σ (upd H p (.lst (xs.set m v))) δ' := by
  unfold Dn.putAt at e
  split at e
  · rename_i ds hd
    split at e
    · rename_i m hm
      cases e
      obtain ⟨p, vs, ds', e1, h1, h2, h3, h4⟩ := I.own_some hd rfl
      rw [hv] at e1; cases e1
      rcases h4 with ⟨z, _⟩ | ⟨z, _⟩ <;> cases z
      have hl := h2.length
      exact ⟨p, vs, m, rfl, h1, by rw [hl]; exact hm, I.write hd rfl hv (RelL.set r m h2)⟩
    · cases e
  · rename_i ds hd
    split at e
    · rename_i m hm
      cases e
      obtain ⟨p, vs, ds', e1, h1, h2, h3, h4⟩ := I.own_some hd rfl
      rw [hv] at e1; cases e1
      rcases h4 with ⟨z, _⟩ | ⟨z, _⟩ <;> cases z
      have hl := h2.length
      exact ⟨p, vs, m, rfl, h1, by rw [hl]; exact hm, I.write hd rfl hv (RelL.set r m h2)⟩
    · cases e
  · cases e
theorem dg_ix {o i : Expr} {eo ei : ED} (ho : DE X W o eo) (hi : DE X W i ei)
    (ha : ∀ v, assign (.Subscript o i pos) X.env v = (do
      let ov ← holding [v] (eval o X.env)
      let iv ← holding [v, ov] (eval i X.env)
      standAt pos
      holding [v, ov, iv] (setItem ov iv v)
      release [v, ov, iv] []) := by intro _; rfl) : DG X W (.Subscript o i pos) (gIx eo ei) := by
  obtain ⟨t, hs, ht⟩ := setS (X := X)
  refine (pg_sub ho hi hs ha).imp fun v σ H Q ⟨G, Hf, δ, r, δ', I, hr, e, q⟩ => ?_
  unfold gIx at e
  split at e
  · rename_i j δ1 h1
    split at e
    · rename_i k δ2 h2
      split at e
      · rename_i d δ3 h3
        obtain ⟨G', I', back⟩ := I.pend (PL.one hr)
        refine ⟨G', Hf, δ, I', ?_⟩
        rw [h1]
        intro Hf1 H1 ov s1 I1 r1
        refine ⟨G', Hf1, δ1, I1, ?_⟩
        rw [h2]
        intro Hf2 H2 iv s2 I2 r2
        obtain ⟨J2, l2, _⟩ := back Hf2 H2 δ2 (s1.trans s2) I2
        have e2 : iv = .int k := r2
        subst e2
        have r1 : σ[j]? = some (some ov) := r1
        obtain ⟨Hf3, s3, I3, r3, _⟩ := J2.settle (l2.all (v, r) (by simp)) h3
        obtain ⟨p, xs, m, rfl, k1, k2, k3⟩ := I3.putAt r1 r3 e
        exact ht H2 p xs k m v _ k1 k2 (q Hf3 σ _ ((s1.trans s2).trans s3) k3)
      · cases e
    · cases e
  · cases e

/-! ## assignments -/
def sAsg (g : GD) (e : ED) : SD := fun δ => Out.with (e δ) fun r δ1 => match g r δ1 with
  | none => none
  | some δ2 => some (.nx δ2)
theorem rd_asg {σ : L2.St} {H : Hp} {D : Ends} (h : rdS X.K X.mg W (sAsg gd ed) D σ H) : tAsg (rdE X.K X.mg W ed) (rdG X.K W.c gd) D σ H := by
  obtain ⟨G, Hf, δ, I, q⟩ := h
  refine ⟨G, Hf, δ, I, (SPost.with q).mono fun v H1 ⟨Hf1, δ1, r, s1, I1, r1, q1⟩ => ?_⟩
  split at q1
  · exact q1.elim
  · rename_i δ2 h2
    exact ⟨G, Hf1, δ1, r, δ2, I1, r1, h2, fun Hf' σ' H' a b => q1 Hf' σ' H' a b⟩
theorem s_asg (he : DE X W e ed) (hg : DG X W tg gd) (hs : swapsWithSole [tg] e pos.line X.env = pure false := by rfl) (hw : swappedStores [tg] e X.env = pure none := by rfl)
    (h1 : (assignEach [tg] X.env).map (·.2) = [assign tg X.env] := by rfl) : DS X W (.Assign [tg] e pos) (sAsg gd ed) := (ps_asg he hg hs hw h1).imp fun D σ H h => rd_asg h
theorem s_set {i : Nat} {x : Str} {pos' : Pos} (h : PS X (.Assign [.Name x pos'] e pos) (tAsg (rdE X.K X.mg W ed) (gName i))) : DS X W (.Assign [.Name x pos'] e pos) (sAsg (gN i) ed) := h.imp fun D σ H ⟨G, Hf, δ, I, q⟩ => by
  refine ⟨G, Hf, δ, I, (SPost.with q).mono fun v H1 ⟨Hf1, δ1, r, s1, I1, r1, q1⟩ => ?_⟩
  split at q1
  · exact q1.elim
  · rename_i δ2 h2
    obtain ⟨Hf2, s2, I2⟩ := I1.gN r1 h2
    exact q1 Hf2 _ H1 s2 I2
/-- slots are kept, new lists stay one's own -/
def settleS : List Rs → List Sl → Option (List Rs × List Sl)
  | [], δ => some ([], δ)
  | .slot i :: rs, δ => match (Rs.slot i).settle δ with
    | none => none
    | some (d, δ1) => match settleS rs δ1 with
      | none => none
      | some (rs', δ2) => some (.fz d :: rs', δ2)
  | r :: rs, δ => match settleS rs δ with
      | none => none
      | some (rs', δ2) => some (r :: rs', δ2)
def gRs : List Nat → List Rs → List Sl → Option (List Sl)
  | [], [], δ => some δ
  | i :: is, .fz d :: rs, δ => match gN i (.fz d) δ with
    | none => none
    | some δ1 => gRs is rs δ1
  | i :: is, .fresh d :: rs, δ => match gN i (.fresh d) δ with
    | none => none
    | some δ1 => gRs is rs δ1
  | _, _, _ => none
def sPar (is : List Nat) (a : AD) : SD := fun δ => match a δ with
  | none => none
  | some (.er x δ1) => some (.er x δ1)
  | some (.ok rs δ1) => if rs.length ≤ 1000 then match settleS rs δ1 with
    | none => none
    | some (rs', δ2) => match gRs is rs' δ2 with
      | none => none
      | some δ3 => some (.nx δ3)
    else none
def noSlot : Rs → Bool
  | .slot _ => false
  | _ => true
end
section
variable {K : PySem.W.Frag} {mg : Str → Option Value} {W : WT} {C : Cst} {G : Gh C} {Hf Hf' : Hp} {σ : L2.St} {H H' : Hp} {δ δ' : List Sl} {v : V}
theorem PL.tail {r : Rs} {l : List (V × Rs)} (pl : PL K G Hf σ H δ ((v, r) :: l)) : PL K G Hf σ H δ l := by
  refine ⟨fun x hx => pl.all x (by simp [hx]), ?_⟩
  have := pl.nd
  revert this
  cases v <;> cases r <;> simp only [frs] <;> first | exact fun h => h | exact fun h => (List.nodup_cons.mp h).2
theorem IV.settleS : ∀ {rs rs' : List Rs} {vs : List V} {Hf : Hp} {δ δ' : List Sl}, IV K G Hf σ H δ → vs.length = rs.length → PL K G Hf σ H δ (vs.zip rs) → settleS rs δ = some (rs', δ') →
    ∃ Hf', Same Hf Hf' ∧ IV K G Hf' σ H δ' ∧ vs.length = rs'.length ∧ PL K G Hf' σ H δ' (vs.zip rs') ∧ rs'.all noSlot = true ∧ (∀ q, Hf q = none → Hf' q ≠ none → ownAt σ δ q) ∧ (∀ q, ownAt σ δ' q → ownAt σ δ q) ∧ frs (vs.zip rs') = frs (vs.zip rs)
  | [], rs', vs, Hf, δ, δ', I, hl, pl, e => by
    cases e
    exact ⟨Hf, Same.refl _, I, hl, pl, rfl, fun q a b => absurd a b, fun _ z => z, rfl⟩
  | r :: rs, rs', [], Hf, δ, δ', I, hl, pl, e => by simp at hl
  | .slot i :: rs, rs', v :: vs, Hf, δ, δ', I, hl, pl, e => by
    unfold Dn.settleS at e
    split at e
    · cases e
    · rename_i d δ1 h1
      split at e
      · cases e
      · rename_i rs1 δ2 h2
        cases e
        obtain ⟨Hf1, s1, I1, r1, n1, o1⟩ := I.settle (pl.all (v, .slot i) (by simp)) h1
        obtain ⟨Hf2, s2, I2, hl2, pl2, a2, n2, o2, f2⟩ := IV.settleS I1 (by simpa using hl) (PL.after pl s1 n1 o1) h2
        refine ⟨Hf2, s1.trans s2, I2, by simp [hl2], PL.cons (Rel.mono s2 r1) pl2 (fun _ _ _ z => nomatch z), by simp [noSlot, a2], fun q a b => ?_, fun q z => o1 q (o2 q z), by cases v <;> simpa [frs] using f2⟩
        cases z : Hf1 q with
        | none => exact o1 q (n2 q z b)
        | some u =>
          rcases (n1 q a (by rw [z]; intro z; cases z)).2 with ⟨ds, z⟩ | z
          · cases z
          · exact z
  | .fz d :: rs, rs', v :: vs, Hf, δ, δ', I, hl, pl, e => by
    unfold Dn.settleS at e
    split at e
    · cases e
    · rename_i rs1 δ2 h2
      cases e
      obtain ⟨Hf2, s2, I2, hl2, pl2, a2, n2, o2, f2⟩ := IV.settleS I (by simpa using hl) pl.tail h2
      exact ⟨Hf2, s2, I2, by simp [hl2], PL.cons (Rel.mono s2 (pl.all (v, .fz d) (by simp))) pl2 (fun _ _ _ z => nomatch z), by simp [noSlot, a2], n2, o2, by cases v <;> simpa [frs] using f2⟩
  | .fresh ds :: rs, rs', v :: vs, Hf, δ, δ', I, hl, pl, e => by
    unfold Dn.settleS at e
    split at e
    · cases e
    · rename_i rs1 δ2 h2
      cases e
      obtain ⟨Hf2, s2, I2, hl2, pl2, a2, n2, o2, f2⟩ := IV.settleS I (by simpa using hl) pl.tail h2
      obtain ⟨p, e1, vs', h3, h4, h5, h6, h7, h8⟩ := pl.all (v, .fresh ds) (by simp)
      dsimp only at e1
      subst e1
      refine ⟨Hf2, s2, I2, by simp [hl2], PL.cons ⟨p, rfl, vs', h3, RelL.mono s2 h4, ?_, h6, h7, fun z => h8 (o2 p z)⟩ pl2 (fun p' ds' e1 e2 hm => ?_), by simp [noSlot, a2], n2, o2, by simpa [frs] using f2⟩
      · cases z : Hf2 p with
        | none => rfl
        | some u => exact absurd (n2 p h5 (by rw [z]; intro z; cases z)) h8
      · cases e1
        replace hm : p ∈ frs (vs.zip rs1) := hm
        rw [f2] at hm
        have := pl.nd
        simp only [List.zip_cons_cons, frs] at this
        exact (List.nodup_cons.mp this).1 hm
theorem PL.set {l : List (V × Rs)} {i : Nat} {s : Sl} (pl : PL K G Hf σ H δ l) (hn : l.all (fun x => noSlot x.2) = true) (h : s.isOwn = true → ∀ q, v = .ref q → q ∉ Dn.frs l) : PL K G Hf (σ.set i (some v)) H (δ.set i s) l := by
  refine ⟨fun x hx => ?_, pl.nd⟩
  have q := pl.all x hx
  obtain ⟨w, r⟩ := x
  cases r with
  | fz d => exact q
  | slot j =>
    have := List.all_eq_true.mp hn _ hx
    cases this
  | fresh ds =>
    obtain ⟨p, e, vs, h1, h2, h3, h4, h5, h6⟩ := q
    dsimp only at e
    subst e
    refine ⟨p, rfl, vs, h1, h2, h3, h4, h5, fun ⟨j, t, a1, a2, a3⟩ => ?_⟩
    by_cases hj : i = j
    · subst hj
      have lt : i < δ.length := by
        by_cases lt : i < δ.length
        · exact lt
        · rw [List.getElem?_eq_none (by simpa using lt)] at a1; cases a1
      rw [List.getElem?_set_self lt] at a1
      cases a1
      have lt2 : i < σ.length := by
        by_cases lt : i < σ.length
        · exact lt
        · rw [List.getElem?_eq_none (by simpa using lt)] at a3; cases a3
      rw [List.getElem?_set_self lt2] at a3
      cases a3
      exact h a2 p rfl (mem_frs.mpr ⟨ds, hx⟩)
    · rw [List.getElem?_set_ne hj] at a1 a3
      exact h6 ⟨j, t, a1, a2, a3⟩
theorem zip_noSlot : ∀ {vs : List V} {rs : List Rs}, rs.all noSlot = true → (vs.zip rs).all (fun x => noSlot x.2) = true
  | [], _, _ => by simp
  | _ :: _, [], _ => by simp
  | v :: vs, r :: rs, h => by
    simp only [List.all_cons, Bool.and_eq_true] at h
    simp only [List.zip_cons_cons, List.all_cons, Bool.and_eq_true]
    exact ⟨h.1, zip_noSlot h.2⟩
theorem IV.gRs : ∀ {is : List Nat} {rs : List Rs} {vs : List V} {σ : L2.St} {δ : List Sl}, IV K G Hf σ H δ → vs.length = rs.length → rs.all noSlot = true → PL K G Hf σ H δ (vs.zip rs) → gRs is rs δ = some δ' → is.length = vs.length ∧ IV K G Hf (setAll σ is vs) H δ'
  | [], [], vs, σ, δ, I, hl, _, pl, e => by
    cases e
    rw [List.length_eq_zero_iff.mp hl]
    exact ⟨rfl, I⟩
  | [], r :: rs, vs, σ, δ, I, hl, _, pl, e => by cases r <;> cases e
  | i :: is, [], vs, σ, δ, I, hl, _, pl, e => by cases e
  | i :: is, r :: rs, [], σ, δ, I, hl, _, pl, e => by simp at hl
  | i :: is, .slot j :: rs, v :: vs, σ, δ, I, hl, _, pl, e => by cases e
  | i :: is, .fz d :: rs, v :: vs, σ, δ, I, hl, ha, pl, e => by
    unfold Dn.gRs at e
    split at e
    · cases e
    · rename_i δ1 h1
      obtain ⟨hn, h1⟩ := gN_io h1
      cases h1
      have I1 := I.setFz hn (pl.all (v, .fz d) (by simp))
      have hb : rs.all noSlot = true := by simpa [noSlot] using ha
      obtain ⟨h2, I2⟩ := IV.gRs I1 (by simpa using hl) hb (PL.set pl.tail (zip_noSlot hb) (fun z => by cases z)) e
      exact ⟨by simp [h2], I2⟩
  | i :: is, .fresh ds :: rs, v :: vs, σ, δ, I, hl, ha, pl, e => by
    unfold Dn.gRs at e
    split at e
    · cases e
    · rename_i δ1 h1
      obtain ⟨hn, h1⟩ := gN_io h1
      cases h1
      obtain ⟨p, e1, f⟩ := pl.all (v, .fresh ds) (by simp)
      dsimp only at e1
      subst e1
      have I1 := I.setOwn hn f
      have hb : rs.all noSlot = true := by simpa [noSlot] using ha
      have nd := pl.nd
      simp only [List.zip_cons_cons, Dn.frs] at nd
      obtain ⟨h2, I2⟩ := IV.gRs I1 (by simpa using hl) hb (PL.set pl.tail (zip_noSlot hb) (fun _ q z => by cases z; exact (List.nodup_cons.mp nd).1)) e
      exact ⟨by simp [h2], I2⟩
end
section
variable {X : Cx} {W : WT} {ad : AD} {pos : Pos} {st : Stmt}
theorem rd_par {is : List Nat} {σ : L2.St} {H : Hp} {D : Ends} (h : rdS X.K X.mg W (sPar is ad) D σ H) :
    rdA X.K X.mg W ad σ H fun vs H1 => is.length = vs.length ∧ vs.length ≤ 1000 ∧ D.nx (setAll σ is vs) H1 ∧ ∀ p, H1 p = none → D.nx (setAll σ is vs) (upd H1 p (.tup vs)) := by
  obtain ⟨G, Hf, δ, I, q⟩ := h
  refine ⟨G, Hf, δ, I, ?_⟩
  unfold sPar at q
  revert q
  cases ad δ with
  | none => exact fun q => q.elim
  | some o =>
    cases o with
    | er x δ1 => exact fun q Hf' H' cls d a b c => q Hf' σ H' cls d a b c
    | ok rs δ1 =>
      intro q Hf1 H1 vs s1 I1 hl pl
      dsimp only at q
      split at q
      · rename_i hz
        split at q
        · exact q.elim
        · rename_i rs' δ2 h2
          obtain ⟨Hf2, s2, I2, hl2, pl2, a2, _, _, _⟩ := I1.settleS hl pl h2
          split at q
          · exact q.elim
          · rename_i δ3 h3
            obtain ⟨hi, I3⟩ := I2.gRs hl2 a2 pl2 h3
            refine ⟨hi, by omega, q Hf2 _ H1 (s1.trans s2) I3, fun p hp => q Hf2 _ _ (s1.trans s2) (I3.allocOwn hp _)⟩
      · exact q.elim
theorem s_par2 {i j : Nat} (h : PS X st (tPar i j (rdA X.K X.mg W ad))) : DS X W st (sPar [i, j] ad) := h.imp fun D σ H q => by
  obtain ⟨G, Hf, δ, I, q⟩ := rd_par q
  refine ⟨G, Hf, δ, I, q.mono fun vs H1 ⟨h1, _, h2, _⟩ => ?_⟩
  match vs, h1 with
  | [v, w], _ => exact ⟨v, w, rfl, h2⟩
theorem s_parN {is : List Nat} {n : Nat} (h : PS X st (tAsg (tTup (rdA X.K X.mg W ad)) (gTup X.K n (gNames is)))) (hn : is.length = n := by rfl) : DS X W st (sPar is ad) := h.imp fun D σ H q => by
  obtain ⟨G, Hf, δ, I, q⟩ := rd_par q
  refine ⟨G, Hf, δ, I, q.mono fun vs H1 ⟨h1, h2, _, h3⟩ => ?_⟩
  refine ⟨by rw [← szl]; omega, fun p hp => ⟨p, vs, rfl, SqT.of upd_same, by rw [← h1, hn], gNames_run h1 (h3 p hp)⟩⟩
/-! ## x op= e -/
def sAug (sem : D → D → Option OR) (i : Nat) (e : ED) : SD := fun δ => match δ[i]? with
  | some (.fz d) => Out.with (e δ) fun r δ1 => match r.data δ1 with
    | none => none
    | some d2 => match sem d d2 with
      | none => none
      | some o => match gN i o.rs δ1 with
        | none => none
        | some δ2 => some (.nx δ2)
  | _ => none
theorem s_aug {i : Nat} {e : Expr} {ed : ED} {op : Operator} {sem : D → D → Option OR} (ho : Op2 X (inplaceOp op) sem) (h : ∀ r : R2, OpR X (inplaceOp op) r → PS X st (tAug i (rdE X.K X.mg W ed) r)) : DS X W st (sAug sem i ed) := by
  obtain ⟨r, hr, hs⟩ := ho
  refine (h r hr).imp fun D σ H ⟨G, Hf, δ, I, q⟩ => ?_
  unfold sAug at q
  split at q
  · rename_i d hd
    obtain ⟨o, e1, _, v, rfl, r1⟩ := I.sl i _ hd
    refine ⟨v, e1, G, Hf, δ, I, (SPost.with q).mono fun y H1 ⟨Hf1, δ1, r2, s1, I1, k1, q1⟩ => ?_⟩
    split at q1
    · exact q1.elim
    · rename_i d2 hd2
      split at q1
      · exact q1.elim
      · rename_i o ho
        split at q1
        · exact q1.elim
        · rename_i δ2 h2
          refine hs Hf1 H1 d d2 v y o _ I1.sub (RN.of I1.sub (Rel.mono s1 r1)) (I1.data k1 hd2) ho ?_
          refine OPost.of (G := G) (σ := σ) (δ := δ1) (mg := X.mg) (W := W) I1 ?_
          intro Hf3 H3 z s3 I3 r3
          obtain ⟨Hf4, s4, I4⟩ := I3.gN r3 h2
          exact q1 Hf4 _ H3 (s3.trans s4) I4
  · exact q.elim

/-! ## loops -/
def FUEL : Nat := 4611686018427387904
def whileN (t : TD) (b : SD) : Nat → SD
  | 0 => fun _ => none
  | n + 1 => fun δ => match t δ with
    | none => none
    | some (.er x δ1) => some (.er x δ1)
    | some (.ok c δ1) => if c then (match b δ1 with
      | some (.nx δ2) => whileN t b n δ2
      | some (.ct δ2) => whileN t b n δ2
      | some (.bk δ2) => some (.nx δ2)
      | o => o) else some (.nx δ1)
def sWhile (t : TD) (b : SD) : SD := whileN t b FUEL
variable {td : TD} {sd : SD} {c : Expr} {body : List Stmt}
theorem s_while (hp : PassesOwn (model X.prog X.w) X.A X.env X.xe) (hc : DT X W c td) (hb : DSs X W body sd) : DS X W (.While c body [] pos) (sWhile td sd) := (ps_while hp hc hb).imp fun D σ H ⟨G, Hf, δ, I, q⟩ => by
  refine ⟨fun m σ H => ∃ Hf' δ', IV X.K G Hf' σ H δ' ∧ SPost X.K X.mg W G Hf' (whileN td sd m δ') D, ⟨FUEL, Hf, δ, I, q⟩, ?_⟩
  rintro m σ H ⟨Hf1, δ1, I1, q1⟩
  cases m with
  | zero => exact q1.elim
  | succ n =>
    refine ⟨G, Hf1, δ1, I1, ?_⟩
    unfold whileN at q1
    revert q1
    cases td δ1 with
    | none => exact fun q => q.elim
    | some o =>
      cases o with
      | er x δ2 => exact fun q Hf' H' cls d a b c => q Hf' σ H' cls d a b c
      | ok c δ2 =>
        intro q Hf2 H2 s2 I2
        cases c with
        | false =>
          rw [if_neg Bool.false_ne_true]
          exact q Hf2 σ H2 s2 I2
        | true =>
          rw [if_pos rfl]
          refine ⟨fun σ H => ∃ Hf' δ', IV X.K G Hf' σ H δ' ∧ SPost X.K X.mg W G Hf' (whileN td sd n δ') D, fun σ' H' h => ⟨n, Nat.lt_succ_self n, h⟩, G, Hf2, δ2, I2, ?_⟩
          replace q := q.up s2
          revert q
          dsimp only
          rw [if_pos rfl]
          cases sd δ2 with
          | none => exact fun q => q.elim
          | some o =>
            cases o with
            | nx δ3 => exact fun q Hf3 σ3 H3 s3 I3 => ⟨Hf3, δ3, I3, q.up s3⟩
            | ct δ3 => exact fun q Hf3 σ3 H3 s3 I3 => ⟨Hf3, δ3, I3, q.up s3⟩
            | bk δ3 => exact fun q => q
            | rt r δ3 => exact fun q => q
            | er x δ3 => exact fun q => q
/-! ### what is walked -/
inductive IR where
  | ok (ds : List D) (δ : List Sl)
  | er (x : Ex) (δ : List Sl)
abbrev ID := List Sl → Option IR
def Yl (K : PySem.W.Frag) (Hf : Hp) (d : D) (H : Hp) (x : V) (H' : Hp) : Prop :=
  (H' = H ∧ Rel K Hf d x) ∨ ∃ p xs ds, H p = none ∧ H' = upd H p (.tup xs) ∧ x = .ref p ∧ d = .tup ds ∧ RelL K Hf ds xs
structure Walk (K : PySem.W.Frag) (J : It) (Hf : Hp) (items : List D) : Prop where
  go : ∀ i H, Same Hf H → i < items.length → J.go i H
  stop : ∀ H, Same Hf H → J.stop items.length H
  yld : ∀ i d H x H', Same Hf H → items[i]? = some d → J.yld i H x H' → Yl K Hf d H x H'
def IPost (K : PySem.W.Frag) (mg : Str → Option Value) (W : WT) {C : Cst} (G : Gh C) (σ : L2.St) (Hf : Hp) (o : Option IR) (R : It → Hp → Prop) : Prop :=
  match o with
  | none => False
  | some (.ok items δ') => ∀ Hf' H' J, Same Hf Hf' → IV K G Hf' σ H' δ' → Walk K J Hf' items → R J H'
  | some (.er x δ') => ∀ Hf' H' cls d, Same Hf Hf' → IV K G Hf' σ H' δ' → ExR K mg Hf' H' x cls d → W cls d σ H'
def rdI (K : PySem.W.Frag) (mg : Str → Option Value) (W : WT) (it : ID) : TI := fun σ H R => ∃ (G : Gh W.c) (Hf : Hp) (δ : List Sl), IV K G Hf σ H δ ∧ IPost K mg W G σ Hf (it δ) R
abbrev DI (X : Cx) (W : WT) (tg iter : Expr) (it : ID) : Prop := PI X tg iter (rdI X.K X.mg W it)
theorem _root_.L2.PI.imp {X : Cx} {tg e : Expr} {t t' : TI} (h : PI X tg e t) (k : ∀ σ H R, t' σ H R → t σ H R) : PI X tg e t' := ⟨fun pins s σ H R I q => h.run pins s σ H R I (k σ H R q)⟩
def forL (g : GD) (b : SD) : List D → SD
  | [] => fun δ => some (.nx δ)
  | d :: ds => fun δ => match g (.fz d) δ with
    | none => none
    | some δ1 => match b δ1 with
      | some (.nx δ2) => forL g b ds δ2
      | some (.ct δ2) => forL g b ds δ2
      | some (.bk δ2) => some (.nx δ2)
      | o => o
def sFor (it : ID) (g : GD) (b : SD) : SD := fun δ => match it δ with
  | none => none
  | some (.er x δ1) => some (.er x δ1)
  | some (.ok items δ1) => forL g b items δ1
variable {tg iter : Expr} {it : ID} {gd : GD}
/-- a walked thing comes -/
theorem Yl.take {K : PySem.W.Frag} {C : Cst} {G : Gh C} {Hf : Hp} {σ : L2.St} {H H' : Hp} {δ : List Sl} {d : D} {x : V} (I : IV K G Hf σ H δ) (y : Yl K Hf d H x H') : ∃ Hf', Same Hf Hf' ∧ IV K G Hf' σ H' δ ∧ Rel K Hf' d x := by
  rcases y with ⟨rfl, r⟩ | ⟨p, xs, ds, hp, rfl, rfl, rfl, r⟩
  · exact ⟨Hf, Same.refl _, I, r⟩
  · refine ⟨_, Same.new (I.fnone hp), I.alloc hp _, ?_⟩
    unfold Rel
    exact ⟨p, xs, rfl, SqT.of upd_same, RelL.mono (Same.new (I.fnone hp)) r⟩
theorem s_for (hp : PassesOwn (model X.prog X.w) X.A X.env X.xe) (hc : X.calm = true) (hi : DI X W tg iter it) (hg : DG X W tg gd) (hb : DSs X W body sd)
    (hs : ∀ x, foldedSetIterable iter X.env x = pure x := by intro _; rfl) : DS X W (.For tg iter body [] pos) (sFor it gd sd) := (ps_for hp hc hi hg hb hs).imp fun D σ H ⟨G, Hf, δ, I, q⟩ => by
  refine ⟨G, Hf, δ, I, ?_⟩
  unfold sFor at q
  revert q
  cases it δ with
  | none => exact fun q => q.elim
  | some o =>
    cases o with
    | er x δ1 => exact fun q Hf' H' cls d a b c => q Hf' σ H' cls d a b c
    | ok items δ1 =>
      intro q Hf1 H1 J s1 I1 wk
      refine ⟨fun i m σ H => m = items.length - i ∧ i ≤ items.length ∧ ∃ Hf' δ', Same Hf1 Hf' ∧ IV X.K G Hf' σ H δ' ∧ SPost X.K X.mg W G Hf' (forL gd sd (items.drop i) δ') D, ⟨items.length, by simp, Nat.zero_le _, Hf1, δ1, Same.refl _, I1, q.up s1⟩, ?_⟩
      rintro i m σ H ⟨rfl, hi, Hf2, δ2, s2, I2, q2⟩
      by_cases hlt : i < items.length
      · refine .inr ⟨wk.go i H (s2.trans I2.sub) hlt, fun σ H => ∃ Hf' δ', Same Hf1 Hf' ∧ IV X.K G Hf' σ H δ' ∧ SPost X.K X.mg W G Hf' (forL gd sd (items.drop (i + 1)) δ') D, fun σ' H' h => ⟨items.length - (i + 1), by omega, rfl, hlt, h⟩, fun x H' y => ?_⟩
        have y' := wk.yld i items[i] H x H' (s2.trans I2.sub) (List.getElem?_eq_getElem hlt) y
        have y2 : Yl X.K Hf2 items[i] H x H' := by
          rcases y' with ⟨a, b⟩ | ⟨p, xs, ds, a, b, c, d, e⟩
          · exact .inl ⟨a, Rel.mono s2 b⟩
          · exact .inr ⟨p, xs, ds, a, b, c, d, RelL.mono s2 e⟩
        obtain ⟨Hf3, s3, I3, r3⟩ := y2.take I2
        rw [List.drop_eq_getElem_cons hlt] at q2
        unfold forL at q2
        revert q2
        cases hgd : gd (.fz items[i]) δ2 with
        | none => exact fun q => q.elim
        | some δ3 =>
          intro q2
          refine ⟨G, Hf3, δ2, .fz items[i], δ3, I3, r3, hgd, fun Hf4 σ4 H4 s4 I4 => ⟨G, Hf4, δ3, I4, ?_⟩⟩
          replace q2 := q2.up (s3.trans s4)
          revert q2
          dsimp only
          cases sd δ3 with
          | none => exact fun q => q.elim
          | some o =>
            cases o with
            | nx δ5 => exact fun q Hf5 σ5 H5 s5 I5 => ⟨Hf5, δ5, ((s2.trans s3).trans s4).trans s5, I5, q.up s5⟩
            | ct δ5 => exact fun q Hf5 σ5 H5 s5 I5 => ⟨Hf5, δ5, ((s2.trans s3).trans s4).trans s5, I5, q.up s5⟩
            | bk δ5 => exact fun q => q
            | rt r δ5 => exact fun q => q
            | er x δ5 => exact fun q => q
      · have e : i = items.length := by omega
        subst e
        rw [List.drop_length] at q2
        exact .inl ⟨wk.stop H (s2.trans I2.sub), q2 Hf2 σ H (Same.refl _) I2⟩
end
end Dn

namespace Dn
open PySem PySem.Spec L2
open PyProof.Rows (envOfC)

/-! ## what is walked: lists and tuples, ranges, enumerate, zip -/
def iSeq (K : PySem.W.Frag) (tl : TE) : TI := fun σ H R => tl σ H fun x H1 => ∃ a, x = .ref a ∧ (((∃ xs, SqL K H1 a xs) ∧ R (Itl K a) H1) ∨ ((∃ xs, SqT K H1 a xs) ∧ R (Itt K a) H1))
theorem pi_seq {X : Cx} {tg l : Expr} {tl : TE} (hl : PE X l tl) : PI X tg l (iSeq X.K tl) := by
  refine ⟨fun pins s σ H R I h => ?_⟩
  refine thn (hl.run pins s σ H _ I h) fun v s1 ⟨x, H1, I1, r1, q1⟩ => ?_
  obtain ⟨a, e, ⟨⟨xs, hq⟩, q⟩ | ⟨⟨xs, hq⟩, q⟩⟩ := q1
  · subst e
    cases r1
    obtain ⟨its, rv, p, hz⟩ := I1.list hq
    refine wpAny_pyIter_list p.isList ?_
    refine ⟨s1.heap.objs.size, [s1.heap.objs.size], _, _, H1, rfl, I1.kept (t' := s1.toks) fun b o e => Heap.get?_push_of_some _ e, turn_list a _, ⟨_, Heap.get?_push_size _ rfl, rfl, rfl⟩, fun b hb => ?_, q⟩
    have e : b = s1.heap.objs.size := by simpa using hb
    subst e
    exact I1.fpOk (Nat.le_refl _) (I1.hok.fresh (Nat.le_refl _))
  · subst e
    cases r1
    obtain ⟨its, rv, p, hz⟩ := I1.tuple hq
    refine wpAny_pyIter_tuple (show s1.heap.IsTuple a its.toArray from p) ?_
    refine ⟨s1.heap.objs.size, [s1.heap.objs.size], _, _, H1, rfl, I1.kept (t' := s1.toks) fun b o e => Heap.get?_push_of_some _ e, turn_tuple a _, ⟨_, Heap.get?_push_size _ rfl, rfl, rfl⟩, fun b hb => ?_, q⟩
    have e : b = s1.heap.objs.size := by simpa using hb
    subst e
    exact I1.fpOk (Nat.le_refl _) (I1.hok.fresh (Nat.le_refl _))

section
variable {K : PySem.W.Frag} {mg : Str → Option Value} {W : WT} {C : Cst} {G : Gh C} {Hf Hf' : Hp} {σ : L2.St} {H H' : Hp} {δ δ' : List Sl} {v : V}
theorem Walk.list {a : Addr} {xs : List V} {ds : List D} (h : SqL K Hf a xs) (r : RelL K Hf ds xs) : Walk K (Itl K a) Hf ds where
  go := fun i H s hi => ⟨xs, xs[i]'(by rw [r.length]; exact hi), Same.sql s h, by simp⟩
  stop := fun H s => ⟨xs, Same.sql s h, by rw [r.length]; exact Nat.le_refl _⟩
  yld := fun i d H x H' s hd ⟨e, y⟩ => by
    obtain ⟨z, h1, h2⟩ := r.get hd
    have := y xs (Same.sql s h)
    rw [h1] at this
    cases this
    exact .inl ⟨e, h2⟩
theorem Walk.tup {a : Addr} {xs : List V} {ds : List D} (h : SqT K Hf a xs) (r : RelL K Hf ds xs) : Walk K (Itt K a) Hf ds where
  go := fun i H s hi => ⟨xs, xs[i]'(by rw [r.length]; exact hi), Same.sqt s h, by simp⟩
  stop := fun H s => ⟨xs, Same.sqt s h, by rw [r.length]; exact Nat.le_refl _⟩
  yld := fun i d H x H' s hd ⟨e, y⟩ => by
    obtain ⟨z, h1, h2⟩ := r.get hd
    have := y xs (Same.sqt s h)
    rw [h1] at this
    cases this
    exact .inl ⟨e, h2⟩
def rangeD (lo : Int) (n : Nat) : List D := (List.range n).map fun i => D.int (lo + (i : Nat))
theorem Walk.range {lo : Int} {n : Nat} : Walk K (Itr lo n) Hf (rangeD lo n) where
  go := fun i H s hi => by
    show i < n
    simpa [rangeD] using hi
  stop := fun H s => by show n ≤ _; simp [rangeD]
  yld := fun i d H x H' s hd ⟨e, y⟩ => by
    refine .inl ⟨e, ?_⟩
    simp only [rangeD, List.getElem?_map] at hd
    cases h : (List.range n)[i]? with
    | none => rw [h] at hd; cases hd
    | some j =>
      rw [h] at hd
      have : j = i := by
        obtain ⟨h1, h2⟩ := List.getElem?_eq_some_iff.mp h
        simpa using h2.symm
      subst this
      cases hd
      exact y
def enumD (ds : List D) : List D := ds.zipIdx.map fun p => D.tup [.int (p.2 : Nat), p.1]
theorem Walk.enum {a : Addr} {xs : List V} {ds : List D} (h : SqL K Hf a xs) (r : RelL K Hf ds xs) : Walk K (Ite K a) Hf (enumD ds) where
  go := fun i H s hi => ⟨xs, xs[i]'(by rw [r.length]; simpa [enumD] using hi), Same.sql s h, by simp⟩
  stop := fun H s => ⟨xs, Same.sql s h, by rw [r.length]; simp [enumD]⟩
  yld := fun i d H x H' s hd ⟨T, z, e1, e2, e3, y⟩ => by
    simp only [enumD, List.getElem?_map, List.getElem?_zipIdx, Nat.zero_add] at hd
    cases h1 : ds[i]? with
    | none => rw [h1] at hd; cases hd
    | some d' =>
      rw [h1] at hd
      cases hd
      obtain ⟨w, h2, h3⟩ := r.get h1
      have := y xs (Same.sql s h)
      rw [h2] at this
      cases this
      exact .inr ⟨T, _, _, e2, e3, e1, rfl, RelL.cons rfl (RelL.cons h3 RelL.nil)⟩
def zipD (ds es : List D) : List D := List.zipWith (fun a b => D.tup [a, b]) ds es
theorem Walk.zipL {a b : Addr} {xs ys : List V} {ds es : List D} (h : SqL K Hf a xs) (r : RelL K Hf ds xs) (h' : SqL K Hf b ys) (r' : RelL K Hf es ys) : Walk K (Itz K a b) Hf (zipD ds es) where
  go := fun i H s hi => by
    have hi : i < ds.length ∧ i < es.length := by simpa [zipD, Nat.lt_min] using hi
    exact ⟨xs, ys, xs[i]'(by rw [r.length]; exact hi.1), ys[i]'(by rw [r'.length]; exact hi.2), Same.sql s h, Same.sql s h', by simp, by simp⟩
  stop := fun H s => ⟨xs, ys, Same.sql s h, Same.sql s h', by rw [r.length, r'.length]; simp only [zipD, List.length_zipWith]; omega⟩
  yld := fun i d H x H' s hd ⟨T, z, w, e1, e2, e3, y, y'⟩ => by
    simp only [zipD, List.getElem?_zipWith] at hd
    cases h1 : ds[i]? with
    | none => rw [h1] at hd; cases hd
    | some d1 =>
      cases h2 : es[i]? with
      | none => rw [h1, h2] at hd; cases hd
      | some d2 =>
        rw [h1, h2] at hd
        cases hd
        obtain ⟨w1, a1, a2⟩ := r.get h1
        obtain ⟨w2, b1, b2⟩ := r'.get h2
        have q := y xs (Same.sql s h)
        rw [a1] at q
        cases q
        have q := y' ys (Same.sql s h')
        rw [b1] at q
        cases q
        exact .inr ⟨T, _, _, e2, e3, e1, rfl, RelL.cons a2 (RelL.cons b2 RelL.nil)⟩
theorem Walk.zipT {a b : Addr} {xs ys : List V} {ds es : List D} (h : SqT K Hf a xs) (r : RelL K Hf ds xs) (h' : SqT K Hf b ys) (r' : RelL K Hf es ys) : Walk K (RZ.ItzT K a b) Hf (zipD ds es) where
  go := fun i H s hi => by
    have hi : i < ds.length ∧ i < es.length := by simpa [zipD, Nat.lt_min] using hi
    exact ⟨xs, ys, xs[i]'(by rw [r.length]; exact hi.1), ys[i]'(by rw [r'.length]; exact hi.2), Same.sqt s h, Same.sqt s h', by simp, by simp⟩
  stop := fun H s => ⟨xs, ys, Same.sqt s h, Same.sqt s h', by rw [r.length, r'.length]; simp only [zipD, List.length_zipWith]; omega⟩
  yld := fun i d H x H' s hd ⟨T, z, w, e1, e2, e3, y, y'⟩ => by
    simp only [zipD, List.getElem?_zipWith] at hd
    cases h1 : ds[i]? with
    | none => rw [h1] at hd; cases hd
    | some d1 =>
      cases h2 : es[i]? with
      | none => rw [h1, h2] at hd; cases hd
      | some d2 =>
        rw [h1, h2] at hd
        cases hd
        obtain ⟨w1, a1, a2⟩ := r.get h1
        obtain ⟨w2, b1, b2⟩ := r'.get h2
        have q := y xs (Same.sqt s h)
        rw [a1] at q
        cases q
        have q := y' ys (Same.sqt s h')
        rw [b1] at q
        cases q
        exact .inr ⟨T, _, _, e2, e3, e1, rfl, RelL.cons a2 (RelL.cons b2 RelL.nil)⟩
theorem Walk.map_up {J : It} {items : List D} (w : Walk K J Hf items) (s : Same Hf Hf') : Walk K J Hf' items where
  go := fun i H a hi => w.go i H (s.trans a) hi
  stop := fun H a => w.stop H (s.trans a)
  yld := fun i d H x H' a hd y => by
    rcases w.yld i d H x H' (s.trans a) hd y with ⟨e, r⟩ | ⟨p, xs, ds, e1, e2, e3, e4, r⟩
    · exact .inl ⟨e, Rel.mono s r⟩
    · exact .inr ⟨p, xs, ds, e1, e2, e3, e4, RelL.mono s r⟩
end
def itSeq (e : ED) : ID := fun δ => match e δ with
  | none => none
  | some (.er x δ1) => some (.er x δ1)
  | some (.ok r δ1) => match r.settle δ1 with
    | some (.lst ds, δ2) => some (.ok ds δ2)
    | some (.tup ds, δ2) => some (.ok ds δ2)
    | some (.scr ds, δ2) => some (.ok ds δ2)
    | _ => none
def itArgs (a : AD) (f : List D → Option (List D)) : ID := fun δ => match a δ with
  | none => none
  | some (.er x δ1) => some (.er x δ1)
  | some (.ok rs δ1) => match settleL rs δ1 with
    | none => none
    | some (ds, δ2) => match f ds with
      | none => none
      | some its => some (.ok its δ2)
def fR1 : List D → Option (List D)
  | [.int j] => if -(2 ^ 62) ≤ j ∧ j < 2 ^ 62 then some (rangeD 0 j.toNat) else none
  | _ => none
def fR2 : List D → Option (List D)
  | [.int i, .int j] => if -(2 ^ 62) ≤ i ∧ i < 2 ^ 62 ∧ -(2 ^ 62) ≤ j ∧ j < 2 ^ 62 then some (rangeD i (j - i).toNat) else none
  | _ => none
def fEnum : List D → Option (List D)
  | [.lst ds] => some (enumD ds)
  | _ => none
def fZip : List D → Option (List D)
  | [.lst ds, .lst es] => some (zipD ds es)
  | [.tup ds, .tup es] => some (zipD ds es)
  | _ => none
section
variable {X : Cx} {W : WT} {e tg : Expr} {ed : ED} {ad : AD} {pos p : Pos} {es : List Expr}
theorem di_seq (h : DE X W e ed) : DI X W tg e (itSeq ed) := (pi_seq h).imp fun σ H R ⟨G, Hf, δ, I, q⟩ => by
  refine ⟨G, Hf, δ, I, ?_⟩
  unfold itSeq at q
  revert q
  cases ed δ with
  | none => exact fun q => q.elim
  | some o =>
    cases o with
    | er x δ1 => exact fun q => q
    | ok r δ1 =>
      intro q Hf1 H1 v s1 I1 r1
      dsimp only at q
      split at q
      · rename_i ds δ2 h2
        obtain ⟨Hf2, s2, I2, r2, _⟩ := I1.settle r1 h2
        unfold Rel at r2
        obtain ⟨a, xs, rfl, h3, h4⟩ := r2
        exact ⟨a, rfl, .inl ⟨⟨xs, SqL.of (I2.sub _ _ h3)⟩, q Hf2 H1 _ (s1.trans s2) I2 (Walk.list (SqL.of h3) h4)⟩⟩
      · rename_i ds δ2 h2
        obtain ⟨Hf2, s2, I2, r2, _⟩ := I1.settle r1 h2
        unfold Rel at r2
        obtain ⟨a, xs, rfl, h3, h4⟩ := r2
        exact ⟨a, rfl, .inr ⟨⟨xs, Same.sqt I2.sub h3⟩, q Hf2 H1 _ (s1.trans s2) I2 (Walk.tup h3 h4)⟩⟩
      · rename_i ds δ2 h2
        obtain ⟨Hf2, s2, I2, r2, _⟩ := I1.settle r1 h2
        unfold Rel at r2
        obtain ⟨a, xs, rfl, h3, h4⟩ := r2
        exact ⟨a, rfl, .inl ⟨⟨xs, Same.sql I2.sub h3⟩, q Hf2 H1 _ (s1.trans s2) I2 (Walk.list h3 h4)⟩⟩
      · exact q.elim
theorem rd_args {f : List D → Option (List D)} {σ : L2.St} {H : Hp} {R : It → Hp → Prop} (h : rdI X.K X.mg W (itArgs ad f) σ H R) {T : List V → Hp → Prop}
    (k : ∀ (ds its : List D) (vs : List V) (Hf H : Hp), Same Hf H → RelL X.K Hf ds vs → f ds = some its → (∀ J, Walk X.K J Hf its → R J H) → T vs H) : rdA X.K X.mg W ad σ H T := by
  obtain ⟨G, Hf, δ, I, q⟩ := h
  refine ⟨G, Hf, δ, I, ?_⟩
  unfold itArgs at q
  revert q
  cases ad δ with
  | none => exact fun q => q.elim
  | some o =>
    cases o with
    | er x δ1 => exact fun q => q
    | ok rs δ1 =>
      intro q Hf1 H1 vs s1 I1 hl pl
      dsimp only at q
      split at q
      · exact q.elim
      · rename_i ds δ2 h2
        obtain ⟨Hf2, s2, I2, r2⟩ := I1.settleL hl pl h2
        split at q
        · exact q.elim
        · rename_i its h3
          exact k ds its vs Hf2 H1 I2.sub r2 h3 fun J w => q Hf2 H1 J (s1.trans s2) I2 w
theorem di_R1 (h : PI X tg e (iRng1 (rdA X.K X.mg W ad))) : DI X W tg e (itArgs ad fR1) := h.imp fun σ H R q => rd_args q fun ds its vs Hf H s r e k => by
  unfold fR1 at e
  split at e
  · rename_i j
    split at e
    · rename_i hb
      cases e
      simp only [RelL, Rel] at r
      obtain ⟨_, _, rfl, rfl, rfl⟩ := r
      exact ⟨j, rfl, hb.1, hb.2, k _ Walk.range⟩
    · cases e
  · cases e
theorem di_R2 (h : PI X tg e (iRng2 (rdA X.K X.mg W ad))) : DI X W tg e (itArgs ad fR2) := h.imp fun σ H R q => rd_args q fun ds its vs Hf H s r e k => by
  unfold fR2 at e
  split at e
  · rename_i i j
    split at e
    · rename_i hb
      cases e
      simp only [RelL, Rel] at r
      obtain ⟨_, _, rfl, rfl, _, _, rfl, rfl, rfl⟩ := r
      exact ⟨i, j, rfl, hb, k _ Walk.range⟩
    · cases e
  · cases e
theorem di_enum (h : PI X tg e (iEnum X.K (rdA X.K X.mg W ad))) : DI X W tg e (itArgs ad fEnum) := h.imp fun σ H R q => rd_args q fun ds its vs Hf H s r e k => by
  unfold fEnum at e
  split at e
  · cases e
    simp only [RelL, Rel] at r
    obtain ⟨_, _, rfl, ⟨a, xs, rfl, h1, h2⟩, rfl⟩ := r
    exact ⟨a, xs, rfl, SqL.of (s _ _ h1), k _ (Walk.enum (SqL.of h1) h2)⟩
  · cases e
theorem di_zip (h : PI X tg e (RZ.iZipA X.K (rdA X.K X.mg W ad))) : DI X W tg e (itArgs ad fZip) := h.imp fun σ H R q => rd_args q fun ds its vs Hf H s r e k => by
  unfold fZip at e
  split at e
  · cases e
    simp only [RelL, Rel] at r
    obtain ⟨_, _, rfl, ⟨a, xs, rfl, h1, h2⟩, _, _, rfl, ⟨b, ys, rfl, h3, h4⟩, rfl⟩ := r
    exact ⟨a, b, xs, ys, rfl, .inl ⟨SqL.of (s _ _ h1), SqL.of (s _ _ h3), k _ (Walk.zipL (SqL.of h1) h2 (SqL.of h3) h4)⟩⟩
  · cases e
    simp only [RelL, Rel] at r
    obtain ⟨_, _, rfl, ⟨a, xs, rfl, h1, h2⟩, _, _, rfl, ⟨b, ys, rfl, h3, h4⟩, rfl⟩ := r
    exact ⟨a, b, xs, ys, rfl, .inr ⟨Same.sqt s h1, Same.sqt s h3, k _ (Walk.zipT h1 h2 h3 h4)⟩⟩
  · cases e
end

/-! ## defs -/
inductive FO where
  | ret (d : D) | retL (ds : List D) | er (x : Ex)
abbrev FS := List D → Option FO
abbrev TbL := List (Addr × Str)
structure Gr (T : TbL) (Hf H Hf' H' : Hp) : Prop where
  f : Same Hf Hf'
  s : Sb Hf' H'
  k : ExtN H H'
  n : ∀ b, Hf b = none → Hf' b ≠ none → nt H b = none
  t : LamX.Tabs T H'
def FPost (K : PySem.W.Frag) (mg : Str → Option Value) (T : TbL) (Hf H : Hp) (o : Option FO) (Q : VK) (E : XK) : Prop :=
  match o with
  | none => False
  | some (.ret d) => ∀ Hf' H' v, Gr T Hf H Hf' H' → Rel K Hf' d v → Q v H'
  | some (.retL ds) => ∀ Hf' H' p vs, Gr T Hf H Hf' H' → nt H p = none → H' p = some (.lst vs) → Hf' p = none → RelL K Hf' ds vs → Q (.ref p) H'
  | some (.er x) => ∀ Hf' H' cls d, Gr T Hf H Hf' H' → ExR K mg Hf' H' x cls d → E cls d H'
def spF (K : PySem.W.Frag) (mg : Str → Option Value) (T : TbL) (n : Nat) (sem : FS) : Sp := fun vs H Q E => ∃ Hf ds, Sb Hf H ∧ RelL K Hf ds vs ∧ ds.length = n ∧ LamX.Tabs T H ∧ FPost K mg T Hf H (sem ds) Q E
/-- .. whose first argument is a list that it may write -/
abbrev FSio := List D → Option (FO × List D)
structure GrIo (T : TbL) (p : Addr) (Hf H Hf' H' : Hp) : Prop where
  f : Same Hf Hf'
  s : Sb Hf' H'
  k : ∀ b o, b ≠ p → H b = some o → (∀ ps, o ≠ .tbl ps) → H' b = some o
  n : ∀ b, Hf b = none → Hf' b ≠ none → nt H b = none
  t : LamX.Tabs T H'
def FPostIo (K : PySem.W.Frag) (mg : Str → Option Value) (T : TbL) (p : Addr) (Hf H : Hp) (o : Option (FO × List D)) (Q : VK) (E : XK) : Prop :=
  match o with
  | none => False
  | some (.ret d, dh) => ∀ Hf' H' v hs, GrIo T p Hf H Hf' H' → H' p = some (.lst hs) → Hf' p = none → RelL K Hf' dh hs → Rel K Hf' d v → Q v H'
  | some (.retL ds, dh) => ∀ Hf' H' q vs hs, GrIo T p Hf H Hf' H' → H' p = some (.lst hs) → Hf' p = none → RelL K Hf' dh hs → nt H q = none → H' q = some (.lst vs) → Hf' q = none → RelL K Hf' ds vs → Q (.ref q) H'
  | some (.er x, dh) => ∀ Hf' H' cls d hs, GrIo T p Hf H Hf' H' → H' p = some (.lst hs) → Hf' p = none → RelL K Hf' dh hs → ExR K mg Hf' H' x cls d → E cls d H'
def spIo (K : PySem.W.Frag) (mg : Str → Option Value) (T : TbL) (n : Nat) (sem : FSio) : Sp := fun vs H Q E => ∃ Hf p hs dh ds rest, vs = .ref p :: rest ∧ Sb Hf H ∧ Hf p = none ∧ H p = some (.lst hs) ∧ RelL K Hf dh hs ∧ RelL K Hf ds rest ∧ ds.length + 1 = n ∧ LamX.Tabs T H ∧ FPostIo K mg T p Hf H (sem (.lst dh :: ds)) Q E
/-- what a body gives at its parameters: m names, n of them parameters -/
def semF (m n : Nat) (sd : SD) : FS := fun ds => if ds.length = n then
    match sd (ds.map Sl.fz ++ List.replicate (m - n) Sl.no) with
    | some (.nx _) => some (.ret .non)
    | some (.rt r δ) => match r with
      | .fz d => some (.ret d)
      | .fresh ds => some (.retL ds)
      | .slot i => match δ[i]? with
        | some (.own ds) => some (.retL ds)
        | some (.fz d) => some (.ret d)
        | _ => none
    | some (.er x _) => some (.er x)
    | _ => none
  else none
def semIo (m n : Nat) (sd : SD) : FSio := fun as => match as with
  | .lst dh :: ds => if ds.length + 1 = n then
    match sd (Sl.io dh :: (ds.map Sl.fz ++ List.replicate (m - n) Sl.no)) with
    | some (.nx (.io dh' :: _)) => some (.ret .non, dh')
    | some (.rt r (.io dh' :: δ)) => match r with
      | .fz d => some (.ret d, dh')
      | .fresh ds => some (.retL ds, dh')
      | .slot i => match (Sl.io dh' :: δ)[i]? with
        | some (.own ds) => some (.retL ds, dh')
        | some (.fz d) => some (.ret d, dh')
        | _ => none
    | some (.er x (.io dh' :: _)) => some (.er x, dh')
    | _ => none
    else none
  | _ => none
section
variable {P : Program} {w : World} {K : PySem.W.Frag} {mg : Str → Option Value} {base : Heap} {C : Cst}
theorem iv_start {H Hf : Hp} {ds : List D} {vs : List V} {m : Nat} (s : Sb Hf H) (r : RelL K Hf ds vs) (t : LamX.Tabs C.tabs H) : IV K (⟨nt H, nt_noT, Hf, fun _ => none⟩ : Gh C) Hf (vs.map some ++ List.replicate m none) H (ds.map Sl.fz ++ List.replicate m Sl.no) := by
  have hl := r.length
  refine ⟨by simp [hl], s, Same.refl _, fun b h => .inl h, fun b o e _ => (of_nt e).1, fun b h => nt_none h, fun i t h => ?_, fun i j t u q nij a1 a2 => ?_, fun i p h => (by cases h), t⟩
  · by_cases hi : i < ds.length
    · rw [List.getElem?_append_left (by simpa using hi), List.getElem?_map, List.getElem?_eq_getElem hi] at h
      cases h
      obtain ⟨x, h1, h2⟩ := r.get (List.getElem?_eq_getElem hi)
      exact ⟨some x, by rw [List.getElem?_append_left (by simpa [hl] using hi), List.getElem?_map, h1]; rfl, rfl, x, rfl, h2⟩
    · rw [List.getElem?_append_right (by simpa using hi), List.getElem?_replicate] at h
      split at h
      · cases h
        rename_i hlt
        refine ⟨none, ?_, rfl⟩
        rw [List.getElem?_append_right (by simp; omega), List.getElem?_replicate, if_pos (by simp at hlt ⊢; omega)]
      · cases h
  · exfalso
    by_cases hi : i < ds.length
    · rw [List.getElem?_append_left (by simpa using hi), List.getElem?_map, List.getElem?_eq_getElem hi] at a1
      cases a1; cases a2
    · rw [List.getElem?_append_right (by simpa using hi), List.getElem?_replicate] at a1
      split at a1
      · cases a1; cases a2
      · cases a1
theorem iv_startIo {H Hf : Hp} {p : Addr} {hs : List V} {dh ds : List D} {vs : List V} {m : Nat} (s : Sb Hf H) (hp : H p = some (.lst hs)) (fp : Hf p = none) (rh : RelL K Hf dh hs) (r : RelL K Hf ds vs) (t : LamX.Tabs C.tabs H) :
    IV K (⟨nt H, nt_noT, Hf, fun i => if i = 0 then some p else none⟩ : Gh C) Hf (some (.ref p) :: (vs.map some ++ List.replicate m none)) H (Sl.io dh :: (ds.map Sl.fz ++ List.replicate m Sl.no)) := by
  have I := iv_start (m := m) s r t
  refine ⟨by simp [r.length], s, Same.refl _, fun b h => .inl h, fun b o e _ => (of_nt e).1, fun b h => nt_none h, fun i t h => ?_, fun i j t u q nij a1 a2 a3 a4 => ?_, fun i q h => ?_, t⟩
  · cases i with
    | zero =>
      simp at h
      subst h
      exact ⟨_, rfl, p, hs, rfl, rfl, hp, rh, fp⟩
    | succ i =>
      simp only [List.getElem?_cons_succ] at h ⊢
      obtain ⟨o, e, q⟩ := I.sl i t h
      refine ⟨o, e, ?_⟩
      cases t with
      | no => rfl
      | exn => exact ⟨rfl, q.2⟩
      | fz d => exact ⟨rfl, q.2⟩
      | own es =>
        exfalso
        obtain ⟨_, _, _, _, _⟩ := I.own_some h rfl
        by_cases hi : i < ds.length
        · rw [List.getElem?_append_left (by simpa using hi), List.getElem?_map, List.getElem?_eq_getElem hi] at h
          cases h
        · rw [List.getElem?_append_right (by simpa using hi), List.getElem?_replicate] at h
          split at h <;> cases h
      | io es =>
        exfalso
        by_cases hi : i < ds.length
        · rw [List.getElem?_append_left (by simpa using hi), List.getElem?_map, List.getElem?_eq_getElem hi] at h
          cases h
        · rw [List.getElem?_append_right (by simpa using hi), List.getElem?_replicate] at h
          split at h <;> cases h
  · have no : ∀ (j : Nat) (t : Sl), (ds.map Sl.fz ++ List.replicate m Sl.no)[j]? = some t → t.isOwn = true → False := fun j t h ho => by
      by_cases hi : j < ds.length
      · rw [List.getElem?_append_left (by simpa using hi), List.getElem?_map, List.getElem?_eq_getElem hi] at h
        cases h; cases ho
      · rw [List.getElem?_append_right (by simpa using hi), List.getElem?_replicate] at h
        split at h <;> cases h
        cases ho
    cases i with
    | succ i => exact (no i t (by simpa using a1) a2).elim
    | zero =>
      cases j with
      | zero => exact absurd rfl nij
      | succ j => exact (no j u (by simpa using a3) a4).elim
  · cases i with
    | zero => exact ⟨dh, rfl⟩
    | succ i => cases h
theorem start_eq {N : List Str} {vs : List V} {n : Nat} (h : vs.length = n) : L2.start N vs = vs.map some ++ List.replicate (N.length - n) none := by unfold L2.start; rw [h]
/-- a def keeps its promise wherever no guard runs -/
structure FnG (P : Program) (w : World) (K : PySem.W.Frag) (mg : Str → Option Value) (base : Heap) (k : Nat) (f : Addr) (fd : FuncData) (ps : List Str) (sp : Sp) : Prop where
  len : ∀ vs H Q E, sp vs H Q E → vs.length = ps.length
  run : ∀ (A : Around) (outer : List Env) (s : Shared) (H : Hp) (args : Args) (us : List Value) (vs : List V) (Q : VK) (E : XK), Room k A → A.guards = some [] → Env0 P w K mg base A outer s H →
    BindsTo s fd args (ps.zip us) → Vals vs us → sp vs H Q E → codeAny (model P w) A (.call (.ref f) args) (CR (L2.CX P w) outer P w H s Q E) s
theorem fnG_of {x qual : Str} {st : Stmt} {f : Addr} {fd : FuncData} {N ps : List Str} {k : Nat} {sp : Sp} (F : Fun K x qual st f fd) (S : FnScope N ps (defScope st)) (len : ∀ vs H Q E, sp vs H Q E → vs.length = ps.length)
    (hb : ∀ (cdv : Value) (A : Around) (outer : List Env) (s : Shared) (H : Hp) (vs : List V) (Q : VK) (E : XK), Room k (A.deeper (envOfC qual (defScope st) s.heap.objs.size f cdv)) → A.guards = some [] → sp vs H Q E →
      ∃ t, PSs (cxOf (L2.CX P w) P w K mg base N qual (defScope st) f cdv A outer s H E) (defBody st) t ∧ t { nx := fun _ H' => Q .non H', rt := Q } (L2.start N vs) H) : FnG P w K mg base (k + 1) f fd ps sp := by
  obtain ⟨oc, od, kV, doc, pm, an, cdv, ct, osl, rfl, lk, hcd⟩ := F.ex
  exact ⟨len, fun A outer s H args us vs Q E hr hg e0 hbd r h => LamX.run_ofS lk hcd S hr e0 hbd r (len _ _ _ _ h) fun hr' => hb cdv A outer s H vs Q E hr' hg h⟩
/-- the wish of a body about exceptions -/
abbrev wE (T : TbL) (E : XK) : WT := ⟨fun cls d _ H => E cls d H, ⟨T, 0⟩⟩
theorem gr_of {Hf H Hf' H' : Hp} {σ : L2.St} {δ : List Sl} (I : IV K (⟨nt H, nt_noT, Hf, fun _ => none⟩ : Gh C) Hf' σ H' δ) : Gr C.tabs Hf H Hf' H' :=
  ⟨I.f0s, I.subN, fun b o e n => I.frame b o (nt_of e n) (fun i z => nomatch z), fun b h1 h2 => (I.hf0 b h2).elim (fun z => absurd h1 z) fun z => z, I.tab⟩
theorem grIo_of {p : Addr} {Hf H Hf' H' : Hp} {σ : L2.St} {δ : List Sl} (I : IV K (⟨nt H, nt_noT, Hf, fun i => if i = 0 then some p else none⟩ : Gh C) Hf' σ H' δ) : GrIo C.tabs p Hf H Hf' H' :=
  ⟨I.f0s, I.subN, fun b o n e nn => I.frame b o (nt_of e nn) (fun i z => by
    have z : (if i = 0 then some p else none) = some b := z
    split at z
    · cases z; exact n rfl
    · cases z), fun b h1 h2 => (I.hf0 b h2).elim (fun z => absurd h1 z) fun z => z, I.tab⟩
theorem fnF_body {qual : Str} {sc : Scope} {body : List Stmt} {f : Addr} {cdv : Value} {A : Around} {outer : List Env} {s : Shared} {H : Hp} {E : XK} {Q : VK} {vs : List V} {N : List Str} {n : Nat} {sd : SD} {T : TbL} (hb : DSs (cxOf (L2.CX P w) P w K mg base N qual sc f cdv A outer s H E) (wE T E) body sd)
    (h : spF K mg T n (semF N.length n sd) vs H Q E) : ∃ t, PSs (cxOf (L2.CX P w) P w K mg base N qual sc f cdv A outer s H E) body t ∧ t { nx := fun _ H' => Q .non H', rt := Q } (L2.start N vs) H := by
  obtain ⟨Hf, ds, s1, r, hl, tT, q⟩ := h
  refine ⟨_, hb, ?_⟩
  have hv : vs.length = n := by rw [r.length, hl]
  rw [start_eq hv]
  refine ⟨_, Hf, _, iv_start s1 r tT, ?_⟩
  show SPost K mg (wE T E) _ Hf (sd (ds.map Sl.fz ++ List.replicate (N.length - n) Sl.no)) _
  unfold semF at q
  rw [if_pos hl] at q
  revert q
  cases sd (ds.map Sl.fz ++ List.replicate (N.length - n) Sl.no) with
  | none => exact fun q => q.elim
  | some o =>
    cases o with
    | nx δ1 => exact fun q Hf' σ' H' s' I' => q Hf' H' .non (gr_of (C := ⟨T, 0⟩) I') rfl
    | bk δ1 => exact fun q => q.elim
    | ct δ1 => exact fun q => q.elim
    | er x δ1 => exact fun q Hf' σ' H' cls d s' I' e' => q Hf' H' cls d (gr_of (C := ⟨T, 0⟩) I') e'
    | rt r δ1 =>
      intro q Hf' σ' H' v s' I' r'
      dsimp only at q
      have g : Gr T Hf H Hf' H' := gr_of (C := ⟨T, 0⟩) I'
      cases r with
      | fz d => exact q Hf' H' v g r'
      | fresh es =>
        obtain ⟨p, rfl, vs', h1, h2, h3, h4, h5, h6⟩ := r'
        exact q Hf' H' p vs' g h4 h1 h3 h2
      | slot i =>
        dsimp only at q
        have hv' : σ'[i]? = some (some v) := r'
        split at q
        · rename_i es hd
          obtain ⟨p, vs', ds', e1, h1, h2, h3, h4⟩ := I'.own_some hd rfl
          rw [hv'] at e1; cases e1
          rcases h4 with ⟨z, h4, _⟩ | ⟨z, _⟩ <;> cases z
          exact q Hf' H' p vs' g h4 h1 h3 h2
        · rename_i d hd
          obtain ⟨o, e1, _, v', rfl, r1⟩ := I'.sl i _ hd
          rw [hv'] at e1; cases e1
          exact q Hf' H' v g r1
        · exact q.elim
/-- THE RULE for a def of pure arguments -/
theorem fnF {x qual : Str} {st : Stmt} {f : Addr} {fd : FuncData} {N ps : List Str} {k n : Nat} {sd : SD} {T : TbL} (F : Fun K x qual st f fd) (S : FnScope N ps (defScope st)) (hn : ps.length = n)
    (hb : ∀ (cdv : Value) (A : Around) (outer : List Env) (s : Shared) (H : Hp) (E : XK), Room k (A.deeper (envOfC qual (defScope st) s.heap.objs.size f cdv)) → A.guards = some [] →
      DSs (cxOf (L2.CX P w) P w K mg base N qual (defScope st) f cdv A outer s H E) (wE T E) (defBody st) sd) : FnG P w K mg base (k + 1) f fd ps (spF K mg T n (semF N.length n sd)) := by
  refine fnG_of F S (fun vs H Q E ⟨Hf, ds, _, r, hl, _⟩ => by rw [r.length, hl, hn]) (fun cdv A outer s H vs Q E hr hgA h => ?_)
  exact fnF_body (hb cdv A outer s H E hr hgA) h
theorem fnIo_body {qual : Str} {sc : Scope} {body : List Stmt} {f : Addr} {cdv : Value} {A : Around} {outer : List Env} {s : Shared} {H : Hp} {E : XK} {Q : VK} {vs : List V} {N : List Str} {n : Nat} {sd : SD} {T : TbL} (hb : DSs (cxOf (L2.CX P w) P w K mg base N qual sc f cdv A outer s H E) (wE T E) body sd)
    (h : spIo K mg T n (semIo N.length n sd) vs H Q E) : ∃ t, PSs (cxOf (L2.CX P w) P w K mg base N qual sc f cdv A outer s H E) body t ∧ t { nx := fun _ H' => Q .non H', rt := Q } (L2.start N vs) H := by
  obtain ⟨Hf, p, hs, dh, ds, rest, rfl, s1, fp, hp, rh, r, hl, tT, q⟩ := h
  refine ⟨_, hb, ?_⟩
  have hv : (V.ref p :: rest).length = n := by rw [List.length_cons, r.length, hl]
  rw [start_eq hv]
  refine ⟨_, Hf, _, iv_startIo s1 hp fp rh r tT, ?_⟩
  show SPost K mg (wE T E) _ Hf (sd (Sl.io dh :: (ds.map Sl.fz ++ List.replicate (N.length - n) Sl.no))) _
  unfold semIo at q
  dsimp only at q
  rw [if_pos hl] at q
  have top : ∀ {Hf' H' : Hp} {σ' : L2.St} {dh' : List D} {δ : List Sl}, IV K (⟨nt H, nt_noT, Hf, fun i => if i = 0 then some p else none⟩ : Gh ⟨T, 0⟩) Hf' σ' H' (Sl.io dh' :: δ) → ∃ hs', H' p = some (.lst hs') ∧ Hf' p = none ∧ RelL K Hf' dh' hs' := fun {Hf' H' σ' dh' δ} I => by
    obtain ⟨o, e, q, ws, h1, h2, h3, h4, h5⟩ := I.sl 0 _ rfl
    cases h1
    exact ⟨ws, h3, h5, h4⟩
  revert q
  cases sd (Sl.io dh :: (ds.map Sl.fz ++ List.replicate (N.length - n) Sl.no)) with
  | none => exact fun q => q.elim
  | some o =>
    cases o with
    | nx δ1 =>
      intro q Hf' σ' H' s' I'
      split at q
      · rename_i dh' δ' e
        cases e
        obtain ⟨hs', a, b, c⟩ := top I'
        exact q Hf' H' .non hs' (grIo_of (C := ⟨T, 0⟩) I') a b c rfl
      · rename_i e; cases e
      · rename_i e; cases e
      · exact q.elim
    | bk δ1 => exact fun q => q.elim
    | ct δ1 => exact fun q => q.elim
    | er x δ1 =>
      intro q Hf' σ' H' cls d s' I' e'
      split at q
      · rename_i e; cases e
      · rename_i e; cases e
      · rename_i dh' δ' e
        cases e
        obtain ⟨hs', a, b, c⟩ := top I'
        exact q Hf' H' cls d hs' (grIo_of (C := ⟨T, 0⟩) I') a b c e'
      · exact q.elim
    | rt r δ1 =>
      intro q Hf' σ' H' v s' I' r'
      split at q
      · rename_i e; cases e
      · rename_i r0 dh' δ' e
        cases e
        obtain ⟨hs', a, b, c⟩ := top I'
        have g : GrIo T p Hf H Hf' H' := grIo_of (C := ⟨T, 0⟩) I'
        cases r with
        | fz d => exact q Hf' H' v hs' g a b c r'
        | fresh es =>
          obtain ⟨p', rfl, vs', h1, h2, h3, h4, h5, h6⟩ := r'
          exact q Hf' H' p' vs' hs' g a b c h4 h1 h3 h2
        | slot i =>
          dsimp only at q
          have hv' : σ'[i]? = some (some v) := r'
          split at q
          · rename_i es hd
            obtain ⟨p', vs', ds', e1, h1, h2, h3, h4⟩ := I'.own_some hd rfl
            rw [hv'] at e1; cases e1
            rcases h4 with ⟨z, h4, _⟩ | ⟨z, _⟩ <;> cases z
            exact q Hf' H' p' vs' hs' g a b c h4 h1 h3 h2
          · rename_i d hd
            obtain ⟨o, e1, _, v', rfl, r1⟩ := I'.sl i _ hd
            rw [hv'] at e1; cases e1
            exact q Hf' H' v hs' g a b c r1
          · exact q.elim
      · rename_i e; cases e
      · exact q.elim
/-- .. of one that writes its first argument -/
theorem fnIo {x qual : Str} {st : Stmt} {f : Addr} {fd : FuncData} {N ps : List Str} {k n : Nat} {sd : SD} {T : TbL} (F : Fun K x qual st f fd) (S : FnScope N ps (defScope st)) (hn : ps.length = n)
    (hb : ∀ (cdv : Value) (A : Around) (outer : List Env) (s : Shared) (H : Hp) (E : XK), Room k (A.deeper (envOfC qual (defScope st) s.heap.objs.size f cdv)) → A.guards = some [] →
      DSs (cxOf (L2.CX P w) P w K mg base N qual (defScope st) f cdv A outer s H E) (wE T E) (defBody st) sd) : FnG P w K mg base (k + 1) f fd ps (spIo K mg T n (semIo N.length n sd)) := by
  refine fnG_of F S (fun vs H Q E ⟨Hf, p, hs, dh, ds, rest, e, _, _, _, _, r, hl, _⟩ => by rw [e, List.length_cons, r.length, hl, hn]) (fun cdv A outer s H vs Q E hr hgA h => ?_)
  exact fnIo_body (hb cdv A outer s H E hr hgA) h
end

/-! ## calls of one's own defs -/
def ERofF (o : Option FO) (δ : List Sl) : Option ER := match o with
  | none => none
  | some (.ret d) => some (.ok (.fz d) δ)
  | some (.retL ds) => some (.ok (.fresh ds) δ)
  | some (.er x) => some (.er x δ)
def eCall (sem : FS) (a : AD) : ED := fun δ => match a δ with
  | none => none
  | some (.er x δ1) => some (.er x δ1)
  | some (.ok rs δ1) => match settleL rs δ1 with
    | none => none
    | some (ds, δ2) => ERofF (sem ds) δ2
/-- the first argument a slot's list, lent -/
def eCallIo (sem : FSio) (a : AD) : ED := fun δ => match a δ with
  | none => none
  | some (.er x δ1) => some (.er x δ1)
  | some (.ok (.slot i :: rs) δ1) => match settleL rs δ1 with
    | none => none
    | some (ds, δ2) => match δ2[i]? with
      | some (.own dh) => match sem (.lst dh :: ds) with
        | none => none
        | some (o, dh') => ERofF (some o) (δ2.set i (.own dh'))
      | some (.io dh) => match sem (.lst dh :: ds) with
        | none => none
        | some (o, dh') => ERofF (some o) (δ2.set i (.io dh'))
      | _ => none
  | _ => none
section
variable {K : PySem.W.Frag} {mg : Str → Option Value} {W : WT} {C : Cst} {G : Gh C} {Hf Hf' : Hp} {σ : L2.St} {H H' : Hp} {δ δ' : List Sl} {v : V}
theorem IV.gr (I : IV K G Hf σ H δ) (g : Gr C.tabs Hf H Hf' H') : IV K G Hf' σ H' δ := I.grow g.f g.s g.k g.n g.t
theorem IV.lend (I : IV K G Hf σ H δ) {i : Nat} {s : Sl} {p : Addr} (hi : δ[i]? = some s) (ho : s.isOwn = true) (hv : σ[i]? = some (some (.ref p))) (g : GrIo C.tabs p Hf H Hf' H') {hs : List V} {dh : List D}
    (hp : H' p = some (.lst hs)) (fp : Hf' p = none) (r : RelL K Hf' dh hs) : IV K G Hf' σ H' (δ.set i (s.put dh)) := by
  obtain ⟨p', vs, ds, e1, h1, h2, h3, h4⟩ := I.own_some hi ho
  rw [hv] at e1; cases e1
  have I1 : IV K G Hf' σ (fun b => if b = p then H p else H' b) δ := by
    refine I.grow g.f (.of (fun b o e => ?_) g.s.noT) (fun b o e nn => ?_) g.n (tabs_upd g.t hp fun b hb => if_neg hb)
    · by_cases hb : b = p
      · subst hb; rw [fp] at e; cases e
      · show (if b = p then _ else _) = _
        rw [if_neg hb]; exact g.s.same b o e
    · show (if b = p then _ else _) = _
      by_cases hb : b = p
      · rw [if_pos hb, ← hb]; exact e
      · rw [if_neg hb]; exact g.k b o hb e nn
  have I2 := I1.write hi ho hv r
  have e : upd (fun b => if b = p then H p else H' b) p (.lst hs) = H' := by
    funext b
    by_cases hb : b = p
    · subst hb; rw [upd_same, hp]
    · rw [upd_ne hb, if_neg hb]
  rw [e] at I2
  exact I2
theorem IV.not_iaN {p : Addr} (I : IV K G Hf σ H δ) (h : nt H p = none) (j : Nat) : G.ia j ≠ some p := fun e => by
  obtain ⟨vs, w⟩ := I.lent e
  rw [nt_lst w] at h; cases h
theorem IV.not_ownN {p : Addr} (I : IV K G Hf σ H δ) (h : nt H p = none) : ¬ ownAt σ δ p := fun ⟨i, s, a, o, e⟩ => by
  obtain ⟨q, vs, _, e2, h1, _⟩ := I.own_some a o
  rw [e] at e2
  cases e2
  rw [nt_lst h1] at h; cases h
theorem own_put {dh : List D} {s : Sl} (h : s = .own dh ∨ s = .io dh) : s.isOwn = true := by rcases h with rfl | rfl <;> rfl
end
section
variable {X : Cx} {W : WT} {e : Expr} {es : List Expr} {ad : AD} {pos p : Pos} {k n : Nat} {f : Addr} {fd : FuncData} {ps : List Str} {x : Str}
theorem cr_end {Q : VK} {E : XK} {pins : List (Addr × Obj)} {σ : L2.St} {H : Hp} {s : Shared} (I : Inv X pins σ H s) (hx : ∀ e s', L2.CX X.prog X.w X.stack H s E e s' → X.xe e s') :
    ∀ (r : Result) (s' : Shared), CR (L2.CX X.prog X.w) X.stack X.prog X.w H s Q E r s' → (match r with
      | .ok fl => ∃ u, fl = Flow.ret u ∧ EP X pins σ Q u s'
      | .error e => X.xe e s')
  | .error e, s', h => hx e s' h
  | .ok (.ret u), s', h => ⟨u, rfl, I.after h⟩
  | .ok .next, s', h => False.elim h
  | .ok .brk, s', h => False.elim h
  | .ok .cont, s', h => False.elim h
theorem run_G {sp : Sp} {E : XK} {Q : VK} {pins : List (Addr × Obj)} {σ : L2.St} {H : Hp} {s : Shared} {us : List Value} {vs : List V} (F : FnG X.prog X.w X.K X.mg X.base k f fd ps sp) (hr : Room k X.A) (hgd : X.A.guards = some []) (hb : Binds X.K fd ps [])
    (I : Inv X pins σ H s) (r : Vals vs us) (h : sp vs H Q E) (hx : ∀ e s', L2.CX X.prog X.w X.stack H s E e s' → X.xe e s') : wpAny (model X.prog X.w) X.A (call (.ref f) us) (EP X pins σ Q) X.xe s := by
  have hl : us.length = ps.length := r.length.symm.trans (F.len _ _ _ _ h)
  have bd := hb s us I.kIn (by simpa using hl)
  rw [List.append_nil] at bd
  refine wpAny_call (codeAny_mono (F.run _ _ _ _ _ _ _ _ _ hr hgd I.env0 bd r h) fun r s' hq => ?_)
  have := cr_end I hx r s' hq
  cases r with
  | error e => exact this
  | ok fl =>
    obtain ⟨u, rfl, q⟩ := this
    exact q
theorem pe_callG {sp : Sp} {E : L2.St → XK} {t : TA} (F : FnG X.prog X.w X.K X.mg X.base k f fd ps sp) (hr : Room k X.A) (hgd : X.A.guards = some []) (hg : Gl X x) (hm : X.mg x = some (.ref f)) (hk : PySem.W.keepIn X.K (.ref f) = true) (hb : Binds X.K fd ps [])
    (hx : ∀ σ, PassesAt (L2.CX X.prog X.w) X σ (E σ)) (ha : PA X (e :: es) t) (hdb : (x == ("__debug__" : Str)) = false) (he : starEach (e :: es) X.env = (false, eval e X.env) :: starEach es X.env) (hpl : (backTo pos (starEach es X.env)).any (·.1) = false) :
    PE X (.Call (.Name x p) (e :: es) [] pos) (tCallS sp E t) :=
  ⟨fun pins s σ H Q I h => wpAny_Call_Name_kw (ld_glob I hg hm (PySem.W.callWith_K (h₀ := X.base) I.ok.mod.kin hk
    (thn (ha.run pos pins s σ H _ I h) fun us s1 ⟨vs, H1, I1, r, q⟩ => ⟨I1.kIn, run_G F hr hgd hb I1 r q fun e s' hc => hx σ pins H1 s1 e s' I1 hc⟩) he hpl) hdb)⟩
theorem pe_callG0 {sp : Sp} (F : FnG X.prog X.w X.K X.mg X.base k f fd ps sp) (hr : Room k X.A) (hgd : X.A.guards = some []) (hg : Gl X x) (hm : X.mg x = some (.ref f)) (hk : PySem.W.keepIn X.K (.ref f) = true) (hb : Binds X.K fd ps []) (hdb : (x == ("__debug__" : Str)) = false) :
    PE X (.Call (.Name x p) [] [] pos) (fun _ H Q => sp [] H Q E0) :=
  ⟨fun pins s σ H Q I h => wpAny_Call_Name_kw (ld_glob I hg hm (PySem.W.callWith_K0 (first := []) I.kIn hk (run_G F hr hgd hb I .nil h fun e s' hc => passL pins σ H s e s' I hc)) hdb)⟩
theorem rd_call {sem : FS} {σ : L2.St} {H : Hp} {Q : VK} (h : rdE X.K X.mg W (eCall sem ad) σ H Q) (hn : ∀ ds, sem ds ≠ none → ds.length = n) : tCallS (spF X.K X.mg W.c.tabs n sem) (WE W) (rdA X.K X.mg W ad) σ H Q := by
  obtain ⟨G, Hf, δ, I, q⟩ := h
  refine ⟨G, Hf, δ, I, ?_⟩
  unfold eCall at q
  revert q
  cases ad δ with
  | none => exact fun q => q.elim
  | some o =>
    cases o with
    | er x δ1 => exact fun q => q
    | ok rs δ1 =>
      intro q Hf1 H1 vs s1 I1 hl pl
      dsimp only at q
      split at q
      · exact q.elim
      · rename_i ds δ2 h2
        obtain ⟨Hf2, s2, I2, r2⟩ := I1.settleL hl pl h2
        refine ⟨Hf2, ds, I2.subN, r2, hn ds (fun z => by rw [z] at q; exact q.elim), I2.tab, ?_⟩
        revert q
        cases sem ds with
        | none => exact fun q => q.elim
        | some o =>
          cases o with
          | ret d => exact fun q Hf' H' v g r => q Hf' H' v ((s1.trans s2).trans g.f) (I2.gr g) r
          | retL es => exact fun q Hf' H' p vs g a b c r => q Hf' H' _ ((s1.trans s2).trans g.f) (I2.gr g) ⟨p, rfl, vs, b, r, c, I2.domN a, I2.not_iaN a, I2.not_ownN a⟩
          | er x => exact fun q Hf' H' cls d g r => q Hf' H' cls d ((s1.trans s2).trans g.f) (I2.gr g) r
theorem de_call {sem : FS} (F : FnG X.prog X.w X.K X.mg X.base k f fd ps (spF X.K X.mg W.c.tabs n sem)) (hgd : X.A.guards = some []) (hnn : ∀ ds, sem ds ≠ none → ds.length = n) (hr : Room k X.A) (hg : Gl X x) (hm : X.mg x = some (.ref f)) (hk : PySem.W.keepIn X.K (.ref f) = true) (hb : Binds X.K fd ps []) (tk : Takes X W)
    (ha : DA X W (e :: es) ad) (hdb : (x == ("__debug__" : Str)) = false := by decide) (he : starEach (e :: es) X.env = (false, eval e X.env) :: starEach es X.env := by rfl) (hpl : (backTo pos (starEach es X.env)).any (·.1) = false := by rfl) :
    DE X W (.Call (.Name x p) (e :: es) [] pos) (eCall sem ad) := (pe_callG F hr hgd hg hm hk hb (fun σ => passAt tk σ) ha hdb he hpl).imp fun σ H Q h => rd_call h hnn
theorem rd_callIo {sem : FSio} {σ : L2.St} {H : Hp} {Q : VK} (h : rdE X.K X.mg W (eCallIo sem ad) σ H Q) (hn : ∀ d ds, sem (d :: ds) ≠ none → ds.length + 1 = n) : tCallS (spIo X.K X.mg W.c.tabs n sem) (WE W) (rdA X.K X.mg W ad) σ H Q := by
  obtain ⟨G, Hf, δ, I, q⟩ := h
  refine ⟨G, Hf, δ, I, ?_⟩
  unfold eCallIo at q
  revert q
  cases ad δ with
  | none => exact fun q => q.elim
  | some o =>
    cases o with
    | er x δ1 => exact fun q => q
    | ok rs δ1 =>
      intro q Hf1 H1 vs s1 I1 hl pl
      split at q
      · rename_i e; cases e
      · rename_i e; cases e
      · rename_i i rs' δ' e
        cases e
        match vs, hl, pl with
        | [], hl, _ => simp at hl
        | v :: vs, hl, pl =>
          have hv : σ[i]? = some (some v) := pl.all (v, .slot i) (by simp)
          split at q
          · exact q.elim
          · rename_i ds δ2 h2
            obtain ⟨Hf2, s2, I2, r2⟩ := I1.settleL (by simpa using hl) pl.tail h2
            have fin : ∀ (s : Sl) (dh : List D) (F : List D → Sl), δ2[i]? = some s → s.isOwn = true → (s = .own dh ∧ F = Sl.own ∨ s = .io dh ∧ F = Sl.io) → EPost X.K X.mg W G σ Hf (match sem (.lst dh :: ds) with
                | none => none
                | some (o, dh') => ERofF (some o) (δ2.set i (F dh'))) Q → spIo X.K X.mg W.c.tabs n sem (v :: vs) H1 Q (WE W σ) := fun s dh F hd ho hF q => by
              obtain ⟨p, hs, ds', e1, h1, h3, h4, h5⟩ := I2.own_some hd ho
              rw [hv] at e1
              cases e1
              have hds : ds' = dh := by
                rcases h5 with ⟨z, _⟩ | ⟨z, _⟩ <;> rcases hF with ⟨y, _⟩ | ⟨y, _⟩ <;> (rw [z] at y; cases y <;> rfl)
              subst hds
              have hput : ∀ dh', F dh' = s.put dh' := fun dh' => by rcases hF with ⟨rfl, rfl⟩ | ⟨rfl, rfl⟩ <;> rfl
              refine ⟨Hf2, p, hs, ds', ds, vs, rfl, I2.subN, h4, h1, h3, r2, hn _ ds (fun z => by rw [z] at q; exact q.elim), I2.tab, ?_⟩
              revert q
              cases sem (.lst ds' :: ds) with
              | none => exact fun q => q.elim
              | some o =>
                obtain ⟨o, dh'⟩ := o
                dsimp only
                rw [hput]
                cases o with
                | ret d => exact fun q Hf' H' v hs' g a b c r => q Hf' H' v ((s1.trans s2).trans g.f) (I2.lend hd ho hv g a b c) r
                | retL es =>
                  intro q Hf' H' p' vs' hs' g a b c e1 e2 e3 r
                  have I3 := I2.lend hd ho hv g a b c
                  refine q Hf' H' _ ((s1.trans s2).trans g.f) I3 ⟨p', rfl, vs', e2, r, e3, I2.domN e1, I2.not_iaN e1, fun ⟨j, t, a1, a2, a3⟩ => ?_⟩
                  by_cases hj : i = j
                  · subst hj
                    rw [hv] at a3
                    cases a3
                    rw [nt_lst h1] at e1
                    cases e1
                  · rw [List.getElem?_set_ne hj] at a1
                    exact I2.not_ownN e1 ⟨j, t, a1, a2, a3⟩
                | er x => exact fun q Hf' H' cls d hs' g a b c r => q Hf' H' cls d ((s1.trans s2).trans g.f) (I2.lend hd ho hv g a b c) r
            split at q
            · rename_i dh hd
              exact fin _ dh Sl.own hd rfl (.inl ⟨rfl, rfl⟩) q
            · rename_i dh hd
              exact fin _ dh Sl.io hd rfl (.inr ⟨rfl, rfl⟩) q
            · exact q.elim
      · exact q.elim
theorem de_callIo {sem : FSio} (F : FnG X.prog X.w X.K X.mg X.base k f fd ps (spIo X.K X.mg W.c.tabs n sem)) (hgd : X.A.guards = some []) (hnn : ∀ d ds, sem (d :: ds) ≠ none → ds.length + 1 = n) (hr : Room k X.A) (hg : Gl X x) (hm : X.mg x = some (.ref f)) (hk : PySem.W.keepIn X.K (.ref f) = true) (hb : Binds X.K fd ps []) (tk : Takes X W)
    (ha : DA X W (e :: es) ad) (hdb : (x == ("__debug__" : Str)) = false := by decide) (he : starEach (e :: es) X.env = (false, eval e X.env) :: starEach es X.env := by rfl) (hpl : (backTo pos (starEach es X.env)).any (·.1) = false := by rfl) :
    DE X W (.Call (.Name x p) (e :: es) [] pos) (eCallIo sem ad) := (pe_callG F hr hgd hg hm hk hb (fun σ => passAt tk σ) ha hdb he hpl).imp fun σ H Q h => rd_callIo h hnn
/-- f(), that raises nothing -/
def eCall0 (sem : FS) : ED := fun δ => match sem [] with
  | some (.ret d) => some (.ok (.fz d) δ)
  | some (.retL ds) => some (.ok (.fresh ds) δ)
  | _ => none
theorem de_call0 {sem : FS} (F : FnG X.prog X.w X.K X.mg X.base k f fd ps (spF X.K X.mg W.c.tabs 0 sem)) (hgd : X.A.guards = some []) (hr : Room k X.A) (hg : Gl X x) (hm : X.mg x = some (.ref f)) (hk : PySem.W.keepIn X.K (.ref f) = true) (hb : Binds X.K fd ps [])
    (hdb : (x == ("__debug__" : Str)) = false := by decide) : DE X W (.Call (.Name x p) [] [] pos) (eCall0 sem) := (pe_callG0 F hr hgd hg hm hk hb hdb).imp fun σ H Q ⟨G, Hf, δ, I, q⟩ => by
  unfold eCall0 at q
  refine ⟨Hf, [], I.subN, RelL.nil, rfl, I.tab, ?_⟩
  split at q
  · rename_i d h
    rw [h]
    exact fun Hf' H' v g r => q Hf' H' v g.f (I.gr g) r
  · rename_i ds h
    rw [h]
    exact fun Hf' H' p vs g a b c r => q Hf' H' _ g.f (I.gr g) ⟨p, rfl, vs, b, r, c, I.domN a, I.not_iaN a, I.not_ownN a⟩
  · exact q.elim

/-! ## raise X() -/
def sRaise (x : Str) : SD := fun δ => some (.er ⟨x, none⟩ δ)
/-- what is known of an exception class of one's own -/
structure ExcC (K : PySem.W.Frag) (mg : Str → Option Value) (x : Str) (C : Addr) : Prop where
  g : mg x = some (.ref C)
  ex : PySem.W.excIn K C [.type "ValueError", .type "Exception", .type "BaseException", .type "object"] "ValueError.__new__" = true
  kp : PySem.W.keepIn K (.ref C) = true
  b : PySem.W.subIn K (.ref C) (.type "BaseException") = some true
  t : PySem.W.typeIn K (.ref C) = some (.type "type")
theorem pmk_own0 {C : Addr} {bmB : List Value} {B newId initId : String} (F : ExcBaseFacts B newId initId bmB) (q : PySem.W.excIn X.K C bmB newId = true) (gC : X.mg x = some (.ref C)) (kC : PySem.W.keepIn X.K (.ref C) = true) (r : Raises X (.ref C)) (hg : Gl X x)
    (hdb : (x == ("__debug__" : Str)) = false := by decide) : PMk X (.Call (.Name x p) [] [] pos) (fun _ H Q => Q (.ref C) none H) := by
  intro pins s σ H Q I h
  refine wpAny_Call_Name_kw (ld_glob I hg gC ?_ hdb)
  refine PySem.W.callWith_K0 (first := []) I.kIn kC ?_
  show wpAny _ _ (call (.ref C) []) _ _ _
  obtain ⟨bm, N, nm, qn, bs, hdct, sn, sub, ab, col, dd, k0, k1, k2, k3, k5, mN, hC, hN, hni, T⟩ := exc_obj I.kIn q
  refine wpAny_call_exc_subT F T hC hN hni (fun h' e hm => ?_) (by show 0 ≤ sizeLine; exact Nat.zero_le _)
  exact mk_of I hm r h (I.hok.gone hm.new)
theorem s_raise {C : Addr} (T : ExcC X.K X.mg x C) (hc : X.calm = true) (tk : Takes X W) (hg : Gl X x) (hdb : (x == ("__debug__" : Str)) = false := by decide) {pos' : Pos} : DS X W (.Raise (some (.Call (.Name x p) [] [] pos)) none pos') (sRaise x) :=
  (ps_raise hc tk (pmk_own0 PySem.F.excBase_ValueError T.ex T.g T.kp (raises_own T.b T.t) hg hdb)).imp fun D σ H ⟨G, Hf, δ, I, q⟩ => q Hf σ H _ _ (Same.refl _) I ⟨T.g, rfl⟩

/-! ## x.append(e) -/
def isOwnAt (δ : List Sl) (i : Nat) : Bool := match δ[i]? with
  | some s => s.isOwn
  | none => false
def appTo (δ : List Sl) (i : Nat) (d : D) : Option (List Sl) := match δ[i]? with
  | some (.own ds) => if ds.length < 16777216 then some (δ.set i (.own (ds ++ [d]))) else none
  | some (.io ds) => if ds.length < 16777216 then some (δ.set i (.io (ds ++ [d]))) else none
  | _ => none
def sApp (x : ED) (a : AD) : SD := fun δ => match x δ with
  | some (.ok (.slot i) δ1) => if isOwnAt δ1 i then (match a δ1 with
    | some (.ok rs δ2) => match settleL rs δ2 with
      | some ([d], δ3) => match appTo δ3 i d with
        | some δ4 => some (.nx δ4)
        | none => none
      | _ => none
    | some (.er y δ2) => some (.er y δ2)
    | _ => none) else none
  | _ => none
theorem IV.appTo {K : PySem.W.Frag} {C : Cst} {G : Gh C} {Hf : Hp} {σ : L2.St} {H : Hp} {δ δ' : List Sl} {o v : V} (I : IV K G Hf σ H δ) {i : Nat} {d : D} (hv : σ[i]? = some (some o)) (r : Rel K Hf d v) (e : appTo δ i d = some δ') :
    ∃ p xs, o = .ref p ∧ H p = some (.lst xs) ∧ xs.length < sizeLine ∧ IV K G Hf σ (upd H p (.lst (xs ++ [v]))) δ' := by
  unfold Dn.appTo at e
  split at e
  · rename_i ds hd
    split at e
    · rename_i hz
      cases e
      obtain ⟨p, vs, ds', e1, h1, h2, h3, h4⟩ := I.own_some hd rfl
      rw [hv] at e1; cases e1
      rcases h4 with ⟨z, _⟩ | ⟨z, _⟩ <;> cases z
      exact ⟨p, vs, rfl, h1, by rw [h2.length, ← szl]; exact hz, I.write hd rfl hv (RelL.append h2 (RelL.cons r RelL.nil))⟩
    · cases e
  · rename_i ds hd
    split at e
    · rename_i hz
      cases e
      obtain ⟨p, vs, ds', e1, h1, h2, h3, h4⟩ := I.own_some hd rfl
      rw [hv] at e1; cases e1
      rcases h4 with ⟨z, _⟩ | ⟨z, _⟩ <;> cases z
      exact ⟨p, vs, rfl, h1, by rw [h2.length, ← szl]; exact hz, I.write hd rfl hv (RelL.append h2 (RelL.cons r RelL.nil))⟩
    · cases e
  · cases e
theorem s_append {st : Stmt} {ex : ED} (h : PS X st (tDrop (tBM X.K "list" rAppend (rdE X.K X.mg W ex) (rdA X.K X.mg W ad)))) : DS X W st (sApp ex ad) := h.imp fun D σ H ⟨G, Hf, δ, I, q⟩ => by
  refine ⟨G, Hf, δ, I, ?_⟩
  unfold sApp at q
  revert q
  cases ex δ with
  | none => exact fun q => q.elim
  | some o =>
    cases o with
    | er x δ1 => exact fun q => q.elim
    | ok r δ1 =>
      cases r with
      | fz d => exact fun q => q.elim
      | fresh ds => exact fun q => q.elim
      | slot i =>
        intro q Hf1 H1 v s1 I1 hv
        have hv : σ[i]? = some (some v) := hv
        dsimp only at q
        split at q
        · rename_i ho
          have ty : tyV X.K "list" v H1 := by
            unfold isOwnAt at ho
            split at ho
            · rename_i s hs
              obtain ⟨p, vs, ds', e1, h1, _⟩ := I1.own_some hs ho
              rw [hv] at e1; cases e1
              exact .inl ⟨rfl, vs, SqL.of h1⟩
            · cases ho
          refine ⟨ty, G, Hf1, δ1, I1, ?_⟩
          revert q
          cases ad δ1 with
          | none => exact fun q => q.elim
          | some o =>
            cases o with
            | er y δ2 => exact fun q Hf' H' cls d a b c => q Hf' σ H' cls d (s1.trans a) b c
            | ok rs δ2 =>
              intro q Hf2 H2 vs s2 I2 hl pl
              dsimp only at q
              split at q
              · rename_i d δ3 h3
                obtain ⟨Hf3, s3, I3, r3⟩ := I2.settleL hl pl h3
                unfold RelL at r3
                obtain ⟨x, xs, rfl, r3, r4⟩ := r3
                unfold RelL at r4
                subst r4
                split at q
                · rename_i δ4 h4
                  obtain ⟨p, ys, rfl, k1, k2, k3⟩ := I3.appTo hv r3 h4
                  exact ⟨p, ys, x, rfl, rfl, k1, k2, q Hf3 σ _ ((s1.trans s2).trans s3) k3⟩
                · exact q.elim
              · exact q.elim
        · exact q.elim
end
end Dn

namespace Dn
open PySem PySem.Spec L2
open PyProof.Rows (envOfC)

/-! ## [e for .. in .. if ..] -/
def wipeS (δ : List Sl) : List Nat → List Sl
  | [] => δ
  | v :: vs => (wipeS δ vs).set v .no
/-- behind the block its own names are as they were -/
def restS (δ1 δ2 : List Sl) : List Nat → List Sl
  | [] => δ2
  | v :: vs => match δ1[v]? with
    | some s => (restS δ1 δ2 vs).set v s
    | none => restS δ1 δ2 vs
def canWipe (δ : List Sl) (vs : List Nat) : Bool := vs.all fun v => match δ[v]? with
  | some s => !s.isOwn
  | none => true
def lcL (g : GD) (t : TD) (e : ED) (vs : List Nat) : List D → List Sl → List D → Option (List D × List Sl)
  | [], δ, acc => some (acc, δ)
  | d :: ds, δ, acc => match g (.fz d) δ with
    | none => none
    | some δ1 => match t δ1 with
      | some (.ok c δ2) => if c then (match e δ2 with
        | some (.ok r δ3) => match r.settle δ3 with
          | some (d', δ4) => if canWipe δ4 vs && decide (acc.length < 16777216) then lcL g t e vs ds (wipeS δ4 vs) (acc ++ [d']) else none
          | none => none
        | _ => none) else (if canWipe δ2 vs then lcL g t e vs ds (wipeS δ2 vs) acc else none)
      | _ => none
def eLc (it : ID) (g : GD) (t : TD) (e : ED) (vs : List Nat) : ED := fun δ => match it δ with
  | none => none
  | some (.er x δ1) => some (.er x δ1)
  | some (.ok items δ1) => if canWipe δ1 vs then (match lcL g t e vs items (wipeS δ1 vs) [] with
    | none => none
    | some (acc, δ2) => some (.ok (.fresh acc) (restS δ1 δ2 vs))) else none
def tTrue : TD := fun δ => some (.ok true δ)
abbrev wF (W : WT) : WT := ⟨fun _ _ _ _ => False, W.c⟩

theorem wipe_get {σ : L2.St} {j : Nat} : ∀ {vs : List Nat}, (wipe σ vs)[j]? = if j ∈ vs then (if j < σ.length then some none else none) else σ[j]?
  | [] => by simp [wipe]
  | v :: vs => by
    unfold wipe
    by_cases h : v = j
    · subst h
      simp only [List.mem_cons_self, if_true]
      by_cases hl : v < σ.length
      · rw [List.getElem?_set_self (by rw [wipe_length]; exact hl), if_pos hl]
      · rw [List.getElem?_eq_none (by rw [List.length_set, wipe_length]; omega), if_neg hl]
    · rw [List.getElem?_set_ne h, wipe_get]
      have : (j ∈ v :: vs) ↔ j ∈ vs := by simp [Ne.symm h]
      simp only [this]
theorem wipe_set {σ : L2.St} {vs : List Nat} {i : Nat} {x : Option V} (h : i ∈ vs) : wipe (σ.set i x) vs = wipe σ vs := by
  apply List.ext_getElem?
  intro j
  rw [wipe_get, wipe_get]
  by_cases hj : j ∈ vs
  · simp only [if_pos hj, List.length_set]
  · rw [if_neg hj, if_neg hj, List.getElem?_set_ne (fun e => hj (by rw [← e]; exact h))]
theorem wipe_wipe {σ : L2.St} {vs : List Nat} : wipe (wipe σ vs) vs = wipe σ vs := by
  apply List.ext_getElem?
  intro j
  rw [wipe_get, wipe_get]
  by_cases hj : j ∈ vs
  · simp only [if_pos hj, wipe_length]
  · rw [if_neg hj, if_neg hj]
theorem wipe_setAll {vs : List Nat} : ∀ {is : List Nat} {xs : List V} {σ : L2.St}, (∀ i ∈ is, i ∈ vs) → wipe (setAll σ is xs) vs = wipe σ vs
  | [], xs, σ, _ => by cases xs <;> rfl
  | i :: is, [], σ, _ => rfl
  | i :: is, x :: xs, σ, h => by
    show wipe (setAll (σ.set i (some x)) is xs) vs = _
    rw [wipe_setAll fun j hj => h j (List.mem_cons_of_mem _ hj), wipe_set (h i List.mem_cons_self)]
section
variable {K : PySem.W.Frag} {mg : Str → Option Value} {W : WT} {C : Cst} {G : Gh C} {Hf Hf' : Hp} {σ σ' : L2.St} {H H' : Hp} {δ δ' : List Sl} {v : V} {p : Addr}
theorem IV.wipe1 (I : IV K G Hf σ H δ) {i : Nat} (h : ∀ s, δ[i]? = some s → s.isOwn = false) : IV K G Hf (σ.set i none) H (δ.set i .no) := by
  have get : ∀ (j : Nat) (t : Sl), (δ.set i .no)[j]? = some t → t.isOwn = true → i ≠ j ∧ δ[j]? = some t := fun j t a b => by
    by_cases hj : i = j
    · subst hj
      by_cases lt : i < δ.length
      · rw [List.getElem?_set_self lt] at a; cases a; cases b
      · rw [List.getElem?_eq_none (by simpa using lt)] at a; cases a
    · rw [List.getElem?_set_ne hj] at a; exact ⟨hj, a⟩
  refine ⟨by simpa using I.len, I.subN, I.f0s, I.hf0, I.frame, I.dom, fun j t a => ?_, fun j k s t q njk a1 a2 a3 a4 a5 => ?_, fun j q a => ?_, I.tab⟩
  · by_cases hj : i = j
    · subst hj
      by_cases lt : i < δ.length
      · rw [List.getElem?_set_self lt] at a
        cases a
        refine ⟨none, List.getElem?_set_self (by rw [I.len]; exact lt), ?_⟩
        show G.ia i = none
        cases z : G.ia i with
        | none => rfl
        | some p =>
          obtain ⟨ds, e⟩ := I.iai i p z
          cases h _ e
      · rw [List.getElem?_eq_none (by simpa using lt)] at a; cases a
    · rw [List.getElem?_set_ne hj] at a ⊢
      exact I.sl j t a
  · obtain ⟨n1, a1⟩ := get j s a1 a2
    obtain ⟨n2, a3⟩ := get k t a3 a4
    rw [List.getElem?_set_ne n1] at a5
    rw [List.getElem?_set_ne n2]
    exact I.dj j k s t q njk a1 a2 a3 a4 a5
  · obtain ⟨es, z⟩ := I.iai j q a
    have n1 : i ≠ j := fun y => by subst y; cases h _ z
    exact ⟨es, by rw [List.getElem?_set_ne n1]; exact z⟩
theorem wipeS_get {δ : List Sl} {j : Nat} : ∀ {vs : List Nat}, (wipeS δ vs)[j]? = if j ∈ vs then (if j < δ.length then some .no else none) else δ[j]?
  | [] => by simp [wipeS]
  | v :: vs => by
    unfold wipeS
    have hlen : ∀ vs : List Nat, (wipeS δ vs).length = δ.length := fun vs => by
      induction vs with
      | nil => rfl
      | cons v vs ih => unfold wipeS; rw [List.length_set, ih]
    by_cases h : v = j
    · subst h
      simp only [List.mem_cons_self, if_true]
      by_cases hl : v < δ.length
      · rw [List.getElem?_set_self (by rw [hlen]; exact hl), if_pos hl]
      · rw [List.getElem?_eq_none (by rw [List.length_set, hlen]; omega), if_neg hl]
    · rw [List.getElem?_set_ne h, wipeS_get]
      have : (j ∈ v :: vs) ↔ j ∈ vs := by simp [Ne.symm h]
      simp only [this]
theorem IV.wipe (I : IV K G Hf σ H δ) : ∀ {vs : List Nat}, canWipe δ vs = true → IV K G Hf (L2.wipe σ vs) H (wipeS δ vs)
  | [], _ => I
  | v :: vs, h => by
    unfold canWipe at h
    simp only [List.all_cons, Bool.and_eq_true] at h
    have ih := IV.wipe I (vs := vs) h.2
    refine ih.wipe1 (i := v) fun s e => ?_
    rw [wipeS_get] at e
    split at e
    · split at e
      · cases e; rfl
      · cases e
    · have h1 := h.1
      rw [e] at h1
      simpa using h1
theorem FreshAt.wipe {ds : List D} (f : FreshAt K G Hf σ H δ p ds) {vs : List Nat} : FreshAt K G Hf (L2.wipe σ vs) H (wipeS δ vs) p ds := by
  obtain ⟨ws, h1, h2, h3, h4, h5, h6⟩ := f
  refine ⟨ws, h1, h2, h3, h4, h5, fun ⟨i, s, a1, a2, a3⟩ => h6 ⟨i, s, ?_, a2, ?_⟩⟩
  · rw [wipeS_get] at a1
    split at a1
    · split at a1
      · cases a1; cases a2
      · cases a1
    · exact a1
  · rw [wipe_get] at a3
    split at a3
    · split at a3 <;> cases a3
    · exact a3
/-- a new list that nothing holds is written -/
theorem IV.writeFresh (I : IV K G Hf σ H δ) {ds ds' : List D} {vs : List V} (f : FreshAt K G Hf σ H δ p ds) (r : RelL K Hf ds' vs) : IV K G Hf σ (upd H p (.lst vs)) δ ∧ FreshAt K G Hf σ (upd H p (.lst vs)) δ p ds' := by
  obtain ⟨ws, h1, h2, h3, h4, h5, h6⟩ := f
  have ne : ∀ (i : Nat) (s : Sl), δ[i]? = some s → s.isOwn = true → ∀ q, σ[i]? = some (some (V.ref q)) → q ≠ p := fun i s a b q c z => h6 ⟨i, s, a, b, z ▸ c⟩
  refine ⟨⟨I.len, .of (fun b x e => ?_) I.subN.noT, I.f0s, I.hf0, fun b o e hi => ?_, fun b e => ?_, fun i s a => ?_, I.dj, I.iai, tabs_upd I.tab h1 fun b hb => upd_ne hb⟩, vs, upd_same, r, h3, h4, h5, h6⟩
  · have nb : b ≠ p := fun z => by subst z; rw [h3] at e; cases e
    rw [upd_ne nb]; exact I.sub b x e
  · have nb : b ≠ p := fun z => by subst z; rw [h4] at e; cases e
    rw [upd_ne nb]; exact I.frame b o e hi
  · have nb : b ≠ p := fun z => by subst z; rw [upd_same] at e; cases e
    rw [upd_ne nb] at e; exact I.dom b e
  · obtain ⟨o, e, q⟩ := I.sl i s a
    refine ⟨o, e, ?_⟩
    cases s with
    | no => exact q
    | exn => exact q
    | fz d => exact q
    | own es =>
      obtain ⟨k0, q, ws', k1, k2, k3⟩ := q
      exact ⟨k0, q, ws', k1, by rw [upd_ne (ne i _ a rfl q (by rw [e, k1]))]; exact k2, k3⟩
    | io es =>
      obtain ⟨q, ws', k0, k1, k2, k3⟩ := q
      exact ⟨q, ws', k0, k1, by rw [upd_ne (ne i _ a rfl q (by rw [e, k1]))]; exact k2, k3⟩
theorem restS_get {δ1 δ2 : List Sl} {j : Nat} : ∀ {vs : List Nat}, δ1.length = δ2.length → (restS δ1 δ2 vs)[j]? = if j ∈ vs then δ1[j]? else δ2[j]?
  | [], _ => by simp [restS]
  | v :: vs, hl => by
    have hlen : ∀ vs : List Nat, (restS δ1 δ2 vs).length = δ2.length := fun vs => by
      induction vs with
      | nil => rfl
      | cons v vs ih => unfold restS; split <;> simp [ih]
    unfold restS
    split
    · rename_i s hs
      by_cases h : v = j
      · subst h
        simp only [List.mem_cons_self, if_true]
        rw [List.getElem?_set_self (by rw [hlen, ← hl]; exact (List.getElem?_eq_some_iff.mp hs).1), hs]
      · rw [List.getElem?_set_ne h, restS_get hl]
        have : (j ∈ v :: vs) ↔ j ∈ vs := by simp [Ne.symm h]
        simp only [this]
    · rename_i hs
      rw [restS_get hl]
      by_cases h : v = j
      · subst h
        simp only [List.mem_cons_self, if_true]
        split
        · rfl
        · rw [hs]
          exact List.getElem?_eq_none (by rw [← hl]; exact List.getElem?_eq_none_iff.mp hs)
      · have : (j ∈ v :: vs) ↔ j ∈ vs := by simp [Ne.symm h]
        simp only [this]
/-- behind the block -/
theorem IV.rest (I1 : IV K G Hf σ H δ) {vs : List Nat} (hw : canWipe δ vs = true) (s : Same Hf Hf') (I2 : IV K G Hf' (L2.wipe σ vs) H' δ') : IV K G Hf' σ H' (restS δ δ' vs) := by
  have hl : δ.length = δ'.length := by have := I2.len; rw [wipe_length] at this; rw [← this, I1.len]
  have no : ∀ j ∈ vs, ∀ t, δ[j]? = some t → t.isOwn = false := fun j hj t e => by
    have := List.all_eq_true.mp hw j hj
    rw [e] at this
    simpa using this
  have hlen : (restS δ δ' vs).length = δ'.length := by
    induction vs with
    | nil => rfl
    | cons v vs ih =>
      clear I2 hw no
      have : ∀ vs : List Nat, (restS δ δ' vs).length = δ'.length := fun vs => by
        induction vs with
        | nil => rfl
        | cons v vs ih => unfold restS; split <;> simp [ih]
      exact this _
  have get : ∀ (j : Nat) (t : Sl), (restS δ δ' vs)[j]? = some t → t.isOwn = true → j ∉ vs ∧ δ'[j]? = some t := fun j t a b => by
    rw [restS_get hl] at a
    split at a
    · rename_i hj
      rw [no j hj t a] at b
      cases b
    · exact ⟨by assumption, a⟩
  refine ⟨by rw [hlen, ← hl, I1.len], I2.subN, I2.f0s, I2.hf0, I2.frame, I2.dom, fun j t a => ?_, fun j k t u q njk a1 a2 a3 a4 a5 => ?_, fun j q a => ?_, I2.tab⟩
  · rw [restS_get hl] at a
    split at a
    · rename_i hj
      obtain ⟨o, e, r⟩ := I1.sl j t a
      refine ⟨o, e, ?_⟩
      cases t with
      | no => exact r
      | exn => exact r
      | fz d => exact ⟨r.1, r.2.imp fun v h => ⟨h.1, Rel.mono s h.2⟩⟩
      | own es => cases no j hj _ a
      | io es => cases no j hj _ a
    · rename_i hj
      obtain ⟨o, e, r⟩ := I2.sl j t a
      rw [wipe_get, if_neg hj] at e
      exact ⟨o, e, r⟩
  · obtain ⟨n1, b1⟩ := get j t a1 a2
    obtain ⟨n2, b3⟩ := get k u a3 a4
    have := I2.dj j k t u q njk b1 a2 b3 a4 (by rw [wipe_get, if_neg n1]; exact a5)
    rw [wipe_get, if_neg n2] at this
    exact this
  · obtain ⟨es, z⟩ := I2.iai j q a
    refine ⟨es, ?_⟩
    rw [restS_get hl]
    split
    · rename_i hj
      obtain ⟨es', z'⟩ := I1.iai j q a
      cases no j hj _ z'
    · exact z
theorem FreshAt.rest {ds : List D} (hl : δ.length = δ'.length) {vs : List Nat} (hw : canWipe δ vs = true) (f : FreshAt K G Hf (L2.wipe σ vs) H δ' p ds) : FreshAt K G Hf σ H (restS δ δ' vs) p ds := by
  obtain ⟨ws, h1, h2, h3, h4, h5, h6⟩ := f
  refine ⟨ws, h1, h2, h3, h4, h5, fun ⟨i, s, a1, a2, a3⟩ => ?_⟩
  rw [restS_get hl] at a1
  split at a1
  · rename_i hj
    have := List.all_eq_true.mp hw i hj
    rw [a1] at this
    simp [a2] at this
  · rename_i hj
    exact h6 ⟨i, s, a1, a2, by rw [wipe_get, if_neg hj]; exact a3⟩
/-- a target's reading within a block -/
def GRun (K : PySem.W.Frag) (gR : TG) (g : GD) (vs : List Nat) : Prop := ∀ {C : Cst} (G : Gh C) (Hf : Hp) (σ : L2.St) (H : Hp) (δ δ' : List Sl) (v : V) (d : D) (Q : L2.St → Hp → Prop), IV K G Hf σ H δ → Rel K Hf d v → g (.fz d) δ = some δ' →
  (∀ σ', IV K G Hf σ' H δ' → L2.wipe σ' vs = L2.wipe σ vs → Q σ' H) → gR v σ H Q
theorem gRun_name {i : Nat} : GRun K (gName i) (gN i) [i] := fun G Hf σ H δ δ' v d Q I r e q => by
  obtain ⟨hn, e⟩ := gN_io e
  cases e
  exact q _ (I.setFz hn r) (wipe_set (by simp))
theorem IV.gNsF : ∀ {is : List Nat} {ds : List D} {vs : List V} {σ : L2.St} {δ : List Sl}, IV K G Hf σ H δ → RelL K Hf ds vs → Dn.gNs is ds δ = some δ' → is.length = vs.length ∧ IV K G Hf (setAll σ is vs) H δ'
  | [], [], vs, σ, δ, I, r, e => by
    cases e
    unfold RelL at r
    subst r
    exact ⟨rfl, I⟩
  | [], d :: ds, vs, σ, δ, I, r, e => by cases e
  | i :: is, [], vs, σ, δ, I, r, e => by cases e
  | i :: is, d :: ds, vs, σ, δ, I, r, e => by
    unfold RelL at r
    obtain ⟨x, xs, rfl, h2, h3⟩ := r
    unfold Dn.gNs at e
    split at e
    · cases e
    · rename_i δ1 h1
      obtain ⟨hn, h1⟩ := gN_io h1
      cases h1
      obtain ⟨hl, I2⟩ := IV.gNsF (I.setFz hn h2) h3 e
      exact ⟨by simp [hl], I2⟩
theorem gRun_tup {is : List Nat} {n : Nat} (hn : is.length = n := by rfl) : GRun K (gTup K n (gNames is)) (gT is) is := fun G Hf σ H δ δ' v d Q I r e q => by
  unfold gT Rs.data at e
  dsimp only at e
  split at e
  · rename_i ds hd
    cases hd
    unfold Rel at r
    obtain ⟨a, xs, rfl, h1, h2⟩ := r
    obtain ⟨hl, I'⟩ := I.gNsF h2 e
    exact ⟨a, xs, rfl, Same.sqt I.sub h1, by rw [← hl, hn], gNames_run hl (q _ I' (wipe_setAll fun i h => h))⟩
  · cases e
end
section
variable {X : Cx} {W : WT} {it : ID} {g : GD} {t : TD} {ed : ED} {vs : List Nat} {gR : TG} {e : Expr} {st : Stmt}
theorem IV.pendD {K : PySem.W.Frag} {C : Cst} {G : Gh C} {Hf : Hp} {σ : L2.St} {H : Hp} {δ : List Sl} {p : Addr} {ds : List D} (I : IV K G Hf σ H δ) (f : FreshAt K G Hf σ H δ p ds) :
    ∃ G' : Gh C, IV K G' Hf σ H δ ∧ ∀ Hf' σ' H' δ', Same Hf Hf' → IV K G' Hf' σ' H' δ' → IV K G Hf' σ' H' δ' ∧ FreshAt K G Hf' σ' H' δ' p ds := by
  have hS : ∀ q ∈ [p], ∃ ds, FreshAt K G Hf σ H δ q ds := fun q hq => by
    simp at hq; subst hq; exact ⟨ds, f⟩
  refine ⟨G.guard H [p], I.guard hS, fun Hf' σ' H' δ' s I' => ?_⟩
  obtain ⟨a, b, _⟩ := I.unguard hS s I'
  exact ⟨a, b p (by simp) ds f⟩
theorem rd_lc (hg : GRun X.K gR g vs) {σ : L2.St} {H : Hp} {Q : VK} (h : rdE X.K X.mg W (eLc it g t ed vs) σ H Q) : tLc (rdI X.K X.mg W it) gR (rdT X.K X.mg (wF W) t) (rdE X.K X.mg (wF W) ed) vs σ H Q := by
  obtain ⟨G, Hf, δ, I, q⟩ := h
  refine ⟨G, Hf, δ, I, ?_⟩
  unfold eLc at q
  revert q
  cases it δ with
  | none => exact fun q => q.elim
  | some o =>
    cases o with
    | er x δ1 => exact fun q => q
    | ok items δ1 =>
      intro q Hf1 H1 J s1 I1 wk Dp hD
      dsimp only at q
      split at q
      · rename_i hw
        have I1w := (I1.allocOwn hD (.lst [])).wipe hw
        have F1 : FreshAt X.K G Hf1 (L2.wipe σ vs) (upd H1 Dp (.lst [])) (wipeS δ1 vs) Dp [] := (I1.fresh_new hD RelL.nil).wipe
        -- what the rest of the walk is to reach
        let goal : Hp → List Sl → List D → List D → Prop := fun Hf' δ' items' acc => match lcL g t ed vs items' δ' acc with
          | none => False
          | some (acc', δ2) => ∀ Hf2 H2, Same Hf' Hf2 → IV X.K G Hf2 (L2.wipe σ vs) H2 δ2 → FreshAt X.K G Hf2 (L2.wipe σ vs) H2 δ2 Dp acc' → Q (.ref Dp) H2
        have start : goal Hf1 (wipeS δ1 vs) items [] := by
          show (match lcL g t ed vs items (wipeS δ1 vs) [] with
            | none => False
            | some (acc', δ2) => _)
          revert q
          cases lcL g t ed vs items (wipeS δ1 vs) [] with
          | none => exact fun q => q.elim
          | some o =>
            obtain ⟨acc', δ2⟩ := o
            intro q Hf2 H2 s2 I2 F2
            have hl : δ1.length = δ2.length := by have := I2.len; rw [wipe_length] at this; rw [← this, I1.len]
            exact q Hf2 H2 _ (s1.trans s2) (I1.rest hw s2 I2) ⟨Dp, rfl, F2.rest hl hw⟩
        have goal_up : ∀ {Hf' Hf'' : Hp} {δ' : List Sl} {its acc : List D}, goal Hf' δ' its acc → Same Hf' Hf'' → goal Hf'' δ' its acc := fun {Hf' Hf'' δ' its acc} h s => by
          show (match lcL g t ed vs its δ' acc with
            | none => False
            | some (acc', δ2) => _)
          have h : (match lcL g t ed vs its δ' acc with
            | none => False
            | some (acc', δ2) => _) := h
          revert h
          cases lcL g t ed vs its δ' acc with
          | none => exact fun h => h
          | some o => exact fun h Hf2 H2 s2 I2 F2 => h Hf2 H2 (s.trans s2) I2 F2
        refine ⟨fun i m H => m = items.length - i ∧ i ≤ items.length ∧ ∃ Hf' δ' acc, Same Hf1 Hf' ∧ IV X.K G Hf' (L2.wipe σ vs) H δ' ∧ FreshAt X.K G Hf' (L2.wipe σ vs) H δ' Dp acc ∧ goal Hf' δ' (items.drop i) acc,
          ⟨items.length, by simp, Nat.zero_le _, Hf1, _, [], Same.refl _, I1w, F1, by simpa using start⟩, ?_⟩
        rintro i m H ⟨rfl, hi, Hf2, δ2, acc, s2, I2, F2, g2⟩
        by_cases hlt : i < items.length
        · refine .inr ⟨wk.go i H (s2.trans I2.sub) hlt, fun H => ∃ Hf' δ' acc, Same Hf1 Hf' ∧ IV X.K G Hf' (L2.wipe σ vs) H δ' ∧ FreshAt X.K G Hf' (L2.wipe σ vs) H δ' Dp acc ∧ goal Hf' δ' (items.drop (i + 1)) acc,
            fun H' h => ⟨items.length - (i + 1), by omega, rfl, hlt, h⟩, fun x H' y => ?_⟩
          obtain ⟨G', I2', back⟩ := I2.pendD F2
          have y' := wk.yld i items[i] H x H' (s2.trans I2.sub) (List.getElem?_eq_getElem hlt) y
          have y2 : Yl X.K Hf2 items[i] H x H' := by
            rcases y' with ⟨a, b⟩ | ⟨p, xs, ds, a, b, c, d, e⟩
            · exact .inl ⟨a, Rel.mono s2 b⟩
            · exact .inr ⟨p, xs, ds, a, b, c, d, RelL.mono s2 e⟩
          obtain ⟨Hf3, s3, I3, r3⟩ := y2.take I2'
          rw [List.drop_eq_getElem_cons hlt] at g2
          have g2 : (match lcL g t ed vs (items[i] :: items.drop (i + 1)) δ2 acc with
            | none => False
            | some (acc', δ2) => ∀ Hf' H2, Same Hf2 Hf' → IV X.K G Hf' (L2.wipe σ vs) H2 δ2 → FreshAt X.K G Hf' (L2.wipe σ vs) H2 δ2 Dp acc' → Q (.ref Dp) H2) := g2
          unfold lcL at g2
          split at g2
          · exact g2.elim
          · rename_i o1 acc' δz hoz
            split at hoz
            · cases hoz
            · rename_i δ3 hg3
              refine hg G' Hf3 (L2.wipe σ vs) H' δ2 δ3 x items[i] _ I3 r3 hg3 fun σ2 I4 hws => ⟨by rw [hws, wipe_wipe], G', Hf3, δ3, I4, ?_⟩
              split at hoz
              · rename_i c δ4 ht
                rw [ht]
                intro Hf5 H5 s5 I5
                cases c with
                | true =>
                  rw [if_pos rfl]
                  rw [if_pos rfl] at hoz
                  refine ⟨G', Hf5, δ4, I5, ?_⟩
                  split at hoz
                  · rename_i r δ5 he
                    rw [he]
                    intro Hf6 H6 yv s6 I6 r6
                    split at hoz
                    · rename_i d' δ6 hs'
                      obtain ⟨Hf7, s7, I7, r7, _⟩ := I6.settle r6 hs'
                      split at hoz
                      · rename_i hc
                        simp only [Bool.and_eq_true, decide_eq_true_eq] at hc
                        obtain ⟨I8, F8⟩ := back Hf7 σ2 H6 δ6 (((s3.trans s5).trans s6).trans s7) I7
                        obtain ⟨ws, k1, k2, _⟩ := id F8
                        refine ⟨ws, k1, by rw [k2.length, ← szl]; exact hc.2, ?_⟩
                        obtain ⟨I9, F9⟩ := I8.writeFresh F8 (RelL.append k2 (RelL.cons r7 RelL.nil))
                        have I10 := I9.wipe hc.1
                        have F10 := F9.wipe (vs := vs)
                        rw [hws, wipe_wipe] at I10 F10
                        refine ⟨Hf7, _, _, (((s2.trans s3).trans s5).trans s6).trans s7, I10, F10, ?_⟩
                        show (match lcL g t ed vs (items.drop (i + 1)) (wipeS δ6 vs) (acc ++ [d']) with
                          | none => False
                          | some (acc', δ2) => _)
                        rw [hoz]
                        exact fun Hf' H2 a b c => g2 Hf' H2 ((((s3.trans s5).trans s6).trans s7).trans a) b c
                      · cases hoz
                    · cases hoz
                  · cases hoz
                | false =>
                  rw [if_neg Bool.false_ne_true]
                  rw [if_neg Bool.false_ne_true] at hoz
                  split at hoz
                  · rename_i hc
                    obtain ⟨I8, F8⟩ := back Hf5 σ2 H5 δ4 (s3.trans s5) I5
                    have I10 := I8.wipe hc
                    have F10 := F8.wipe (vs := vs)
                    rw [hws, wipe_wipe] at I10 F10
                    refine ⟨Hf5, _, _, (s2.trans s3).trans s5, I10, F10, ?_⟩
                    show (match lcL g t ed vs (items.drop (i + 1)) (wipeS δ4 vs) acc with
                      | none => False
                      | some (acc', δ2) => _)
                    rw [hoz]
                    exact fun Hf' H2 a b c => g2 Hf' H2 ((s3.trans s5).trans a) b c
                  · cases hoz
              · cases hoz
        · have e : i = items.length := by omega
          subst e
          rw [List.drop_length] at g2
          exact .inl ⟨wk.stop H (s2.trans I2.sub), g2 Hf2 H (Same.refl _) I2 F2⟩
      · exact q.elim
theorem de_lc (hg : GRun X.K gR g vs) (h : PE X e (tLc (rdI X.K X.mg W it) gR (rdT X.K X.mg (wF W) t) (rdE X.K X.mg (wF W) ed) vs)) : DE X W e (eLc it g t ed vs) := h.imp fun σ H Q q => rd_lc hg q
theorem s_setLc {i : Nat} (hg : GRun X.K gR g vs) (h : PS X st (tAsg (tLc (rdI X.K X.mg W it) gR (rdT X.K X.mg (wF W) t) (rdE X.K X.mg (wF W) ed) vs) (gName i))) : DS X W st (sAsg (gN i) (eLc it g t ed vs)) := h.imp fun D σ H ⟨G, Hf, δ, I, q⟩ => by
  refine rd_lc hg ⟨G, Hf, δ, I, (SPost.with q).mono fun v H1 ⟨Hf1, δ1, r, s1, I1, r1, q1⟩ => ?_⟩
  split at q1
  · exact q1.elim
  · rename_i δ2 h2
    obtain ⟨Hf2, s2, I2⟩ := I1.gN r1 h2
    exact q1 Hf2 _ H1 s2 I2
theorem pts_true : PTs X [] (rdT X.K X.mg (wF W) tTrue) := ⟨fun pins s σ H Q I ⟨G, Hf, δ, J, q⟩ => pts_nil.run pins s σ H Q I (q Hf H (Same.refl _) J)⟩
theorem pts_of {c : Expr} (h : DT X (wF W) c t) : PTs X [c] (rdT X.K X.mg (wF W) t) := pts_one h
end
end Dn

/-! enumerate over a tuple -/
namespace PySem
theorem dn_enum_new {v : Value} {o : Obj} {H : Heap → Prop} (B : Begins v o H) :
    Meets (Builtin.«enumerate.__new__» ⟨[.type "enumerate", v], []⟩) (fun _ R s => H s.heap ∧ R (.ok (.ret (.ref (s.heap.push o).objs.size))) { s with heap := (s.heap.push o).push { cls := .type "enumerate", data := .fields #[.none, .bool false, .ref s.heap.objs.size, rawInt 0, .none, .none] } }) :=
  .of_wp fun prog w A R s ⟨h1, h2⟩ => by
    obtain ⟨hp, g, d, tk, os⟩ := s
    have sub := sub_enumerate
    have start : ∀ {A2 : Around} {E2 : Value → Shared → Prop} {Q2 : Value → Shared → Prop}, Q2 (.ref hp.objs.size) ⟨hp.push o, g, d, tk, os⟩ → wpAny (model prog w) A2 (pyIter v) Q2 E2 ⟨hp, g, d, tk, os⟩ := B.iter prog w _ _ ⟨hp, g, d, tk, os⟩ _ h1
    wp_walk using start
    refine wpAny_stack_any fun fr => wpAny_pure ?_
    split
    · rename_i ty _ _ _ _ _
      cases (ty == Value.type "enumerate") <;> (wp_walk using start; exact ⟨_, rfl, h2⟩)
    · wp_walk using start
      exact ⟨_, rfl, h2⟩
section
variable {prog : Program} {w : World} {A : Around} {E : Value → Shared → Prop} {s : Shared}
theorem dn_enum_call {v : Value} {o : Obj} {H : Heap → Prop} {Q : Value → Shared → Prop} (B : Begins v o H) (h1 : H s.heap)
    (h : ∀ h', IsEnum h' (s.heap.objs.size + 1) s.heap.objs.size 0 .none → h'.get? s.heap.objs.size = some o → h'.objs.size = s.heap.objs.size + 2 → (∀ b o, s.heap.get? b = some o → h'.get? b = some o) → Q (.ref (s.heap.objs.size + 1)) { s with heap := h' }) :
    wpAny (model prog w) A (call (.type "enumerate") [v]) Q E s := by
  have hz : (s.heap.push o).objs.size = s.heap.objs.size + 1 := Heap.size_push ..
  refine callType_new F.called_enumerate (by decide) (F.typeCall_enumerate_1 _) (F.newCall_enumerate_1 _) (fun obj => F.args_object_init_2 obj _) F.entry_enumerate_new (dn_enum_new B) ⟨h1, ?_⟩
  show _ ∧ _
  have he : ((s.heap.push o).push { cls := .type "enumerate", data := .fields #[.none, .bool false, .ref s.heap.objs.size, rawInt 0, .none, .none] }).get? (s.heap.push o).objs.size = some { cls := .type "enumerate", data := .fields #[.none, .bool false, .ref s.heap.objs.size, rawInt 0, .none, .none] } := Heap.get?_push_size _ rfl
  rw [hz] at he ⊢
  exact ⟨⟨_, he, rfl⟩, h _ he (Heap.get?_push_of_some _ (Heap.get?_push_size _ B.free)) (by rw [Heap.size_push, hz]) fun b o x => Heap.get?_push_of_some _ (Heap.get?_push_of_some _ x)⟩
end
end PySem
namespace Dn
open PySem PySem.Spec L2
open PyProof.Rows (envOfC)
def Itet (K : PySem.W.Frag) (a : Addr) : It where
  go := fun i H => ∃ (xs : List V) (x : V), SqT K H a xs ∧ xs[i]? = some x
  yld := fun i H v H' => ∃ T x, v = .ref T ∧ H T = none ∧ H' = upd H T (.tup [.int (i : Nat), x]) ∧ ∀ xs, SqT K H a xs → xs[i]? = some x
  stop := fun i H => ∃ xs : List V, SqT K H a xs ∧ xs.length = i
theorem turn_enumT {P : Program} {w : World} {K : PySem.W.Frag} {elts : List Expr} {kk : Nat} {tpos : Pos} (a e it : Addr) :
    Turn P w K (.Tuple elts kk tpos) (Itet K a) [e, it] e (fun i h => (∃ old, IsEnum h e it ((i : Nat) : Int) old) ∧ h.IsTupleIter it a i ∧ e ≠ it ∧ e ≠ a ∧ a ≠ it) where
  mem := by simp
  obj := fun i h ⟨⟨old, he⟩, ⟨o, ho, hc, hd⟩, _⟩ b hb => by
    rcases (show b = e ∨ b = it by simpa using hb) with z | z
    · subst z; exact ⟨_, he, fun v q => nomatch q⟩
    · subst z; exact ⟨o, ho, fun v q => by rw [hd] at q; cases q⟩
  keep := fun i h h' ⟨⟨old, he⟩, hi, hne⟩ k => ⟨⟨old, k e (by simp) _ he⟩, hi.at fun o q => k it (by simp) o q, hne⟩
  item := by
    intro X hP hw hK hc i pins s σ H E I hf st hg
    subst hP hw hK
    obtain ⟨⟨old, he⟩, hit, n1, n2, n3⟩ := st
    obtain ⟨xs, x, hq, hx⟩ := hg
    obtain ⟨its, rv, p, hz⟩ := I.tuple hq
    obtain ⟨u, hu, ru⟩ := rv.get hx
    have hel : e < s.heap.objs.size := Heap.lt_size he
    have hil : it < s.heap.objs.size := by obtain ⟨_, q, _⟩ := hit; exact Heap.lt_size q
    have hlt : i < its.toArray.size := by have := (List.getElem?_eq_some_iff.mp hu).1; simpa using this
    have Dr : Draws X.prog X.w X.A.in1 it [it, a] its.toArray.size (fun i v => its.toArray[i]? = some v) (fun i h => h.IsTupleIter it a i ∧ h.IsTuple a its.toArray) := Draws.tuple (show X.A.in1.handled = none from I.ok.hd hc) it a n3 its.toArray
    refine wpAny_pyNext_enum_itemD Dr he ⟨hit, p⟩ hlt n1 (by simp [n1, n2]) fun x' h' tk hx' ho hst hT hsz hk => ?_
    have hxu : x' = u := by
      have e1 : its[i]? = some x' := by simpa using hx'
      rw [hu] at e1
      exact (Option.some.inj e1).symm
    subst hxu
    refine ⟨_, rfl, wpAny_letOwnedTupleGo_enum (s := { s with heap := h', toks := tk + 1 }) ho fun h'' he' sb => ?_⟩
    have hT2 : h''.get? s.heap.objs.size = some { cls := .type "tuple", data := .seq #[.int i tk, x'] } := (sb.2 _ (Nat.ne_of_gt hel)).trans hT
    have new : ObjOk X.prog X.w (upd H s.heap.objs.size (.tup [.int (i : Nat), x])) h'' s.heap.objs.size (.tup [.int (i : Nat), x]) :=
      ⟨by show 2 ≤ sizeLine; decide, [.int i tk, x'], .cons ⟨_, rfl⟩ (.cons ru .nil), ⟨_, hT2, rfl, _, rfl⟩⟩
    have I1 : Inv X pins σ (upd H s.heap.objs.size (.tup [.int (i : Nat), x])) { s with heap := h'', toks := tk + 1 } :=
      I.turnedNew (ch := [e, it]) (fun b ob hb q => by
        have b1 : b ≠ e := fun z => hb (by simp [z])
        have b2 : b ≠ it := fun z => hb (by simp [z])
        exact (sb.2 b b1).trans (hk b ob b1 b2 q)) hf (Nat.le_refl _) new
    refine ⟨.ref s.heap.objs.size, _, I1, rfl, ⟨_, x, rfl, I.hok.fresh (Nat.le_refl _), rfl, fun ys hy => ?_⟩, ⟨⟨x', ?_⟩, hst.1.at fun o q => (sb.2 it (Ne.symm n1)).trans q, n1, n2, n3⟩, fun b hb => ?_⟩
    · rw [I.tuple_inj hy hq]; exact hx
    · rw [show ((i + 1 : Nat) : Int) = (i : Int) + 1 by omega]
      exact he'
    · have hb' : b < s.heap.objs.size := by
        rcases (show b = e ∨ b = it by simpa using hb) with z | z
        · rw [z]; exact hel
        · rw [z]; exact hil
      rw [upd_ne (Nat.ne_of_lt hb')]
      exact (hf b hb).1
  done := by
    intro X hP hw hK hc i pins s σ H E I hf st hg
    subst hP hw hK
    obtain ⟨⟨old, he⟩, hit, n1, n2, n3⟩ := st
    obtain ⟨xs, hq, hx⟩ := hg
    obtain ⟨its, rv, p, hz⟩ := I.tuple hq
    obtain ⟨f0, f1, f2, f3, f4, f5⟩ := hf it (by simp)
    have hl := rv.length
    have hi : i = its.toArray.size := by simp; omega
    subst hi
    have Dr : Draws X.prog X.w X.A.in1 it [it, a] its.toArray.size (fun i v => its.toArray[i]? = some v) (fun i h => h.IsTupleIter it a i ∧ h.IsTuple a its.toArray) := Draws.tuple (show X.A.in1.handled = none from I.ok.hd hc) it a n3 its.toArray
    exact wpAny_pyNext_enum_endD Dr he ⟨hit, p⟩ fun h' eb => ⟨rfl, I.turned (t' := s.toks) (fun b o hb q => eb b o hb q) f0 f1 f3 f4 f5⟩
  self := fun A i s Q E ⟨⟨_, he⟩, _⟩ h => wpAny_pyIter_enum he h
/-- enumerate of a list or a tuple -/
def iEnumA (K : PySem.W.Frag) (ta : TA) : TI := fun σ H R => ta σ H fun vs H1 => ∃ a xs, vs = [.ref a] ∧ ((SqL K H1 a xs ∧ R (Ite K a) H1) ∨ (SqT K H1 a xs ∧ R (Itet K a) H1))
theorem pi_enumA {X : Cx} {e : Expr} {ta : TA} {p pos tpos : Pos} {elts : List Expr} {kk : Nat} (hg : Gl X "enumerate") (hm : X.mg "enumerate" = none) (ha : PA X [e] ta) (hs : starEach [e] X.env = [(false, eval e X.env)] := by rfl) :
    PI X (.Tuple elts kk tpos) (.Call (.Name "enumerate" p) [e] [] pos) (iEnumA X.K ta) := by
  refine ⟨fun pins s σ H R I h => ?_⟩
  refine PyProof.Rows.Call_ (ld_blt I hg hm PyProof.Rows.boot_enumerate (PyProof.Rows.callWith_type1 (thn (ha.run pos pins s σ H _ I h) fun us s1 ⟨vs, H1, I1, r1, q1⟩ => ?_) hs rfl))
  obtain ⟨a, xs, ex, q⟩ := q1
  subst ex
  cases r1 with
  | cons r rr =>
    cases rr
    cases r
    have old : ∀ {b : Addr}, b = s1.heap.objs.size + 1 ∨ b = s1.heap.objs.size → s1.heap.objs.size ≤ b := fun {b} z => by
      rcases z with z | z
      · rw [z]; exact Nat.le_add_right _ _
      · rw [z]; exact Nat.le_refl _
    rcases q with ⟨hq, q⟩ | ⟨hq, q⟩
    · obtain ⟨its, rv, p', hz⟩ := I1.list hq
      refine call_enumerate_list p'.isList fun h' he hit hsz hk => wpAny_pyIter_enum he ?_
      have I2 : Inv X pins σ H1 { s1 with heap := h' } := I1.kept (t' := s1.toks) hk
      exact ⟨s1.heap.objs.size + 1, [s1.heap.objs.size + 1, s1.heap.objs.size], _, _, H1, rfl, I2, turn_enum a (s1.heap.objs.size + 1) s1.heap.objs.size, ⟨⟨.none, he⟩, hit, Nat.succ_ne_self _⟩,
        fun b hb => I1.fpOk (old (by simpa using hb)) (I1.hok.fresh (old (by simpa using hb))), q⟩
    · obtain ⟨its, rv, p', hz⟩ := I1.tuple hq
      have hal : a < s1.heap.objs.size := by
        obtain ⟨o, ho, _⟩ := (show s1.heap.IsTuple a its.toArray from p')
        exact Heap.lt_size ho
      refine PySem.dn_enum_call (begins_tuple a its.toArray) p' fun h' he hit hsz hk => wpAny_pyIter_enum he ?_
      have I2 : Inv X pins σ H1 { s1 with heap := h' } := I1.kept (t' := s1.toks) hk
      exact ⟨s1.heap.objs.size + 1, [s1.heap.objs.size + 1, s1.heap.objs.size], _, _, H1, rfl, I2, turn_enumT a (s1.heap.objs.size + 1) s1.heap.objs.size,
        ⟨⟨.none, he⟩, ⟨_, hit, rfl, rfl⟩, Nat.succ_ne_self _, Nat.ne_of_gt (Nat.lt_succ_of_lt hal), Nat.ne_of_lt hal⟩, fun b hb => I1.fpOk (old (by simpa using hb)) (I1.hok.fresh (old (by simpa using hb))), q⟩
theorem Walk.enumT {K : PySem.W.Frag} {Hf : Hp} {a : Addr} {xs : List V} {ds : List D} (h : SqT K Hf a xs) (r : RelL K Hf ds xs) : Walk K (Itet K a) Hf (enumD ds) where
  go := fun i H s hi => ⟨xs, xs[i]'(by rw [r.length]; simpa [enumD] using hi), Same.sqt s h, by simp⟩
  stop := fun H s => ⟨xs, Same.sqt s h, by rw [r.length]; simp [enumD]⟩
  yld := fun i d H x H' s hd ⟨T, z, e1, e2, e3, y⟩ => by
    simp only [enumD, List.getElem?_map, List.getElem?_zipIdx, Nat.zero_add] at hd
    cases h1 : ds[i]? with
    | none => rw [h1] at hd; cases hd
    | some d' =>
      rw [h1] at hd
      cases hd
      obtain ⟨w, h2, h3⟩ := r.get h1
      have := y xs (Same.sqt s h)
      rw [h2] at this
      cases this
      exact .inr ⟨T, _, _, e2, e3, e1, rfl, RelL.cons rfl (RelL.cons h3 RelL.nil)⟩
def fEnumA : List D → Option (List D)
  | [.lst ds] => some (enumD ds)
  | [.tup ds] => some (enumD ds)
  | _ => none
theorem di_enumA {X : Cx} {W : WT} {tg e : Expr} {ad : AD} (h : PI X tg e (iEnumA X.K (rdA X.K X.mg W ad))) : DI X W tg e (itArgs ad fEnumA) := h.imp fun σ H R q => rd_args q fun ds its vs Hf H s r e k => by
  unfold fEnumA at e
  split at e
  · cases e
    simp only [RelL, Rel] at r
    obtain ⟨_, _, rfl, ⟨a, xs, rfl, h1, h2⟩, rfl⟩ := r
    exact ⟨a, xs, rfl, .inl ⟨SqL.of (s _ _ h1), k _ (Walk.enum (SqL.of h1) h2)⟩⟩
  · cases e
    simp only [RelL, Rel] at r
    obtain ⟨_, _, rfl, ⟨a, xs, rfl, h1, h2⟩, rfl⟩ := r
    exact ⟨a, xs, rfl, .inr ⟨Same.sqt s h1, k _ (Walk.enumT h1 h2)⟩⟩
  · cases e
end Dn

/-! t[a:b] that is the whole of t -/
namespace HT
open PySem PyProof.Rows
open PySem.SeqAt PySem.MeetsSeq PySem.MeetsSeq2 PySem.MeetsSeq3
section
variable {prog : Program} {w : World} {A : Around} {E : Value → Shared → Prop} {s : Shared}
theorem dn_whole {t sl : Addr} {items : Array Value} {vl vu : Value} {lo hi : Option Int} {Q : Value → Shared → Prop} (ht : IsTup s.heap t items) (hs : s.heap.IsSliceOf sl vl vu .none) (pl : IsPart vl lo) (pu : IsPart vu hi)
    (h0 : sIx items.size 0 lo = 0) (h1 : sIx items.size items.size hi = items.size) (h : Q (.ref t) s) : wpAny (model prog w) A (getItem (.ref t) (.ref sl)) Q E s := by
  obtain ⟨os, ho, hc, _⟩ := id hs
  have hT : s.TypeIs (.ref sl) "slice" := ⟨os, ho, hc⟩
  unfold getItem
  refine wpAny_holding (wpAny_bind (wpAny_sequenceKey ht.typeIs (by decide) ?_))
  refine wpAny_bind (wpAny_callSpecial?_slot (name := Str.ofString "__getitem__") ht.typeIs slot_tuple_getitem (wpAny_call_entry slot_tuple_getitem ht.typeIs entry_tuple_getitem ?_ (args_tuple_getitem _ _)))
  show wpAny _ _ (Builtin.Tuple.tupleItemsOf (.ref t) >>= _) _ _ s
  refine wpAny_bind (tupleItemsOf_ ht (wpAny_bind (wpAny_typeOf hT ?_)))
  rw [if_pos (by decide)]
  refine wpAny_bind (sliceApplied_gen hs pl pu ?_)
  rw [h0, h1]
  have yes : ((((0 : Nat) : Int) == 0) && ((1 : Int) == 1) && (items.size - 0 == items.size)) = true := by simp
  show wpAny _ _ (if ((((0 : Nat) : Int) == 0) && ((1 : Int) == 1) && (items.size - 0 == items.size)) = true then _ else _) _ _ s
  rw [if_pos yes]
  have ex : ∀ {R : Bool → Shared → Prop}, R true s → wpAny (model prog w) A.in1 (Builtin.Tuple.tupleIsExact (.ref t)) R E s := fun {R} r => by
    unfold Builtin.Tuple.tupleIsExact
    refine wpAny_bind (wpAny_typeOf ht.typeIs (wpAny_pure ?_))
    exact r
  refine wpAny_bind (wpAny_mono (ex (R := fun b s' => b = true ∧ s' = s) ⟨rfl, rfl⟩) (fun b s' hb => ?_) fun _ _ z => z)
  obtain ⟨rfl, rfl⟩ := hb
  rw [if_pos rfl]
  refine wpAny_bind (wpAny_rule ?_)
  exact wpAny_pure ⟨_, rfl, wpAny_pure h⟩
end
end HT
namespace L2
open PySem PySem.Spec PyProof.Rows
def rSlTW (K : PySem.W.Frag) : V → Option Int → Option Int → Hp → VK → Prop := fun x lo hi H Q => ∃ a xs, x = .ref a ∧ SqT K H a xs ∧ HT.sIx xs.length 0 lo = 0 ∧ HT.sIx xs.length xs.length hi = xs.length ∧ Q x H
theorem sl_tupW {X : Cx} : SlR X (rSlTW X.K) := by
  intro pins s σ H x v vl vu lo hi sl Q I rx hs pl pu h
  obtain ⟨a, xs, rfl, hx, h0, h1, q⟩ := h
  cases rx
  obtain ⟨its, r, ht, hz⟩ := I.tuple hx
  have hlen : its.toArray.size = xs.length := by rw [List.size_toArray]; exact r.length.symm
  exact ⟨"tuple", _, PyProof.Rows.slot_tuple_getitem.lookup, ht.typeIs, HT.dn_whole ht hs pl pu (by rw [hlen]; exact h0) (by rw [hlen]; exact h1) ⟨.ref a, H, I, rfl, q⟩⟩
end L2

namespace Dn
open PySem PySem.Spec L2
open PyProof.Rows
section
variable {pg : Program} {wd : World} {Ar : Around} {Er : Value → Shared → Prop} {st : Shared}
theorem backAdj (n : Nat) : Builtin.Slice.sliceAdjust none none (-1) (n : Int) = ((n : Int) - 1, -1) := by
  simp [Builtin.Slice.sliceAdjust]
theorem backMany (n : Nat) : Builtin.Slice.slicePlaces ((n : Int) - 1) (-1) (-1) = n := by
  unfold Builtin.Slice.slicePlaces
  simp only [show ¬ ((-1 : Int) > 0) by decide, if_false, Int.neg_neg, Int.ediv_one]
  split <;> omega
theorem fm_congr {α β : Type} {f g : α → Option β} : ∀ {l : List α}, (∀ x ∈ l, f x = g x) → l.filterMap f = l.filterMap g
  | [], _ => rfl
  | x :: l, h => by
    rw [List.filterMap_cons, List.filterMap_cons, h x (by simp), fm_congr fun y hy => h y (by simp [hy])]
theorem backPick (xs : Array Value) : ((List.range xs.size).filterMap fun (m : Nat) => xs[((xs.size : Int) - 1 + (m : Int) * -1).toNat]?).toArray = xs.toList.reverse.toArray := by
  congr 1
  have e1 : ((List.range xs.size).filterMap fun (m : Nat) => xs[((xs.size : Int) - 1 + (m : Int) * -1).toNat]?) = ((List.range xs.size).map fun k => xs.size - 1 - k).filterMap (xs[·]?) := by
    rw [List.filterMap_map]
    refine fm_congr fun m hm => ?_
    have hm := List.mem_range.mp hm
    show _ = xs[xs.size - 1 - m]?
    congr 1
    omega
  rw [e1, PySem.W.krv_range, List.filterMap_reverse, PySem.W.krv_all]
theorem backSlice {sl : Addr} {vx : Value} {n : Nat} {Qq : Int × Int × Nat → Shared → Prop} (hsl : st.heap.IsSliceOf sl .none .none vx) (px : IsPart vx (some (-1))) (hq : Qq ((n : Int) - 1, -1, n) st) : wpAny (model pg wd) Ar (Builtin.Slice.sliceApplied (.ref sl) (pure (n : Int))) Qq Er st := by
  obtain ⟨ob, b1, b2, b3⟩ := id hsl
  unfold Builtin.Slice.sliceApplied Builtin.Slice.sliceFields
  refine wpAny_bind (wpAny_bind (wpAny_field b1 b3 (x := .none) rfl ?_))
  refine wpAny_bind (wpAny_field b1 b3 (x := .none) rfl ?_)
  refine wpAny_bind (wpAny_field b1 b3 (x := vx) rfl (wpAny_pure ?_))
  refine wpAny_bind (HT.slicePart_ px ?_)
  show wpAny _ _ (if ((-1 : Int) == 0) = true then _ else _) _ _ st
  rw [if_neg (by decide)]
  refine wpAny_bind (HT.slicePart_ .none (wpAny_bind (HT.slicePart_ .none (wpAny_bind (wpAny_pure ?_)))))
  show wpAny _ _ (match Builtin.Slice.sliceAdjust none none (-1) (n : Int) with | (lo, hi) => pure (lo, (-1 : Int), Builtin.Slice.slicePlaces lo hi (-1))) _ _ st
  rw [backAdj]
  show wpAny _ _ (pure ((n : Int) - 1, (-1 : Int), Builtin.Slice.slicePlaces ((n : Int) - 1) (-1) (-1))) _ _ st
  rw [backMany]
  exact wpAny_pure hq
theorem backTuple {t sl : Addr} {items : Array Value} {vx : Value} {Qq : Value → Shared → Prop} (ht : IsTup st.heap t items) (hsl : st.heap.IsSliceOf sl .none .none vx) (px : IsPart vx (some (-1)))
    (hq : Qq (.ref st.heap.objs.size) { st with heap := st.heap.push { cls := .type "tuple", data := .seq items.toList.reverse.toArray } }) (hz : items.size ≤ sizeLine) : wpAny (model pg wd) Ar (getItem (.ref t) (.ref sl)) Qq Er st := by
  have fits : sizeOk (.seq items.toList.reverse.toArray) := by
    show items.toList.reverse.toArray.size ≤ sizeLine
    simpa using hz
  obtain ⟨ob, b1, b2, b3⟩ := id hsl
  have isSl : st.TypeIs (.ref sl) "slice" := ⟨ob, b1, b2⟩
  unfold getItem
  try with_reducible refine wpAny_holding ?_
  first | refine wpAny_bind (wpAny_pure ?_) | skip
  refine wpAny_bind (wpAny_sequenceKey ht.typeIs (by decide) ?_)
  refine wpAny_bind (wpAny_callSpecial?_slot (name := Str.ofString "__getitem__") ht.typeIs PyProof.Rows.slot_tuple_getitem (wpAny_call_entry PyProof.Rows.slot_tuple_getitem ht.typeIs entry_tuple_getitem ?_ (args_tuple_getitem _ _)))
  show wpAny _ _ (Builtin.Tuple.tupleItemsOf (.ref t) >>= _) _ _ st
  refine wpAny_bind (tupleItemsOf_ ht ?_)
  refine wpAny_bind (wpAny_typeOf isSl ?_)
  rw [if_pos (by decide)]
  refine wpAny_bind (backSlice hsl px ?_)
  have no : ¬ ((((items.size : Int) - 1) == 0 && (-1 : Int) == 1 && items.size == items.size) = true) := by simp
  show wpAny _ _ (if ((((items.size : Int) - 1) == 0 && (-1 : Int) == 1 && items.size == items.size) = true) then _ else _) _ _ st
  rw [if_neg no, backPick]
  first
    | exact wpAny_bind (m := Builtin.Tuple.tupleExact _) (wpAny_newObj_type (wpAny_pure ⟨_, rfl, wpAny_pure hq⟩) fits)
    | exact wpAny_bind (m := Builtin.Tuple.tupleExact _) (wpAny_newObj_type (wpAny_bind (wpAny_pure (wpAny_pure ⟨_, rfl, wpAny_pure hq⟩))) fits)
    | exact wpAny_bind (wpAny_bind (m := Builtin.Tuple.tupleExact _) (wpAny_newObj_type (wpAny_pure (wpAny_pure ⟨_, rfl, wpAny_pure hq⟩)) fits))
    | exact wpAny_bind (wpAny_bind (m := Builtin.Tuple.tupleExact _) (wpAny_newObj_type (wpAny_pure ⟨_, rfl, wpAny_pure hq⟩) fits))
end
/-- v[::-1] of a list or a tuple -/
def tRevA (K : PySem.W.Frag) (te : TE) : TE := fun σ H Q => te σ H fun x H1 => ∃ a xs, x = .ref a ∧
  ((SqL K H1 a xs ∧ ∀ p, H1 p = none → Q (.ref p) (upd H1 p (.lst xs.reverse))) ∨ (SqT K H1 a xs ∧ ∀ p, H1 p = none → Q (.ref p) (upd H1 p (.tup xs.reverse))))
theorem pe_revA {X : Cx} {e : Expr} {te : TE} {kk : Nat} {q1 q2 q3 qp : Pos} (he : PE X e te) : PE X (.Subscript e (.Slice none none (some (.UnaryOp .USub (.Constant (.int 1) kk q1) q2)) q3) qp) (tRevA X.K te) := by
  refine ⟨fun pn sh σ H Q I h => Subscript_ (thn (he.run pn sh σ H _ I h) fun v sa ⟨x, Ha, Ia, ra, a, xs, ex, hx⟩ => ?_)⟩
  subst ex
  cases ra
  have part : PO X (some (.UnaryOp .USub (.Constant (.int 1) kk q1) q2)) (tPart (tUn (rU fun i => .int (-i)) (tC (.int 1)))) := po_some (pe_un un_neg pe_int)
  refine wpAny_Slice (thn (po_none.run pn sa σ Ha (fun o Hb => o = none ∧ Hb = Ha) Ia ⟨rfl, rfl⟩) fun va sb ⟨o1, Hb, Ib, pa, z1, y1⟩ => ?_)
  subst z1 y1
  refine thn (po_none.run pn sb σ Hb (fun o Hc => o = none ∧ Hc = Hb) Ib ⟨rfl, rfl⟩) fun vb sc ⟨o2, Hc, Ic, pb, z2, y2⟩ => ?_
  subst z2 y2
  refine thn (part.run pn sc σ Hc (fun o Hd => o = some (-1) ∧ Hd = Hc) Ic ⟨1, rfl, -1, rfl, rfl, rfl⟩) fun vc sd ⟨o3, Hd, Id, pc, z3, y3⟩ => ?_
  subst z3 y3
  have Ie : Inv X pn σ Hd { sd with heap := sd.heap.push { cls := .type "slice", data := .fields #[va, vb, vc] } } := Id.kept (t' := sd.toks) fun b ob q => Heap.get?_push_of_some _ q
  cases pa
  cases pb
  show wpAny (model X.prog X.w) X.A (subscriptTail e (.Slice none none (some (.UnaryOp .USub (.Constant (.int 1) kk q1) q2)) q3) (.ref a) (.ref sd.heap.objs.size)) _ _ _
  rcases hx with ⟨hl, q⟩ | ⟨hl, q⟩
  · obtain ⟨its, r, ht, hz⟩ := Ie.list hl
    have hn := r.length
    refine tail_any (ops := [.ref a, .ref sd.heap.objs.size]) ht.isList.typeIs (PySem.slot_list_getitem.lookup) ?_ (by with_unfolding_all rfl)
    refine wpAny_getItem_list_slice ht.isList (Heap.IsSliceOf.new _ .none .none vc) .none .none pc (by decide) ?_ (by rw [List.size_toArray]; omega)
    rw [PySem.W.krv_pick]
    exact ⟨.ref _, _, Ie.laid (t' := sd.toks) (o := .lst xs.reverse) (fun b ob w => Heap.get?_push_of_some _ w) (Nat.le_refl _) ⟨by rw [List.length_reverse]; exact hz, _, 0, r.reverse, Heap.get?_push_size _ rfl⟩, rfl, q _ (Ie.hok.fresh (Nat.le_refl _))⟩
  · obtain ⟨its, r, ht, hz⟩ := Ie.tuple hl
    have hn := r.length
    refine tail_any (ops := [.ref a, .ref sd.heap.objs.size]) ht.typeIs (PyProof.Rows.slot_tuple_getitem.lookup) ?_ (by with_unfolding_all rfl)
    refine backTuple ht (Heap.IsSliceOf.new _ .none .none vc) pc ?_ (by rw [List.size_toArray]; omega)
    exact ⟨.ref _, _, Ie.laid (t' := sd.toks) (o := .tup xs.reverse) (fun b ob w => Heap.get?_push_of_some _ w) (Nat.le_refl _) ⟨by rw [List.length_reverse]; exact hz, _, r.reverse, IsTup.new _ _⟩, rfl, q _ (Ie.hok.fresh (Nat.le_refl _))⟩
end Dn

namespace Dn
open PySem PySem.Spec L2

section
variable {X : Cx}
theorem Op2.or {f : Value → Value → Sem Value} {sem s1 s2 : D → D → Option OR} (h1 : Op2 X f s1) (h2 : Op2 X f s2) (h : ∀ d e out, sem d e = some out → s1 d e = some out ∨ s2 d e = some out) : Op2 X f sem := by
  obtain ⟨r1, a1, b1⟩ := h1
  obtain ⟨r2, a2, b2⟩ := h2
  refine ⟨_, a1.or a2, fun Hf H d e x y out Q s rx ry he q => ?_⟩
  rcases h d e out he with z | z
  · exact .inl (b1 Hf H d e x y out Q s rx ry z q)
  · exact .inr (b2 Hf H d e x y out Q s rx ry z q)
theorem RN.tup {K : PySem.W.Frag} {Hf H : Hp} {ds : List D} {x : V} (h : RN K Hf H (.tup ds) x) : ∃ a xs, x = .ref a ∧ SqT K Hf a xs ∧ RelL K Hf ds xs := by
  have h : Rel K Hf (.tup ds) x := h
  unfold Rel at h
  exact h
theorem RN.scr {K : PySem.W.Frag} {Hf H : Hp} {ds : List D} {x : V} (h : RN K Hf H (.scr ds) x) : ∃ a xs, x = .ref a ∧ SqL K Hf a xs ∧ RelL K Hf ds xs := by
  have h : Rel K Hf (.scr ds) x := h
  unfold Rel at h
  exact h

/-! ## + - * // % ** -/
def iiD (g : Int → Int → Int) : D → D → Option OR
  | .int i, .int j => some (.v (.int (g i j)))
  | _, _ => none
def iicD (c : Int → Int → Bool) (g : Int → Int → Int) : D → D → Option OR
  | .int i, .int j => if c i j then some (.v (.int (g i j))) else none
  | _, _ => none
theorem op2_ii {f : Value → Value → Sem Value} {g : Int → Int → Int} (h : OpR X f (rI0 fun i j => .int (g i j))) : Op2 X f (iiD g) := ⟨_, h, fun Hf H d e x y out Q s rx ry he q => by
  unfold iiD at he
  split at he
  · cases he; cases rx; cases ry; exact ⟨_, _, rfl, rfl, q _ rfl⟩
  · cases he⟩
theorem op2_iic {f : Value → Value → Sem Value} {C : Int → Int → Prop} {c : Int → Int → Bool} {g : Int → Int → Int} (h : OpR X f (rI C fun i j => .int (g i j))) (hc : ∀ i j, c i j = true → C i j) : Op2 X f (iicD c g) := ⟨_, h, fun Hf H d e x y out Q s rx ry he q => by
  unfold iicD at he
  split at he
  · split at he
    · rename_i hcc
      cases he; cases rx; cases ry; exact ⟨_, _, rfl, rfl, hc _ _ hcc, q _ rfl⟩
    · cases he
  · cases he⟩
def addS : D → D → Option OR
  | .str a, .str b => if a.length + b.length ≤ 16777216 then some (.v (.str (a ++ b))) else none
  | _, _ => none
theorem op2_addS : Op2 X (binaryOp .Add) addS := ⟨_, op_add_str, fun Hf H d e x y out Q s rx ry he q => by
  unfold addS at he
  split at he
  · split at he
    · rename_i hz
      cases he; cases rx; cases ry; exact ⟨_, _, rfl, rfl, by rw [← szl]; exact hz, q _ rfl⟩
    · cases he
  · cases he⟩
def addL : D → D → Option OR
  | .lst a, .lst b => if a.length + b.length ≤ 16777216 then some (.l (a ++ b)) else none
  | _, _ => none
theorem op2_addL : Op2 X (binaryOp .Add) addL := ⟨_, op_cat, fun Hf H d e x y out Q s rx ry he q => by
  unfold addL at he
  split at he
  · split at he
    · rename_i hz
      cases he
      obtain ⟨a, xs, rfl, h1, h2⟩ := rx
      obtain ⟨b, ys, rfl, h3, h4⟩ := ry
      exact ⟨a, b, xs, ys, rfl, rfl, h1, h3, by rw [h2.length, h4.length, ← szl]; exact hz, fun p hp => q p _ hp (RelL.append h2 h4)⟩
    · cases he
  · cases he⟩
def addT : D → D → Option OR
  | .tup a, .tup b => if a.length + b.length ≤ 16777216 then (if a.isEmpty then some (.v (.tup b)) else if b.isEmpty then some (.v (.tup a)) else some (.t (a ++ b))) else none
  | _, _ => none
theorem op2_addT : Op2 X (binaryOp .Add) addT := ⟨_, op_catA, fun Hf H d e x y out Q s rx ry he q => by
  unfold addT at he
  split at he
  · rename_i ds es
    split at he
    · rename_i hz
      obtain ⟨a, xs, rfl, h1, h2⟩ := RN.tup rx
      obtain ⟨b, ys, rfl, h3, h4⟩ := RN.tup ry
      have l1 := h2.length
      have l2 := h4.length
      refine ⟨a, b, xs, ys, rfl, rfl, Same.sqt s h1, Same.sqt s h3, by rw [l1, l2, ← szl]; exact hz, fun z => ?_, fun z0 z => ?_, fun z0 z p hp => ?_⟩
      · subst z
        have : ds = [] := List.length_eq_zero_iff.mp (by simpa using l1.symm)
        subst this
        cases he
        exact q _ (by unfold Rel; exact ⟨b, ys, rfl, h3, h4⟩)
      · subst z
        have : es = [] := List.length_eq_zero_iff.mp (by simpa using l2.symm)
        subst this
        have hd : ¬ ds.isEmpty = true := fun w => by
          cases ds with
          | nil => exact z0 (List.length_eq_zero_iff.mp (by simpa using l1))
          | cons _ _ => cases w
        rw [if_neg hd] at he
        cases he
        exact q _ (by unfold Rel; exact ⟨a, xs, rfl, h1, h2⟩)
      · have hd : ¬ ds.isEmpty = true := fun w => by
          cases ds with
          | nil => exact z0 (List.length_eq_zero_iff.mp (by simpa using l1))
          | cons _ _ => cases w
        have : ¬ es.isEmpty = true := fun w => by
          cases es with
          | nil => exact z (List.length_eq_zero_iff.mp (by simpa using l2))
          | cons _ _ => cases w
        rw [if_neg hd, if_neg this] at he
        cases he
        exact q p _ hp (RelL.append h2 h4)
    · cases he
  · cases he⟩
def addIB : D → D → Option OR
  | .int i, .bl k => some (.v (.int (i + if k then 1 else 0)))
  | _, _ => none
theorem op2_addIB : Op2 X (binaryOp .Add) addIB := ⟨_, op_add_ib, fun Hf H d e x y out Q s rx ry he q => by
  unfold addIB at he
  split at he
  · cases he; cases rx; cases ry; exact ⟨_, _, rfl, rfl, q _ (by rename_i k; cases k <;> rfl)⟩
  · cases he⟩
def addD : D → D → Option OR
  | .int i, .int j => some (.v (.int (i + j)))
  | .str a, .str b => addS (.str a) (.str b)
  | .lst a, .lst b => addL (.lst a) (.lst b)
  | .tup a, .tup b => addT (.tup a) (.tup b)
  | .int i, .bl k => addIB (.int i) (.bl k)
  | _, _ => none
theorem o_add : Op2 X (binaryOp .Add) addD := by
  refine Op2.or (op2_ii op_add) (Op2.or op2_addS (Op2.or op2_addL (Op2.or op2_addT op2_addIB (sem := fun d e => match d, e with
    | .tup a, .tup b => addT (.tup a) (.tup b)
    | .int i, .bl k => addIB (.int i) (.bl k)
    | _, _ => none) ?_) (sem := fun d e => match d, e with
    | .lst a, .lst b => addL (.lst a) (.lst b)
    | .tup a, .tup b => addT (.tup a) (.tup b)
    | .int i, .bl k => addIB (.int i) (.bl k)
    | _, _ => none) ?_) (sem := fun d e => match d, e with
    | .str a, .str b => addS (.str a) (.str b)
    | .lst a, .lst b => addL (.lst a) (.lst b)
    | .tup a, .tup b => addT (.tup a) (.tup b)
    | .int i, .bl k => addIB (.int i) (.bl k)
    | _, _ => none) ?_) ?_
  all_goals
    intro d e out h
    cases d <;> cases e <;> first
      | (exact .inl h)
      | (exact .inr h)
      | (cases h)
theorem o_sub : Op2 X (binaryOp .Sub) (iiD fun i j => i - j) := op2_ii op_sub
def mulC (i j : Int) : Bool := decide (-(2 ^ 64) < i ∧ i < 2 ^ 64) || (decide (-(2 ^ 64) < j ∧ j < 2 ^ 64) || decide (i.natAbs.log2 + j.natAbs.log2 < 1000000))
theorem op_mulA : OpR X (binaryOp .Mult) (rI (fun i j => mulC i j = true) fun i j => .int (i * j)) := opI fun _ _ _ _ _ _ _ hc q => by
  have hc : mulC _ _ = true := hc
  unfold mulC at hc
  simp only [Bool.or_eq_true, decide_eq_true_eq] at hc
  rcases hc with h | h | h
  · exact PyProof.Rows.mul_int q (CMul.ok (.inl h))
  · exact PyProof.Rows.mul_int q (CMul.ok (.inr h))
  · exact PyProof.Rows.mul_int q (CMulW.ok h)
def repL : D → D → Option OR
  | .lst a, .int k => if -(2 ^ 63) ≤ k ∧ k < 2 ^ 63 ∧ a.length * k.toNat ≤ 16777216 then some (.l (List.replicate k.toNat a).flatten) else none
  | _, _ => none
theorem RelL.flat {K : PySem.W.Frag} {H : Hp} {ds : List D} {xs : List V} (h : RelL K H ds xs) : ∀ n : Nat, RelL K H (List.replicate n ds).flatten (List.replicate n xs).flatten
  | 0 => by simpa using RelL.nil
  | n + 1 => by simpa [List.replicate_succ] using RelL.append h (RelL.flat h n)
theorem op2_repL : Op2 X (binaryOp .Mult) repL := ⟨_, op_rep, fun Hf H d e x y out Q s rx ry he q => by
  unfold repL at he
  split at he
  · split at he
    · rename_i hz
      cases he
      obtain ⟨a, xs, rfl, h1, h2⟩ := rx
      cases ry
      exact ⟨a, _, xs, rfl, rfl, h1, hz.1, hz.2.1, by rw [h2.length, ← szl]; exact hz.2.2, fun p hp => q p _ hp (RelL.flat h2 _)⟩
    · cases he
  · cases he⟩
def repT : D → D → Option OR
  | .tup a, .int k => if 2 ≤ k ∧ k ≤ 1000 ∧ a.length ≤ 1000 ∧ a.isEmpty = false then some (.t (List.replicate k.toNat a).flatten) else none
  | _, _ => none
theorem op2_repT : Op2 X (binaryOp .Mult) repT := ⟨_, op_repT, fun Hf H d e x y out Q s rx ry he q => by
  unfold repT at he
  split at he
  · rename_i ds k
    split at he
    · rename_i hz
      cases he
      obtain ⟨a, xs, rfl, h1, h2⟩ := RN.tup rx
      cases ry
      refine ⟨a, _, xs, rfl, rfl, Same.sqt s h1, ?_, hz.1, hz.2.1, by rw [h2.length]; exact hz.2.2.1, fun p hp => q p _ hp (RelL.flat h2 _)⟩
      intro e
      subst e
      have := h2.length
      have h4 := hz.2.2.2
      cases ds with
      | nil => cases h4
      | cons _ _ => simp at this
    · cases he
  · cases he⟩
def mulD : D → D → Option OR
  | .int i, .int j => iicD mulC (· * ·) (.int i) (.int j)
  | .lst a, .int k => repL (.lst a) (.int k)
  | .tup a, .int k => repT (.tup a) (.int k)
  | _, _ => none
theorem o_mul : Op2 X (binaryOp .Mult) mulD := by
  refine Op2.or (op2_iic (c := mulC) (g := (· * ·)) op_mulA fun i j h => h) (Op2.or op2_repL op2_repT (sem := fun d e => match d, e with
    | .lst a, .int k => repL (.lst a) (.int k)
    | .tup a, .int k => repT (.tup a) (.int k)
    | _, _ => none) ?_) ?_
  all_goals
    intro d e out h
    cases d <;> cases e <;> first
      | (exact .inl h)
      | (exact .inr h)
      | (cases h)
def divC (_ j : Int) : Bool := decide (0 < j) && decide (j.natAbs.log2 < 9000)
theorem o_fdiv : Op2 X (binaryOp .FloorDiv) (iicD divC fun i j => i / j) := op2_iic op_fdivW fun i j h => by
  unfold divC at h
  simp only [Bool.and_eq_true, decide_eq_true_eq] at h
  exact h
theorem o_mod : Op2 X (binaryOp .Mod) (iicD (fun _ j => decide (0 < j)) fun i j => i % j) := op2_iic op_mod fun i j h => of_decide_eq_true h
/-! by a number below nought -/
def divN (_ j : Int) : Bool := decide (j < 0) && decide (j.natAbs.log2 < 9000)
theorem op_fdivN : OpR X (binaryOp .FloorDiv) (rI (fun i j => divN i j = true) fun i j => .int (Int.fdiv i j)) := opI fun i j _ _ _ _ _ hc q => by
  have hc : divN i j = true := hc
  unfold divN at hc
  simp only [Bool.and_eq_true, decide_eq_true_eq] at hc
  exact PyProof.Rows.floordiv_int (by omega) q (.inl (PyProof.noPylong_of_log2 hc.2))
theorem o_fdivN : Op2 X (binaryOp .FloorDiv) (iicD divN Int.fdiv) := op2_iic op_fdivN fun i j h => h
theorem o_modN : Op2 X (binaryOp .Mod) (iicD (fun _ j => decide (j < 0)) Int.fmod) := op2_iic op_modN fun i j h => by
  have := of_decide_eq_true h
  omega
def powC (i j : Int) : Bool := decide (0 ≤ j) && decide (j ≤ 1000000) && decide (i.natAbs < 2 ^ 64)
theorem o_pow : Op2 X (binaryOp .Pow) (iicD powC fun i j => i ^ j.toNat) := op2_iic op_pow fun i j h => by
  unfold powC at h
  simp only [Bool.and_eq_true, decide_eq_true_eq] at h
  exact ⟨h.1.1, h.1.2, h.2⟩
def negD : D → Option OR
  | .int i => some (.v (.int (-i)))
  | _ => none
theorem o_neg : Op1 X (unaryOp .USub) negD := ⟨_, un_neg, fun Hf H d x out Q s rx he q => by
  unfold negD at he
  split at he
  · cases he; cases rx; exact ⟨_, rfl, q _ rfl⟩
  · cases he⟩
/-! in place -/
theorem oi_add : Op2 X (inplaceOp .Add) (iiD fun i j => i + j) := op2_ii iop_add
theorem oi_sub : Op2 X (inplaceOp .Sub) (iiD fun i j => i - j) := op2_ii iop_sub
theorem iop_mulA : OpR X (inplaceOp .Mult) (rI (fun i j => mulC i j = true) fun i j => .int (i * j)) := opI fun _ _ _ _ _ _ _ hc q => by
  have hc : mulC _ _ = true := hc
  unfold mulC at hc
  simp only [Bool.or_eq_true, decide_eq_true_eq] at hc
  rcases hc with h | h | h
  · exact PyProof.Rows.imul_int q (CMul.ok (.inl h))
  · exact PyProof.Rows.imul_int q (CMul.ok (.inr h))
  · exact PyProof.Rows.imul_int q (CMulW.ok h)
theorem oi_mul : Op2 X (inplaceOp .Mult) (iicD mulC fun i j => i * j) := op2_iic iop_mulA fun i j h => h

/-! ## comparisons -/
def cmpD (p : Int → Int → Bool) : D → D → Option OR
  | .int i, .int j => some (.v (.bl (p i j)))
  | _, _ => none
theorem op2_cmp {f : Value → Value → Sem Value} {p : Int → Int → Bool} (h : OpR X f (rI0 fun i j => .bl (p i j))) : Op2 X f (cmpD p) := ⟨_, h, fun Hf H d e x y out Q s rx ry he q => by
  unfold cmpD at he
  split at he
  · cases he; cases rx; cases ry; exact ⟨_, _, rfl, rfl, q _ rfl⟩
  · cases he⟩
theorem o_lt : Op2 X (compareOp .Lt) (cmpD fun i j => decide (i < j)) := op2_cmp op_lt
theorem o_le : Op2 X (compareOp .LtE) (cmpD fun i j => decide (i ≤ j)) := op2_cmp op_le
theorem o_gt : Op2 X (compareOp .Gt) (cmpD fun i j => decide (j < i)) := op2_cmp op_gt
theorem o_ge : Op2 X (compareOp .GtE) (cmpD fun i j => decide (j ≤ i)) := op2_cmp op_ge
def isNon : D → Bool
  | .non => true
  | _ => false
def isND (neg : Bool) : D → D → Option OR
  | d, .non => some (.v (.bl (neg != isNon d)))
  | .bl a, .bl b => some (.v (.bl (neg != decide (a = b))))
  | _, _ => none
theorem rel_non {K : PySem.W.Frag} {Hf H : Hp} {d : D} {x : V} (h : RN K Hf H d x) : decide (x = .non) = isNon d := by
  cases d with
  | non => cases h; rfl
  | bl b => cases h; rfl
  | int i => cases h; rfl
  | str z => cases h; rfl
  | ty n => cases h; rfl
  | fn a => cases h; rfl
  | tup ds => obtain ⟨a, xs, rfl, _⟩ := RN.tup h; rfl
  | lst ds => obtain ⟨a, xs, rfl, _⟩ := h; rfl
  | scr ds => obtain ⟨a, xs, rfl, _⟩ := RN.scr h; rfl
  | dct ks ds =>
    have h : Rel K Hf (.dct ks ds) x := h
    unfold Rel at h
    obtain ⟨a, xs, rfl, _⟩ := h; rfl
theorem o_is : Op2 X (compareOp .Is) (isND false) := ⟨_, OpR.or op_isN op_isBl, fun Hf H d e x y out Q s rx ry he q => by
  unfold isND at he
  split at he
  · cases he
    cases ry
    refine .inl ⟨rfl, q _ ?_⟩
    rw [rel_non rx]
    cases isNon d <;> exact rfl
  · rename_i a b
    cases he
    cases rx
    cases ry
    exact .inr ⟨a, b, rfl, rfl, q _ (by cases a <;> cases b <;> exact rfl)⟩
  · cases he⟩
theorem o_isnot : Op2 X (compareOp .IsNot) (isND true) := ⟨_, OpR.or op_notN op_notBl, fun Hf H d e x y out Q s rx ry he q => by
  unfold isND at he
  split at he
  · cases he
    cases ry
    refine .inl ⟨rfl, q _ ?_⟩
    rw [rel_non rx]
    cases isNon d <;> exact rfl
  · rename_i a b
    cases he
    cases rx
    cases ry
    exact .inr ⟨a, b, rfl, rfl, q _ (by cases a <;> cases b <;> exact rfl)⟩
  · cases he⟩

/-! ### == of data -/
mutual
def toPy : D → Option PyData
  | .non => some .none
  | .bl b => some (.bool b)
  | .int i => some (.int i)
  | .str x => some (.str x)
  | .tup ds => (toPyL ds).map .tuple
  | .lst ds => (toPyL ds).map .list
  | _ => none
def toPyL : List D → Option (List PyData)
  | [] => some []
  | d :: ds => match toPy d, toPyL ds with
    | some p, some ps => some (p :: ps)
    | _, _ => none
end
mutual
theorem rel_dp {K : PySem.W.Frag} {H : Hp} : ∀ {d : D} {v : V} {p : PyData}, Rel K H d v → toPy d = some p → Dp K H v p
  | .non, v, p, h, e => by cases h; cases e; exact .non
  | .bl b, v, p, h, e => by cases h; cases e; exact .bl b
  | .int i, v, p, h, e => by cases h; cases e; exact .int i
  | .str x, v, p, h, e => by cases h; cases e; exact .str x
  | .ty n, v, p, h, e => by cases e
  | .fn _ a, v, p, h, e => by cases e
  | .scr ds, v, p, h, e => by cases e
  | .dct ks ds, v, p, h, e => by cases e
  | .tup ds, v, p, h, e => by
    unfold Rel at h
    obtain ⟨a, xs, rfl, h1, h2⟩ := h
    unfold toPy at e
    cases z : toPyL ds with
    | none => rw [z] at e; cases e
    | some ps =>
      rw [z] at e
      cases e
      exact .tup h1 (relL_dp h2 z)
  | .lst ds, v, p, h, e => by
    unfold Rel at h
    obtain ⟨a, xs, rfl, h1, h2⟩ := h
    unfold toPy at e
    cases z : toPyL ds with
    | none => rw [z] at e; cases e
    | some ps =>
      rw [z] at e
      cases e
      exact .lst (SqL.of h1) (relL_dp h2 z)
theorem relL_dp {K : PySem.W.Frag} {H : Hp} : ∀ {ds : List D} {vs : List V} {ps : List PyData}, RelL K H ds vs → toPyL ds = some ps → DpAll K H vs ps
  | [], vs, ps, h, e => by unfold RelL at h; subst h; cases e; exact .nil
  | d :: ds, vs, ps, h, e => by
    unfold RelL at h
    obtain ⟨x, r, rfl, h1, h2⟩ := h
    unfold toPyL at e
    split at e
    · rename_i p ps' e1 e2
      cases e
      exact .cons (rel_dp h1 e1) (relL_dp h2 e2)
    · cases e
end
mutual
/-- == as Python has it, of data without dicts -/
def eqB : D → D → Bool
  | .non, .non => true
  | .bl a, .bl b => a == b
  | .bl a, .int j => (if a then 1 else 0) == j
  | .int i, .bl b => i == (if b then 1 else 0)
  | .int i, .int j => i == j
  | .str x, .str y => x == y
  | .lst xs, .lst ys => eqBL xs ys
  | .tup xs, .tup ys => eqBL xs ys
  | _, _ => false
def eqBL : List D → List D → Bool
  | [], [] => true
  | x :: xs, y :: ys => eqB x y && eqBL xs ys
  | _, _ => false
end
mutual
/-- data that == takes: no dict, texts of real signs, nested at most 64 deep -/
def okEq : D → Nat → Bool
  | .non, _ => true
  | .bl _, _ => true
  | .int _, _ => true
  | .str x, _ => x.cps.all (· < 0x110000)
  | .lst xs, n => match n with
    | 0 => false
    | n + 1 => okEqL xs n
  | .tup xs, n => match n with
    | 0 => false
    | n + 1 => okEqL xs n
  | _, _ => false
def okEqL : List D → Nat → Bool
  | [], _ => true
  | x :: xs, n => okEq x n && okEqL xs n
end
mutual
theorem okEq_py : ∀ (d : D) (n : Nat), okEq d n = true → ∃ p, toPy d = some p ∧ p.canLay0 = true ∧ p.depth ≤ n
  | .non, n, h => ⟨_, rfl, by simp [PyData.canLay0], by simp [PyData.depth]⟩
  | .bl _, n, h => ⟨_, rfl, by simp [PyData.canLay0], by simp [PyData.depth]⟩
  | .int _, n, h => ⟨_, rfl, by simp [PyData.canLay0], by simp [PyData.depth]⟩
  | .str x, n, h => ⟨_, rfl, by simpa [PyData.canLay0, PyData.strOk, okEq] using h, by simp [PyData.depth]⟩
  | .ty _, n, h => by simp [okEq] at h
  | .fn _ _, n, h => by simp [okEq] at h
  | .scr _, n, h => by simp [okEq] at h
  | .dct _ _, n, h => by simp [okEq] at h
  | .lst xs, 0, h => by simp [okEq] at h
  | .tup xs, 0, h => by simp [okEq] at h
  | .lst xs, n + 1, h => by
    simp only [okEq] at h
    obtain ⟨ps, e, h1, h2⟩ := okEqL_py xs n h
    exact ⟨.list ps, by simp [toPy, e], by simpa [PyData.canLay0] using h1, by simp only [PyData.depth]; omega⟩
  | .tup xs, n + 1, h => by
    simp only [okEq] at h
    obtain ⟨ps, e, h1, h2⟩ := okEqL_py xs n h
    exact ⟨.tuple ps, by simp [toPy, e], by simpa [PyData.canLay0] using h1, by simp only [PyData.depth]; omega⟩
theorem okEqL_py : ∀ (ds : List D) (n : Nat), okEqL ds n = true → ∃ ps, toPyL ds = some ps ∧ PyData.canLayAll0 ps = true ∧ PyData.depthAll ps ≤ n
  | [], n, h => ⟨[], rfl, by simp [PyData.canLayAll0], by simp [PyData.depthAll]⟩
  | d :: ds, n, h => by
    simp only [okEqL, Bool.and_eq_true] at h
    obtain ⟨p, e1, a1, b1⟩ := okEq_py d n h.1
    obtain ⟨ps, e2, a2, b2⟩ := okEqL_py ds n h.2
    exact ⟨p :: ps, by simp [toPyL, e1, e2], by simp [PyData.canLayAll0, a1, a2], by simp only [PyData.depthAll]; omega⟩
end
def leafD : D → Bool
  | .non => true
  | .bl _ => true
  | .int _ => true
  | .str _ => true
  | _ => false
theorem eqv_leaf (d e : D) (p q : PyData) (hd : leafD d = true) (h1 : toPy d = some p) (h2 : toPy e = some q) : PyData.eqv p q = eqB d e := by
  cases e with
  | lst ys =>
    cases z' : toPyL ys with
    | none => simp [toPy, z'] at h2
    | some qs =>
      simp only [toPy, z', Option.map_some, Option.some.injEq] at h2
      subst h2
      cases d <;> first | (cases hd; done) | (cases h1; simp only [PyData.eqv, eqB])
  | tup ys =>
    cases z' : toPyL ys with
    | none => simp [toPy, z'] at h2
    | some qs =>
      simp only [toPy, z', Option.map_some, Option.some.injEq] at h2
      subst h2
      cases d <;> first | (cases hd; done) | (cases h1; simp only [PyData.eqv, eqB])
  | _ =>
    cases h2 <;> (cases d <;> first | (cases hd; done) | (cases h1; simp only [PyData.eqv, eqB]))
mutual
theorem eqv_eqB : ∀ (d e : D) (p q : PyData), toPy d = some p → toPy e = some q → PyData.eqv p q = eqB d e
  | .lst xs, e, p, q, h1, h2 => by
    cases z : toPyL xs with
    | none => simp [toPy, z] at h1
    | some ps =>
      simp only [toPy, z, Option.map_some, Option.some.injEq] at h1
      subst h1
      cases e with
      | lst ys =>
        cases z' : toPyL ys with
        | none => simp [toPy, z'] at h2
        | some qs =>
          simp only [toPy, z', Option.map_some, Option.some.injEq] at h2
          subst h2
          simp only [PyData.eqv, eqB]
          exact eqv_eqBL xs ys ps qs z z'
      | tup ys =>
        cases z' : toPyL ys with
        | none => simp [toPy, z'] at h2
        | some qs =>
          simp only [toPy, z', Option.map_some, Option.some.injEq] at h2
          subst h2
          simp only [PyData.eqv, eqB]
      | _ => simp only [toPy] at h2 <;> cases h2 <;> simp only [PyData.eqv, eqB]
  | .tup xs, e, p, q, h1, h2 => by
    cases z : toPyL xs with
    | none => simp [toPy, z] at h1
    | some ps =>
      simp only [toPy, z, Option.map_some, Option.some.injEq] at h1
      subst h1
      cases e with
      | tup ys =>
        cases z' : toPyL ys with
        | none => simp [toPy, z'] at h2
        | some qs =>
          simp only [toPy, z', Option.map_some, Option.some.injEq] at h2
          subst h2
          simp only [PyData.eqv, eqB]
          exact eqv_eqBL xs ys ps qs z z'
      | lst ys =>
        cases z' : toPyL ys with
        | none => simp [toPy, z'] at h2
        | some qs =>
          simp only [toPy, z', Option.map_some, Option.some.injEq] at h2
          subst h2
          simp only [PyData.eqv, eqB]
      | _ => simp only [toPy] at h2 <;> cases h2 <;> simp only [PyData.eqv, eqB]
  | .non, e, p, q, h1, h2 => eqv_leaf .non e p q rfl h1 h2
  | .bl b, e, p, q, h1, h2 => eqv_leaf (.bl b) e p q rfl h1 h2
  | .int i, e, p, q, h1, h2 => eqv_leaf (.int i) e p q rfl h1 h2
  | .str x, e, p, q, h1, h2 => eqv_leaf (.str x) e p q rfl h1 h2
  | .ty n, e, p, q, h1, h2 => by cases h1
  | .fn _ n, e, p, q, h1, h2 => by cases h1
  | .scr n, e, p, q, h1, h2 => by cases h1
  | .dct n m, e, p, q, h1, h2 => by cases h1
theorem eqv_eqBL : ∀ (ds es : List D) (ps qs : List PyData), toPyL ds = some ps → toPyL es = some qs → PyData.eqvAll ps qs = eqBL ds es
  | [], [], ps, qs, h1, h2 => by cases h1; cases h2; simp [PyData.eqvAll, eqBL]
  | [], e :: es, ps, qs, h1, h2 => by
    cases h1
    unfold toPyL at h2
    split at h2 <;> cases h2
    simp [PyData.eqvAll, eqBL]
  | d :: ds, [], ps, qs, h1, h2 => by
    cases h2
    unfold toPyL at h1
    split at h1 <;> cases h1
    simp [PyData.eqvAll, eqBL]
  | d :: ds, e :: es, ps, qs, h1, h2 => by
    unfold toPyL at h1 h2
    split at h1 <;> cases h1
    rename_i p ps' a1 a2
    split at h2 <;> cases h2
    rename_i q qs' b1 b2
    simp only [PyData.eqvAll, eqBL]
    rw [eqv_eqB d e p q a1 b1, eqv_eqBL ds es ps' qs' a2 b2]
end
def eqD (neg : Bool) : D → D → Option OR := fun d e => if okEq d 64 && okEq e 64 then some (.v (.bl (neg != eqB d e))) else none
theorem o_eq (hu : X.A.units + 64 < cLine) : Op2 X (compareOp .Eq) (eqD false) := ⟨_, op_eqD hu, fun Hf H d e x y out Q s rx ry he q => by
  unfold eqD at he
  split at he
  · rename_i h
    cases he
    rw [Bool.and_eq_true] at h
    obtain ⟨p1, e1, a1, b1⟩ := okEq_py d 64 h.1
    obtain ⟨p2, e2, a2, b2⟩ := okEq_py e 64 h.2
    refine ⟨p1, p2, rel_dp (RN.rel s rx) e1, rel_dp (RN.rel s ry) e2, by simp [SeqAt.shaped, a1, b1], by simp [SeqAt.shaped, a2, b2], q _ ?_⟩
    rw [eqv_eqB d e p1 p2 e1 e2]
    cases eqB d e <;> exact rfl
  · cases he⟩
theorem o_ne (hu : X.A.units + 64 < cLine) : Op2 X (compareOp .NotEq) (eqD true) := ⟨_, op_neD hu, fun Hf H d e x y out Q s rx ry he q => by
  unfold eqD at he
  split at he
  · rename_i h
    cases he
    rw [Bool.and_eq_true] at h
    obtain ⟨p1, e1, a1, b1⟩ := okEq_py d 64 h.1
    obtain ⟨p2, e2, a2, b2⟩ := okEq_py e 64 h.2
    refine ⟨p1, p2, rel_dp (RN.rel s rx) e1, rel_dp (RN.rel s ry) e2, by simp [SeqAt.shaped, a1, b1], by simp [SeqAt.shaped, a2, b2], q _ ?_⟩
    rw [eqv_eqB d e p1 p2 e1 e2]
    cases eqB d e <;> exact rfl
  · cases he⟩
/-! ### in, not in: flat items -/
def flatD : D → Bool
  | .non => true
  | .bl _ => true
  | .int _ => true
  | .str _ => true
  | _ => false
theorem flat_rel {K : PySem.W.Frag} {Hf H : Hp} {d : D} {x : V} (h : Rel K H d x) (hf : flatD d = true) : flatV x = true := by
  cases d <;> first | (cases h; rfl) | cases hf
theorem flat_eq {K : PySem.W.Frag} {H : Hp} {d e : D} {x y : V} (h : Rel K H d x) (hf : flatD d = true) (k : Rel K H e y) (kf : flatD e = true) : eqV x y = eqB d e := by
  cases d <;> first
    | (cases hf; done)
    | (cases h
       cases e <;> first
        | (cases kf; done)
        | (cases k; simp only [eqV, eqB]))
theorem flatL_rel {K : PySem.W.Frag} {H : Hp} {e : D} {y : V} (k : Rel K H e y) (kf : flatD e = true) : ∀ {ds : List D} {xs : List V}, RelL K H ds xs → ds.all flatD = true → xs.all flatV = true ∧ inV y xs = ds.any (fun d => eqB d e)
  | [], xs, h, _ => by unfold RelL at h; subst h; exact ⟨rfl, rfl⟩
  | d :: ds, xs, h, hf => by
    unfold RelL at h
    obtain ⟨x, r, rfl, h1, h2⟩ := h
    simp only [List.all_cons, Bool.and_eq_true] at hf
    obtain ⟨a, b⟩ := flatL_rel k kf h2 hf.2
    refine ⟨by simp [flat_rel (Hf := H) h1 hf.1, a], ?_⟩
    simp only [inV, List.any_cons] at b ⊢
    rw [b, flat_eq h1 hf.1 k kf]
def inD (neg : Bool) : D → D → Option OR := fun d e => match e with
  | .lst ds => if flatD d && ds.all flatD then some (.v (.bl (neg != ds.any fun c => eqB c d))) else none
  | .tup ds => if flatD d && ds.all flatD then some (.v (.bl (neg != ds.any fun c => eqB c d))) else none
  | _ => none
theorem in_run {neg : Bool} {Hf H : Hp} {d e : D} {x y : V} {out : OR} {Q : VK} (s : Same Hf H) (rx : RN X.K Hf H d x) (ry : RN X.K Hf H e y) (he : inD neg d e = some out) (q : OPost X.K Hf H out Q) : rIn X.K neg x y H Q := by
  have fin : ∀ {ds : List D} {a : Addr} {xs : List V}, y = .ref a → (SqL X.K H a xs ∨ SqT X.K H a xs) → RelL X.K H ds xs → (if flatD d && ds.all flatD then some (OR.v (.bl (neg != ds.any fun c => eqB c d))) else none) = some out → rIn X.K neg x y H Q := fun {ds a xs} e1 h1 h2 he => by
    split at he
    · rename_i h
      cases he
      rw [Bool.and_eq_true] at h
      have rx' := RN.rel s rx
      obtain ⟨h3, h4⟩ := flatL_rel rx' h.1 h2 h.2
      refine ⟨a, xs, e1, h1, flat_rel (Hf := H) rx' h.1, h3, q _ ?_⟩
      rw [h4]
      cases neg <;> cases (ds.any fun c => eqB c d) <;> exact rfl
    · cases he
  unfold inD at he
  split at he
  · obtain ⟨a, xs, rfl, h1, h2⟩ := ry
    exact fin rfl (.inl (SqL.of h1)) (RelL.mono s h2) he
  · obtain ⟨a, xs, rfl, h1, h2⟩ := RN.tup ry
    exact fin rfl (.inr (Same.sqt s h1)) (RelL.mono s h2) he
  · cases he
theorem o_in : Op2 X (compareOp .In) (inD false) := ⟨_, op_in_seq, fun Hf H d e x y out Q s rx ry he q => in_run s rx ry he q⟩
theorem o_notin : Op2 X (compareOp .NotIn) (inD true) := ⟨_, op_notIn_seq, fun Hf H d e x y out Q s rx ry he q => in_run s rx ry he q⟩

/-! ## items -/
def ixD : D → D → Option OR
  | .lst ds, .int i => (atI ds i).map .v
  | .tup ds, .int i => (atI ds i).map .v
  | .scr ds, .int i => (atI ds i).map .v
  | .str z, .int i => if z.length ≤ 16777216 then (atI z.cps.toList i).map fun c => .v (.str ⟨#[c]⟩) else none
  | _, _ => none
theorem atI_rel {K : PySem.W.Frag} {H : Hp} {ds : List D} {xs : List V} {i : Int} {d : D} (h : RelL K H ds xs) (e : atI ds i = some d) : ∃ x, atI xs i = some x ∧ Rel K H d x := by
  unfold atI at e ⊢
  rw [h.length]
  cases z : ixN ds.length i with
  | none => rw [z] at e; cases e
  | some j =>
    rw [z] at e
    exact h.get e
theorem o_ix : IxS X ixD := ⟨_, ix_seq, fun Hf H d e x y out Q s rx ry he q => by
  unfold ixD at he
  split at he
  · rename_i ds i
    cases z : atI ds i with
    | none => rw [z] at he; cases he
    | some c =>
      rw [z] at he
      cases he
      obtain ⟨a, xs, rfl, h1, h2⟩ := rx
      cases ry
      obtain ⟨w, h3, h4⟩ := atI_rel h2 z
      exact .inl ⟨a, xs, i, w, rfl, rfl, SqL.of h1, h3, q _ h4⟩
  · rename_i ds i
    cases z : atI ds i with
    | none => rw [z] at he; cases he
    | some c =>
      rw [z] at he
      cases he
      obtain ⟨a, xs, rfl, h1, h2⟩ := RN.tup rx
      cases ry
      obtain ⟨w, h3, h4⟩ := atI_rel h2 z
      exact .inr (.inl ⟨a, xs, i, w, rfl, rfl, Same.sqt s h1, h3, q _ h4⟩)
  · rename_i ds i
    cases z : atI ds i with
    | none => rw [z] at he; cases he
    | some c =>
      rw [z] at he
      cases he
      obtain ⟨a, xs, rfl, h1, h2⟩ := RN.scr rx
      cases ry
      obtain ⟨w, h3, h4⟩ := atI_rel h2 z
      exact .inl ⟨a, xs, i, w, rfl, rfl, Same.sql s h1, h3, q _ h4⟩
  · rename_i z i
    split at he
    · rename_i hz
      cases w : atI z.cps.toList i with
      | none => rw [w] at he; cases he
      | some c =>
        rw [w] at he
        cases he
        cases rx
        cases ry
        exact .inr (.inr ⟨z, i, c, rfl, rfl, by rw [← szl]; exact hz, w, q _ rfl⟩)
    · cases he
  · cases he⟩

/-! ## built-in functions -/
theorem RNL.one {K : PySem.W.Frag} {Hf H : Hp} {d : D} {xs : List V} (h : RNL K Hf H [d] xs) : ∃ x, xs = [x] ∧ RN K Hf H d x := by
  obtain ⟨x, r, rfl, h1, rfl⟩ := h
  exact ⟨x, rfl, h1⟩
theorem RNL.two {K : PySem.W.Frag} {Hf H : Hp} {d e : D} {xs : List V} (h : RNL K Hf H [d, e] xs) : ∃ x y, xs = [x, y] ∧ RN K Hf H d x ∧ RN K Hf H e y := by
  obtain ⟨x, r, rfl, h1, y, r', rfl, h2, rfl⟩ := h
  exact ⟨x, y, rfl, h1, h2⟩
def lenD : List D → Option OR
  | [.lst ds] => some (.v (.int ds.length))
  | [.tup ds] => some (.v (.int ds.length))
  | [.scr ds] => some (.v (.int ds.length))
  | [.str z] => if z.length ≤ 16777216 then some (.v (.int z.length)) else none
  | _ => none
theorem c_len : CallS X (.builtin "len") lenD := ⟨_, call_len, fun Hf H ds xs out Q s r he q => by
  unfold lenD at he
  split at he
  · cases he
    obtain ⟨x, rfl, h⟩ := RNL.one r
    obtain ⟨a, xs, rfl, h1, h2⟩ := h
    exact ⟨_, _, rfl, .inl ⟨xs, SqL.of h1, h2.length.symm⟩, q _ rfl⟩
  · cases he
    obtain ⟨x, rfl, h⟩ := RNL.one r
    obtain ⟨a, xs, rfl, h1, h2⟩ := RN.tup h
    exact ⟨_, _, rfl, .inr ⟨xs, Same.sqt s h1, h2.length.symm⟩, q _ rfl⟩
  · cases he
    obtain ⟨x, rfl, h⟩ := RNL.one r
    obtain ⟨a, xs, rfl, h1, h2⟩ := RN.scr h
    exact ⟨_, _, rfl, .inl ⟨xs, Same.sql s h1, h2.length.symm⟩, q _ rfl⟩
  · split at he
    · rename_i hz
      cases he
      obtain ⟨x, rfl, h⟩ := RNL.one r
      cases h
      exact ⟨_, _, rfl, ⟨by rw [← szl]; exact hz, rfl⟩, q _ rfl⟩
    · cases he
  · cases he⟩
def absD : List D → Option OR
  | [.int i] => some (.v (.int (if i < 0 then -i else i)))
  | _ => none
theorem c_abs : CallS X (.builtin "abs") absD := ⟨_, call_abs, fun Hf H ds xs out Q s r he q => by
  unfold absD at he
  split at he
  · cases he
    obtain ⟨x, rfl, h⟩ := RNL.one r
    cases h
    exact ⟨_, rfl, q _ rfl⟩
  · cases he⟩
def intD : List D → Option OR
  | [.int i] => some (.v (.int i))
  | [.bl b] => some (.v (.int (if b then 1 else 0)))
  | _ => none
theorem c_int : CallS X (.type "int") intD := ⟨_, call_int1, fun Hf H ds xs out Q s r he q => by
  unfold intD at he
  split at he
  · cases he
    obtain ⟨x, rfl, h⟩ := RNL.one r
    cases h
    exact .inl ⟨_, rfl, q _ rfl⟩
  · cases he
    obtain ⟨x, rfl, h⟩ := RNL.one r
    cases h
    exact .inr ⟨_, rfl, q _ rfl⟩
  · cases he⟩
def max2D : List D → Option OR
  | [.int i, .int j] => some (.v (.int (if j > i then j else i)))
  | _ => none
def min2D : List D → Option OR
  | [.int i, .int j] => some (.v (.int (if j < i then j else i)))
  | _ => none
theorem c_max2 (hc : X.calm = true) : CallS X (.builtin "max") max2D := ⟨_, call_max2 hc, fun Hf H ds xs out Q s r he q => by
  unfold max2D at he
  split at he
  · cases he
    obtain ⟨x, y, rfl, h, h'⟩ := RNL.two r
    cases h; cases h'
    exact ⟨_, _, rfl, q _ rfl⟩
  · cases he⟩
theorem c_min2 (hc : X.calm = true) : CallS X (.builtin "min") min2D := ⟨_, call_min2 hc, fun Hf H ds xs out Q s r he q => by
  unfold min2D at he
  split at he
  · cases he
    obtain ⟨x, y, rfl, h, h'⟩ := RNL.two r
    cases h; cases h'
    exact ⟨_, _, rfl, q _ rfl⟩
  · cases he⟩
def asInts : List D → Option (List Int)
  | [] => some []
  | .int i :: ds => (asInts ds).map (i :: ·)
  | _ => none
def asBls : List D → Option (List Bool)
  | [] => some []
  | .bl i :: ds => (asBls ds).map (i :: ·)
  | _ => none
theorem asInts_eq : ∀ {ds : List D} {ns : List Int}, asInts ds = some ns → ds = ns.map D.int
  | [], ns, h => by cases h; rfl
  | d :: ds, ns, h => by
    cases d <;> simp only [asInts] at h <;> try cases h
    cases z : asInts ds with
    | none => rw [z] at h; cases h
    | some ms =>
      rw [z] at h
      cases h
      rw [asInts_eq z]; rfl
theorem asBls_eq : ∀ {ds : List D} {ns : List Bool}, asBls ds = some ns → ds = ns.map D.bl
  | [], ns, h => by cases h; rfl
  | d :: ds, ns, h => by
    cases d <;> simp only [asBls] at h <;> try cases h
    cases z : asBls ds with
    | none => rw [z] at h; cases h
    | some ms =>
      rw [z] at h
      cases h
      rw [asBls_eq z]; rfl
theorem asInts_map (ns : List Int) : asInts (ns.map D.int) = some ns := by
  induction ns with
  | nil => rfl
  | cons n ns ih => simp [asInts, ih]
theorem asBls_map (ns : List Bool) : asBls (ns.map D.bl) = some ns := by
  induction ns with
  | nil => rfl
  | cons n ns ih => simp [asBls, ih]
def sumD : List D → Option OR
  | [.lst ds] => (asInts ds).map fun ns => .v (.int ns.sum)
  | _ => none
theorem c_sum (hc : X.calm = true) : CallS X (.builtin "sum") sumD := ⟨_, cr_sum hc, fun Hf H ds xs out Q s r he q => by
  unfold sumD at he
  split at he
  · rename_i es
    cases z : asInts es with
    | none => rw [z] at he; cases he
    | some ns =>
      rw [z] at he
      cases he
      obtain ⟨x, rfl, h⟩ := RNL.one r
      obtain ⟨a, xs, rfl, h1, h2⟩ := h
      rw [asInts_eq z] at h2
      rw [RelL.ints h2] at h1
      exact ⟨a, ns, rfl, SqL.of h1, q _ rfl⟩
  · cases he⟩
def allD : List D → Option OR
  | [.lst ds] => (asBls ds).map fun ns => .v (.bl (ns.all id))
  | _ => none
def anyD : List D → Option OR
  | [.lst ds] => (asBls ds).map fun ns => .v (.bl (ns.any id))
  | _ => none
theorem c_all (hc : X.calm = true) : CallS X (.builtin "all") allD := ⟨_, cr_all hc, fun Hf H ds xs out Q s r he q => by
  unfold allD at he
  split at he
  · rename_i es
    cases z : asBls es with
    | none => rw [z] at he; cases he
    | some ns =>
      rw [z] at he
      cases he
      obtain ⟨x, rfl, h⟩ := RNL.one r
      obtain ⟨a, xs, rfl, h1, h2⟩ := h
      rw [asBls_eq z] at h2
      rw [RelL.bls h2] at h1
      exact ⟨a, ns, rfl, SqL.of h1, q _ rfl⟩
  · cases he⟩
theorem c_any (hc : X.calm = true) : CallS X (.builtin "any") anyD := ⟨_, cr_any hc, fun Hf H ds xs out Q s r he q => by
  unfold anyD at he
  split at he
  · rename_i es
    cases z : asBls es with
    | none => rw [z] at he; cases he
    | some ns =>
      rw [z] at he
      cases he
      obtain ⟨x, rfl, h⟩ := RNL.one r
      obtain ⟨a, xs, rfl, h1, h2⟩ := h
      rw [asBls_eq z] at h2
      rw [RelL.bls h2] at h1
      exact ⟨a, ns, rfl, SqL.of h1, q _ rfl⟩
  · cases he⟩
def tupleD : List D → Option OR
  | [.lst ds] => some (.t ds)
  | [.tup ds] => some (.v (.tup ds))
  | _ => none
theorem c_tuple : CallS X (.type "tuple") tupleD := ⟨_, call_tuple_of, fun Hf H ds xs out Q s r he q => by
  unfold tupleD at he
  split at he
  · cases he
    obtain ⟨x, rfl, h⟩ := RNL.one r
    obtain ⟨a, xs, rfl, h1, h2⟩ := h
    exact ⟨a, xs, rfl, .inl ⟨SqL.of h1, fun l hl => q l xs hl h2⟩⟩
  · cases he
    obtain ⟨x, rfl, h⟩ := RNL.one r
    obtain ⟨a, xs, rfl, h1, h2⟩ := RN.tup h
    exact ⟨a, xs, rfl, .inr ⟨Same.sqt s h1, q _ h⟩⟩
  · cases he⟩
def listD : List D → Option OR
  | [.lst ds] => some (.l ds)
  | [.tup ds] => some (.l ds)
  | _ => none
theorem c_list : CallS X (.type "list") listD := ⟨_, call_list_of, fun Hf H ds xs out Q s r he q => by
  unfold listD at he
  split at he
  · cases he
    obtain ⟨x, rfl, h⟩ := RNL.one r
    obtain ⟨a, xs, rfl, h1, h2⟩ := h
    exact ⟨a, xs, rfl, .inl (SqL.of h1), fun l hl => q l xs hl h2⟩
  · cases he
    obtain ⟨x, rfl, h⟩ := RNL.one r
    obtain ⟨a, xs, rfl, h1, h2⟩ := RN.tup h
    exact ⟨a, xs, rfl, .inr (Same.sqt s h1), fun l hl => q l xs hl h2⟩
  · cases he⟩
/-- isinstance(x, one of the built-in classes) -/
def isiD : List D → Option OR
  | [d, .ty n] => if n == "int" || n == "bool" || n == "str" || n == "tuple" || n == "list" || n == "dict" then (match d with
    | .non => some (.v (.bl false))
    | .bl _ => some (.v (.bl (n == "bool" || n == "int")))
    | .int _ => some (.v (.bl (n == "int")))
    | .str _ => some (.v (.bl (n == "str")))
    | .tup _ => some (.v (.bl (n == "tuple")))
    | .lst _ => some (.v (.bl (n == "list")))
    | .dct _ _ => some (.v (.bl (n == "dict")))
    | _ => none) else none
  | _ => none
theorem tyx_tup {K : PySem.W.Frag} {H : Hp} {a : Addr} {xs : List V} (h : SqT K H a xs) : TyX K H (.ref a) (.type "tuple") := by
  rcases h with (h | ⟨o, h⟩) | ⟨o, its, n, h, c, _⟩
  · exact .base (.tup h)
  · exact .fTuple h
  · exact .kTuple h c
theorem c_isi : CallS X (.builtin "isinstance") isiD := ⟨_, call_isi, fun Hf H ds xs out Q s r he q => by
  unfold isiD at he
  split at he
  · rename_i d n
    obtain ⟨x, y, rfl, h, h'⟩ := RNL.two r
    cases h'
    split at he
    · rename_i hn
      simp only [Bool.or_eq_true, beq_iff_eq] at hn
      have fin : ∀ (t : String) (b : Bool), TyX X.K H x (.type t) → PySem.W.kitOne X.K (.type t) (.type n) = some b → out = .v (.bl b) → rIsi X.K [x, .ty n] H Q := fun t b ty hk e => by
        subst e
        exact ⟨x, .ty n, _, _, b, rfl, .ty n, ty, hk, q _ rfl⟩
      cases d with
      | non =>
        cases h
        cases he
        refine fin "NoneType" false (.base .non) ?_ rfl
        rcases hn with ((((rfl | rfl) | rfl) | rfl) | rfl) | rfl <;> exact kit_ty (by decide +kernel)
      | bl c =>
        cases h
        cases he
        refine fin "bool" _ (.base (.bl c)) ?_ rfl
        rcases hn with ((((rfl | rfl) | rfl) | rfl) | rfl) | rfl <;> exact kit_ty (by decide +kernel)
      | int c =>
        cases h
        cases he
        refine fin "int" _ (.base (.int c)) ?_ rfl
        rcases hn with ((((rfl | rfl) | rfl) | rfl) | rfl) | rfl <;> exact kit_ty (by decide +kernel)
      | str c =>
        cases h
        cases he
        refine fin "str" _ (.base (.str c)) ?_ rfl
        rcases hn with ((((rfl | rfl) | rfl) | rfl) | rfl) | rfl <;> exact kit_ty (by decide +kernel)
      | tup c =>
        obtain ⟨a, xs, rfl, h1, h2⟩ := RN.tup h
        cases he
        refine fin "tuple" _ (tyx_tup (Same.sqt s h1)) ?_ rfl
        rcases hn with ((((rfl | rfl) | rfl) | rfl) | rfl) | rfl <;> exact kit_ty (by decide +kernel)
      | lst c =>
        obtain ⟨a, xs, rfl, h1, h2⟩ := h
        cases he
        refine fin "list" _ (.base (.lst h1)) ?_ rfl
        rcases hn with ((((rfl | rfl) | rfl) | rfl) | rfl) | rfl <;> exact kit_ty (by decide +kernel)
      | dct ks c =>
        have h : Rel X.K Hf (.dct ks c) x := h
        unfold Rel at h
        obtain ⟨a, kvs, rfl, h1, _⟩ := h
        cases he
        refine fin "dict" _ (.base (.dK (s _ _ h1))) ?_ rfl
        rcases hn with ((((rfl | rfl) | rfl) | rfl) | rfl) | rfl <;> exact kit_ty (by decide +kernel)
      | _ => cases he
    · cases he
  · cases he⟩

/-! ## slices -/
def cutD (xs : List D) (lo hi : Option Int) : List D := (xs.drop (HT.sIx xs.length 0 lo)).take (HT.sIx xs.length xs.length hi - HT.sIx xs.length 0 lo)
def sliceD (d : D) (lo hi : Option Int) : Option OR := match d with
  | .lst ds => some (.l (cutD ds lo hi))
  | .scr ds => some (.l (cutD ds lo hi))
  | .tup ds => if HT.sIx ds.length 0 lo = 0 ∧ HT.sIx ds.length ds.length hi = ds.length then some (.v (.tup ds)) else some (.t (cutD ds lo hi))
  | .str z => if z.length ≤ 16777216 then some (.v (.str (cutS z lo hi))) else none
  | _ => none
theorem SlR.or {r r' : V → Option Int → Option Int → Hp → VK → Prop} (h : L2.SlR X r) (h' : L2.SlR X r') : L2.SlR X (fun x l u H Q => r x l u H Q ∨ r' x l u H Q) := by
  intro pins s σ H x v vl vu lo hi sl Q I rx hs pl pu q
  rcases q with q | q
  · exact h pins s σ H x v vl vu lo hi sl Q I rx hs pl pu q
  · exact h' pins s σ H x v vl vu lo hi sl Q I rx hs pl pu q
def rSlA (K : PySem.W.Frag) : V → Option Int → Option Int → Hp → VK → Prop := fun x l u H Q => rSlL K x l u H Q ∨ rSlT K x l u H Q ∨ rSlTW K x l u H Q ∨ rSlS x l u H Q
theorem sl_any : L2.SlR X (rSlA X.K) := SlR.or sl_list (SlR.or sl_tup (SlR.or sl_tupW sl_str))
theorem RelL.cut {K : PySem.W.Frag} {H : Hp} {ds : List D} {xs : List V} (h : RelL K H ds xs) (lo hi : Option Int) : RelL K H (cutD ds lo hi) (cutV xs lo hi) := by
  unfold cutD cutV
  rw [h.length]
  exact RelL.take _ (RelL.drop _ h)
theorem slice_run {Hf H : Hp} {d : D} {x : V} {lo hi : Option Int} {out : OR} {Q : VK} (s : Same Hf H) (rx : RN X.K Hf H d x) (he : sliceD d lo hi = some out) (q : OPost X.K Hf H out Q) : rSlA X.K x lo hi H Q := by
  unfold sliceD at he
  split at he
  · cases he
    obtain ⟨a, xs, rfl, h1, h2⟩ := rx
    exact .inl ⟨a, xs, rfl, SqL.of h1, fun p hp => q p _ hp (RelL.cut h2 lo hi)⟩
  · cases he
    obtain ⟨a, xs, rfl, h1, h2⟩ := RN.scr rx
    exact .inl ⟨a, xs, rfl, Same.sql s h1, fun p hp => q p _ hp (RelL.cut h2 lo hi)⟩
  · split at he
    · rename_i hw
      cases he
      have rx0 := rx
      obtain ⟨a, xs, rfl, h1, h2⟩ := RN.tup rx
      exact .inr (.inr (.inl ⟨a, xs, rfl, Same.sqt s h1, by rw [h2.length]; exact hw.1, by rw [h2.length]; exact hw.2, q _ rx0⟩))
    · rename_i hw
      cases he
      obtain ⟨a, xs, rfl, h1, h2⟩ := RN.tup rx
      exact .inr (.inl ⟨a, xs, rfl, Same.sqt s h1, by rw [h2.length]; exact hw, fun p hp => q p _ hp (RelL.cut h2 lo hi)⟩)
  · split at he
    · rename_i hz
      cases he
      cases rx
      exact .inr (.inr (.inr ⟨_, rfl, by rw [← szl]; exact hz, q _ rfl⟩))
    · cases he
  · cases he
/-- a part of a slice -/
abbrev PD := Option ED
def PR (o : Option ED) (δ : List Sl) : Option (Option (Option Int) × List Sl) := match o with
  | none => some (some none, δ)
  | some e => match e δ with
    | some (.ok (.fz (.int i)) δ') => some (some (some i), δ')
    | _ => none
def rdO (K : PySem.W.Frag) (mg : Str → Option Value) (W : WT) : Option ED → TO
  | none => tNoPart
  | some e => tPart (rdE K mg W e)
def eSlice (a : ED) (lo hi : Option ED) : ED := fun δ => ER.bind (a δ) fun r δ1 => match PR lo δ1 with
  | some (some l, δ2) => match PR hi δ2 with
    | some (some h, δ3) => match r.data δ3 with
      | some d => match sliceD d l h with
        | some o => some (.ok o.rs δ3)
        | none => none
      | none => none
    | _ => none
  | _ => none
theorem rd_part {W : WT} {o : Option ED} {δ δ' : List Sl} {l : Option Int} (h : PR o δ = some (some l, δ')) {G : Gh W.c} {Hf : Hp} {σ : L2.St} {H : Hp} (I : IV X.K G Hf σ H δ) {Q : Option Int → Hp → Prop}
    (q : ∀ Hf' H', Same Hf Hf' → IV X.K G Hf' σ H' δ' → Q l H') : rdO X.K X.mg W o σ H Q := by
  cases o with
  | none => cases h; exact q Hf H (Same.refl _) I
  | some e =>
    unfold PR at h
    dsimp only at h
    split at h
    · rename_i i δ2 he
      cases h
      refine ⟨G, Hf, δ, I, ?_⟩
      rw [he]
      intro Hf' H' v s I' r
      exact ⟨i, r, q Hf' H' s I'⟩
    · cases h
theorem de_slice {W : WT} {e : Expr} {ea : ED} {lo hi : Option ED} {elo ehi : Option Expr} {p2 pos : Pos} (h : PE X (.Subscript e (.Slice elo ehi none p2) pos) (tSl (rSlA X.K) (rdE X.K X.mg W ea) (rdO X.K X.mg W lo) (rdO X.K X.mg W hi))) :
    DE X W (.Subscript e (.Slice elo ehi none p2) pos) (eSlice ea lo hi) := h.imp fun σ H Q ⟨G, Hf, δ, I, q⟩ => by
  refine ⟨G, Hf, δ, I, q.seq.mono fun x H1 ⟨Hf1, δ1, r, s1, I1, r1, q1⟩ => ?_⟩
  split at q1
  · rename_i l δ2 hl
    split at q1
    · rename_i h δ3 hh
      obtain ⟨G', I', back⟩ := I1.pend (PL.one r1)
      refine rd_part hl I' fun Hf2 H2 s2 I2 => rd_part hh I2 fun Hf3 H3 s3 I3 => ?_
      obtain ⟨I4, l4, _⟩ := back Hf3 H3 δ3 (s2.trans s3) I3
      split at q1
      · rename_i d hd
        split at q1
        · rename_i o ho
          exact slice_run I4.sub (I4.data (l4.all (x, r) (by simp)) hd) ho (OPost.of I4 (q1.up (s2.trans s3)))
        · exact q1.elim
      · exact q1.elim
    · exact q1.elim
  · exact q1.elim
/-- x[::-1] of a list or a tuple -/
def eRev (a : ED) : ED := fun δ => ER.bind (a δ) fun r δ1 => match r.data δ1 with
  | some (.lst ds) => some (.ok (.fresh ds.reverse) δ1)
  | some (.scr ds) => some (.ok (.fresh ds.reverse) δ1)
  | some (.tup ds) => some (.ok (.fz (.tup ds.reverse)) δ1)
  | _ => none
theorem de_rev {W : WT} {e : Expr} {ea : ED} (h : PE X e (tRevA X.K (rdE X.K X.mg W ea))) : DE X W e (eRev ea) := h.imp fun σ H Q ⟨G, Hf, δ, I, q⟩ => by
  refine ⟨G, Hf, δ, I, q.seq.mono fun x H1 ⟨Hf1, δ1, r, s1, I1, r1, q1⟩ => ?_⟩
  split at q1
  · rename_i ds hd
    obtain ⟨a, xs, rfl, h1, h2⟩ := I1.data r1 hd
    exact ⟨a, xs, rfl, .inl ⟨SqL.of h1, fun p hp => q1 Hf1 _ _ (Same.refl _) (I1.allocOwn hp _) ⟨p, rfl, I1.fresh_new hp (RelL.reverse h2)⟩⟩⟩
  · rename_i ds hd
    obtain ⟨a, xs, rfl, h1, h2⟩ := RN.scr (I1.data r1 hd)
    exact ⟨a, xs, rfl, .inl ⟨Same.sql I1.sub h1, fun p hp => q1 Hf1 _ _ (Same.refl _) (I1.allocOwn hp _) ⟨p, rfl, I1.fresh_new hp (RelL.reverse h2)⟩⟩⟩
  · rename_i ds hd
    obtain ⟨a, xs, rfl, h1, h2⟩ := RN.tup (I1.data r1 hd)
    refine ⟨a, xs, rfl, .inr ⟨Same.sqt I1.sub h1, fun p hp => ?_⟩⟩
    refine q1 _ _ _ (Same.new (I1.fnone hp)) (I1.alloc hp (.tup xs.reverse)) ?_
    show Rel X.K _ (.tup ds.reverse) _
    unfold Rel
    exact ⟨p, xs.reverse, rfl, SqT.of upd_same, RelL.mono (Same.new (I1.fnone hp)) (RelL.reverse h2)⟩
  · exact q1.elim
end
end Dn

namespace Dn
open PySem PySem.Spec L2
open PyProof.Rows (IntsAre AllBare Top recsOf)

/-! ## repr -/
def keyPy : Key → PyData
  | .inl i => .int i
  | .inr x => .str x
mutual
/-- what repr shows: dicts too -/
def toPyR : D → Option PyData
  | .non => some .none
  | .bl b => some (.bool b)
  | .int i => some (.int i)
  | .str x => some (.str x)
  | .tup ds => (toPyRL ds).map .tuple
  | .lst ds => (toPyRL ds).map .list
  | .dct ks ds => match toPyRL ds with
    | some ps => if ks.length = ps.length then some (.dict ((ks.map keyPy).zip ps)) else none
    | none => none
  | _ => none
def toPyRL : List D → Option (List PyData)
  | [] => some []
  | d :: ds => match toPyR d, toPyRL ds with
    | some p, some ps => some (p :: ps)
    | _, _ => none
end
/-- a bound of a key's text, with what stands about it -/
def shK : Key → Option Nat
  | .inl i => if i.natAbs.log2 < 1920 then some 2002 else none
  | .inr x => if x.cps.all (· < 0x110000) then some (10 * x.length + 4) else none
def shKs : List Key → Option Nat
  | [] => some 0
  | k :: ks => match shK k, shKs ks with
    | some a, some b => some (a + b)
    | _, _ => none
mutual
/-- a bound of the text's length (nested at most n deep); none: an int too great, or no text here -/
def shSz : D → Nat → Option Nat
  | .non, _ => some 4
  | .bl _, _ => some 5
  | .int i, _ => if i.natAbs.log2 < 1920 then some 2000 else none
  | .str x, _ => if x.cps.all (· < 0x110000) then some (10 * x.length + 2) else none
  | .tup ds, n => match n with
    | 0 => none
    | n + 1 => (shSzL ds n).map (· + 3)
  | .lst ds, n => match n with
    | 0 => none
    | n + 1 => (shSzL ds n).map (· + 3)
  | .dct ks ds, n => match n with
    | 0 => none
    | n + 1 => if ks.length = ds.length then match shKs ks, shSzL ds n with
      | some a, some b => some (a + b + 3)
      | _, _ => none else none
  | _, _ => none
def shSzL : List D → Nat → Option Nat
  | [], _ => some 0
  | d :: ds, n => match shSz d n, shSzL ds n with
    | some a, some b => some (a + 2 + b)
    | _, _ => none
end
/-- the text of data -/
def shw (d : D) : Str := match toPyR d with
  | some p => p.shown
  | none => Str.empty
theorem str_len_app (a b : Str) : (a ++ b).length = a.length + b.length := by
  show (a.cps ++ b.cps).size = _
  rw [Array.size_append]; rfl
theorem listText_le (ts : List Str) : (listText ts).length ≤ piled ts + 3 := by
  have e1 : (("[" : String) : Str).length = 1 := rfl
  have e2 : (("]" : String) : Str).length = 1 := rfl
  have e3 : (("" : String) : Str).length = 0 := rfl
  unfold listText
  rw [str_len_app, e2]
  cases ts with
  | nil => show ((("[" : String) : Str).length) + 1 ≤ _; rw [e1]; omega
  | cons t r =>
    show (textFrom 1 ((("[" : String) : Str) ++ (("" : String) : Str) ++ t) r).length + 1 ≤ _
    rw [textFrom_length_pos r 1 _ (by decide), str_len_app, str_len_app, e1, e3, piled_cons]
    omega
theorem tupleText_le (ts : List Str) : (tupleText ts).length ≤ piled ts + 3 := by
  have e1 : (("(" : String) : Str).length = 1 := rfl
  unfold tupleText
  rw [str_len_app, str_len_app, e1]
  have e3 : (((if ts.length == 1 then ",)" else ")" : String) : Str)).length ≤ 2 := by split <;> decide
  by_cases h : ts = []
  · subst h
    have : (Str.join ", " []).length = 0 := rfl
    rw [this]; omega
  · have := join_length_add ts h
    omega
theorem reprInt_len {i : Int} (hi : i.natAbs.log2 < 1920) : ((toString i : String) : Str).length ≤ 2000 := by
  have := int_text_length_le (k := 1920) (by decide) hi
  show (Str.ofString (toString i)).length ≤ _
  rw [PySem.ofString_length]
  omega
theorem reprStr_len {x : Str} (hx : x.cps.all (· < 0x110000) = true) : (reprText x).length ≤ 10 * x.length + 2 := StrLaws.reprText_len x fun c hc => by
  have h1 : c ∈ x.cps := by simpa using hc
  have h2 := (Array.all_eq_true'.mp hx) c h1
  have h3 : c < 1114112 := by simpa using h2
  omega
theorem shK_py {k : Key} {m : Nat} (h : shK k = some m) : (keyPy k).showable = true ∧ (keyPy k).shown.length + 2 ≤ m ∧ (keyPy k).depth = 0 := by
  cases k with
  | inl i =>
    replace h : (if i.natAbs.log2 < 1920 then some 2002 else none) = some m := h
    split at h
    · rename_i hi
      cases h
      refine ⟨by simpa [keyPy, PyData.showable] using hi, ?_, by simp [keyPy, PyData.depth]⟩
      simp only [keyPy, PyData.shown]
      have := reprInt_len hi
      omega
    · cases h
  | inr x =>
    replace h : (if x.cps.all (· < 0x110000) = true then some (10 * x.length + 4) else none) = some m := h
    split at h
    · rename_i hx
      cases h
      refine ⟨by simp [keyPy, PyData.showable], ?_, by simp [keyPy, PyData.depth]⟩
      simp only [keyPy, PyData.shown]
      have := reprStr_len hx
      omega
    · cases h
theorem dct_sz : ∀ {ks : List Key} {ps : List PyData} {a : Nat}, ks.length = ps.length → shKs ks = some a → PyData.showableAll ps = true →
    PyData.showableKv ((ks.map keyPy).zip ps) = true ∧ ((PyData.shownKv ((ks.map keyPy).zip ps)).map (·.length)).sum + 2 * ks.length ≤ a + piled (PyData.shownAll ps) ∧ PyData.depthKv ((ks.map keyPy).zip ps) ≤ PyData.depthAll ps
  | [], [], a, _, h, _ => by cases h; exact ⟨by simp [PyData.showableKv], by simp [PyData.shownKv], by simp [PyData.depthKv]⟩
  | [], p :: ps, a, hl, _, _ => by simp at hl
  | k :: ks, [], a, hl, _, _ => by simp at hl
  | k :: ks, p :: ps, a, hl, h, hs => by
    unfold shKs at h
    split at h
    · rename_i a1 b1 z1 z2
      cases h
      obtain ⟨k1, k2, k3⟩ := shK_py z1
      have hs' : p.showable = true ∧ PyData.showableAll ps = true := by simpa [PyData.showableAll] using hs
      obtain ⟨r1, r2, r3⟩ := dct_sz (by simpa using hl) z2 hs'.2
      refine ⟨by simp [PyData.showableKv, k1, hs'.1, r1], ?_, by simp only [List.map_cons, List.zip_cons_cons, PyData.depthKv, PyData.depthAll, k3]; omega⟩
      simp only [List.map_cons, List.zip_cons_cons, PyData.shownKv, List.sum_cons, PyData.shownAll, piled_cons, List.length_cons]
      rw [str_len_app, str_len_app]
      have e : ((": " : String) : Str).length = 2 := rfl
      rw [e]
      omega
    · cases h
mutual
theorem shSz_py : ∀ (d : D) (n m : Nat), shSz d n = some m → ∃ p, toPyR d = some p ∧ p.showable = true ∧ p.shown.length ≤ m ∧ p.depth ≤ n
  | .non, n, m, h => by cases h; exact ⟨_, rfl, by simp [PyData.showable], by simp only [PyData.shown]; decide, by simp [PyData.depth]⟩
  | .bl b, n, m, h => by cases h; exact ⟨_, rfl, by simp [PyData.showable], by simp only [PyData.shown]; cases b <;> decide, by simp [PyData.depth]⟩
  | .int i, n, m, h => by
    unfold shSz at h
    split at h
    · rename_i hi
      cases h
      exact ⟨_, rfl, by simpa [PyData.showable] using hi, by simp only [PyData.shown]; exact reprInt_len hi, by simp [PyData.depth]⟩
    · cases h
  | .str x, n, m, h => by
    unfold shSz at h
    split at h
    · rename_i hx
      cases h
      exact ⟨_, rfl, by simp [PyData.showable], by simp only [PyData.shown]; exact reprStr_len hx, by simp [PyData.depth]⟩
    · cases h
  | .tup ds, 0, m, h => by simp [shSz] at h
  | .lst ds, 0, m, h => by simp [shSz] at h
  | .dct ks ds, 0, m, h => by simp [shSz] at h
  | .tup ds, n + 1, m, h => by
    simp only [shSz] at h
    cases z : shSzL ds n with
    | none => rw [z] at h; cases h
    | some k =>
      rw [z] at h
      cases h
      obtain ⟨ps, e, h0, h1, h2, h3⟩ := shSzL_py ds n k z
      refine ⟨.tuple ps, by simp [toPyR, e], by simpa [PyData.showable] using h1, ?_, by simp only [PyData.depth]; omega⟩
      simp only [PyData.shown]
      have := tupleText_le (PyData.shownAll ps)
      omega
  | .lst ds, n + 1, m, h => by
    simp only [shSz] at h
    cases z : shSzL ds n with
    | none => rw [z] at h; cases h
    | some k =>
      rw [z] at h
      cases h
      obtain ⟨ps, e, h0, h1, h2, h3⟩ := shSzL_py ds n k z
      refine ⟨.list ps, by simp [toPyR, e], by simpa [PyData.showable] using h1, ?_, by simp only [PyData.depth]; omega⟩
      simp only [PyData.shown]
      have := listText_le (PyData.shownAll ps)
      omega
  | .dct ks ds, n + 1, m, h => by
    simp only [shSz] at h
    split at h
    · rename_i hl
      split at h
      · rename_i a b z1 z2
        cases h
        obtain ⟨ps, e, h0, h1, h2, h3⟩ := shSzL_py ds n b z2
        have hl' : ks.length = ps.length := by rw [hl, h0]
        obtain ⟨r1, r2, r3⟩ := dct_sz hl' z1 h1
        refine ⟨.dict ((ks.map keyPy).zip ps), by simp [toPyR, e, hl'], by simpa [PyData.showable] using r1, ?_, by simp only [PyData.depth]; omega⟩
        simp only [PyData.shown]
        have q := dictText_len_le (PyData.shownKv ((ks.map keyPy).zip ps))
        have ql : (PyData.shownKv ((ks.map keyPy).zip ps)).length = ks.length := by
          rw [PyData.shownKv_length]
          simp [hl']
        omega
      · cases h
    · cases h
  | .scr _, n, m, h => by simp [shSz] at h
  | .ty _, n, m, h => by simp [shSz] at h
  | .fn _ _, n, m, h => by simp [shSz] at h
theorem shSzL_py : ∀ (ds : List D) (n m : Nat), shSzL ds n = some m → ∃ ps, toPyRL ds = some ps ∧ ps.length = ds.length ∧ PyData.showableAll ps = true ∧ piled (PyData.shownAll ps) ≤ m ∧ PyData.depthAll ps ≤ n
  | [], n, m, h => by cases h; exact ⟨[], rfl, rfl, by simp [PyData.showableAll], by simp [PyData.shownAll, piled], by simp [PyData.depthAll]⟩
  | d :: ds, n, m, h => by
    unfold shSzL at h
    split at h
    · rename_i a b z1 z2
      cases h
      obtain ⟨p, e1, a1, b1, c1⟩ := shSz_py d n a z1
      obtain ⟨ps, e2, l2, a2, b2, c2⟩ := shSzL_py ds n b z2
      refine ⟨p :: ps, by simp [toPyRL, e1, e2], by simp [l2], by simp [PyData.showableAll, a1, a2], ?_, by simp only [PyData.depthAll]; omega⟩
      simp only [PyData.shownAll, piled_cons]
      omega
    · cases h
end
def reprD : List D → Option OR
  | [d] => match shSz d 64 with
    | some n => if n ≤ 16777216 then some (.v (.str (shw d))) else none
    | none => none
  | _ => none
/-- a value that is read as data, and shown -/
def RK (P : Program) (w : World) (h : Heap) (u : Value) (p : PyData) : Prop := ∃ as bs, Reads h u p as ∧ ReadAtMost h p.depth bs ∧ ReprK P w bs h p.depth u p.shown
def RKL (P : Program) (w : World) (h : Heap) (us : List Value) (ps : List PyData) : Prop := ∃ as bs, ReadsAll h us ps as ∧ ReadAtMost h (PyData.depthAll ps) bs ∧ ReprAllK P w bs h (PyData.depthAll ps) us (PyData.shownAll ps)
section
variable {P : Program} {w : World} {h : Heap} {u : Value} {us : List Value} {p : PyData} {ps : List PyData}
theorem RKL.nil : RKL P w h [] [] := ⟨[], [], .nil, (fun _ z => nomatch z), by simp only [PyData.shownAll]; exact .nil⟩
theorem RKL.cons (a : RK P w h u p) (b : RKL P w h us ps) : RKL P w h (u :: us) (p :: ps) := by
  obtain ⟨as, a1, r1, m1, k1⟩ := a
  obtain ⟨bs, b1, r2, m2, k2⟩ := b
  refine ⟨as ++ bs, a1 ++ b1, .cons r1 r2, fun z hz => ?_, ?_⟩
  · simp only [PyData.depthAll]
    rcases List.mem_append.mp hz with hz | hz
    · obtain ⟨d', as', r', hd'⟩ := m1 z hz
      exact ⟨d', as', r', Nat.le_trans hd' (Nat.le_max_left _ _)⟩
    · obtain ⟨d', as', r', hd'⟩ := m2 z hz
      exact ⟨d', as', r', Nat.le_trans hd' (Nat.le_max_right _ _)⟩
  · simp only [PyData.depthAll, PyData.shownAll]
    exact .cons ((k1.more fun z hz => List.mem_append_left _ hz).level_le (Nat.le_max_left _ _)) (k2.more_le (fun z hz => List.mem_append_right _ hz) (Nat.le_max_right _ _))
/-- how an object is shown -/
def SB (P : Program) (w : World) (h : Heap) (a : Addr) (p : PyData) : Prop := ∃ T idr, ShowsBy P w h a p T idr
theorem rk_list {a : Addr} {o : Obj} {its : List Value} {n : Nat} (h1 : h.get? a = some o) (h2 : o.cls = .type "list") (h3 : o.data = .seq its.toArray n) (L : RKL P w h its ps) (hz : (listText (PyData.shownAll ps)).length ≤ sizeLine) : RK P w h (.ref a) (.list ps) ∧ SB P w h a (.list ps) := by
  obtain ⟨as, bs, r, m, k⟩ := L
  have R : Reads h (.ref a) (.list ps) (a :: as) := .list h1 h2 h3 (by simpa using r)
  have na : a ∉ bs := not_mem_of_deeper R (by simp only [PyData.depth]; omega) m
  cases its with
  | nil =>
    cases r
    refine ⟨⟨_, a :: bs, R, ReadAtMost.cons R (by simp only [PyData.depth]; omega) m, by simp only [PyData.depth, PyData.shown, PyData.shownAll, listText_nil]; exact ReprK.listEmpty h1 h2 h3⟩, "list", "list.__repr__", F.slot_list_repr.toG, F.slot_list_str, F.slot_list_format, fun s hk0 => ⟨o, hk0 _ _ h1, h2⟩, fun A E s Q hg hu hk0 hQ => ?_⟩
    simp only [PyData.shown, PyData.shownAll, listText_nil] at hQ
    exact call_list_repr_empty ⟨o, hk0 _ _ h1, h2⟩ (hk0 _ _ h1) h3 (hQ s.heap _ _ fun _ _ e => e)
  | cons x l =>
    have hl : (PyData.shownAll ps).length = (x :: l).toArray.size := by simpa using k.length_eq
    have hi : ∀ (i : Nat) (y : Value), (x :: l).toArray[i]? = some y → ∃ t, (PyData.shownAll ps)[i]? = some t ∧ ReprK P w bs h (PyData.depthAll ps) y t := fun i y e => k.item i y (by simpa using e)
    refine ⟨⟨_, a :: bs, R, ReadAtMost.cons R (by simp only [PyData.depth]; omega) m, by simp only [PyData.depth, PyData.shown]; exact ReprK.list h1 h2 h3 na hl hi⟩, "list", "list.__repr__", F.slot_list_repr.toG, F.slot_list_str, F.slot_list_format, fun s hk0 => ⟨o, hk0 _ _ h1, h2⟩, fun A E s Q hg hu hk0 hQ => ?_⟩
    simp only [PyData.depth] at hu
    simp only [PyData.shown] at hQ
    exact call_list_reprK h1 h2 h3 na hl hi hg (fun b _ => Clear.nil b) hu hk0 hQ hz
theorem rk_tup {a : Addr} {o : Obj} {its : List Value} {n : Nat} (h1 : h.get? a = some o) (h2 : o.cls = .type "tuple") (h3 : o.data = .seq its.toArray n) (L : RKL P w h its ps) (hz : (tupleText (PyData.shownAll ps)).length ≤ sizeLine) : RK P w h (.ref a) (.tuple ps) ∧ SB P w h a (.tuple ps) := by
  obtain ⟨as, bs, r, m, k⟩ := L
  have R : Reads h (.ref a) (.tuple ps) as := .tuple h1 h2 h3 (by simpa using r)
  have na : a ∉ bs := not_mem_of_deeper R (by simp only [PyData.depth]; omega) m
  have k' : ReprAllK P w bs h (PyData.depthAll ps) its.toArray.toList (PyData.shownAll ps) := by simpa using k
  refine ⟨⟨_, a :: bs, R, ReadAtMost.cons R (by simp only [PyData.depth]; omega) m, by simp only [PyData.depth, PyData.shown]; exact ReprK.tuple h1 h2 h3 na k'⟩, "tuple", "tuple.__repr__", F.slot_tuple_repr, F.slot_tuple_str, F.slot_tuple_format, fun s hk0 => ⟨o, hk0 _ _ h1, h2⟩, fun A E s Q hg hu hk0 hQ => ?_⟩
  simp only [PyData.depth] at hu
  simp only [PyData.shown] at hQ
  exact call_tuple_reprK h1 h2 h3 na k' hg (fun b _ => Clear.nil b) hu hk0 hQ hz
theorem rk_dct {a : Addr} {o : Obj} {es : Array DictEntry} {n : Nat} {kvs : List (PyData × PyData)} (h1 : h.get? a = some o) (h2 : o.cls = .type "dict") (h3 : o.data = .dict es n) (sm : (a == sysModules) = false) (L1 : RKL P w h (es.toList.map (·.key)) (kvs.map (·.1))) (L2 : RKL P w h (es.toList.map (·.val)) (kvs.map (·.2)))
    (hz : (dictText (PyData.shownKv kvs)).length ≤ sizeLine) : RK P w h (.ref a) (.dict kvs) ∧ SB P w h a (.dict kvs) := by
  obtain ⟨as, b1, r1, m1, k1⟩ := L1
  obtain ⟨bs, b2, r2, m2, k2⟩ := L2
  have R : Reads h (.ref a) (.dict kvs) (a :: as ++ bs) := .dict h1 h2 h3 r1 r2
  have m : ReadAtMost h (PyData.depthKv kvs) (b1 ++ b2) := (m1.mono (PyData.depthAll_keys_le kvs)).append (m2.mono (PyData.depthAll_vals_le kvs))
  have na : a ∉ b1 ++ b2 := not_mem_of_deeper R (by simp only [PyData.depth]; omega) m
  have E := ReprEntriesK.of_two es.toList _ _ (k1.more_le (fun z hz => List.mem_append_left b2 hz) (PyData.depthAll_keys_le kvs)) (k2.more_le (fun z hz => List.mem_append_right b1 hz) (PyData.depthAll_vals_le kvs))
  refine ⟨⟨_, a :: (b1 ++ b2), R, ReadAtMost.cons R (by simp only [PyData.depth]; omega) m, by simp only [PyData.depth, PyData.shown, PyData.shownKv_eq]; exact ReprK.dict h1 h2 h3 sm na E⟩, "dict", "dict.__repr__", F.slot_dict_repr, F.slot_dict_str, F.slot_dict_format, fun s hk0 => ⟨o, hk0 _ _ h1, h2⟩, fun A E' s Q hg hu hk0 hQ => ?_⟩
  simp only [PyData.depth] at hu
  simp only [PyData.shown, PyData.shownKv_eq] at hQ
  exact call_dict_reprK h1 h2 h3 sm na E hg (fun b _ => Clear.nil b) hu hk0 hQ (by rw [← PyData.shownKv_eq]; exact hz)
theorem rk_key {k : Key} {v : Value} (hk : keyIs k v = true) (hs : (keyPy k).showable = true) (hz : (keyPy k).shown.length ≤ sizeLine) : RK P w h v (keyPy k) := by
  rcases keyIs_shape hk with ⟨i, t, rfl, rfl⟩ | ⟨x, t, rfl, rfl⟩
  · exact ⟨[], [], Reads.int i t, (fun _ z => nomatch z), by simp only [keyPy, PyData.shown]; exact .of_is (ReprIs.int t (by simpa [keyPy, PyData.showable] using hs)) _ _ _⟩
  · exact ⟨[], [], Reads.str x t, (fun _ z => nomatch z), by simp only [keyPy, PyData.shown]; exact .of_is (ReprIs.str x t (by simpa only [keyPy, PyData.shown] using hz)) _ _ _⟩
theorem dct_keys : ∀ {es : List DictEntry} {vs : List (Key × Value)}, Pairs (mixKind P w) es vs → (∀ k ∈ vs.map (·.1), (keyPy k).showable = true ∧ (keyPy k).shown.length ≤ sizeLine) → RKL P w h (es.map (·.key)) ((vs.map (·.1)).map keyPy) ∧ es.map (·.val) = vs.map (·.2)
  | _, _, .nil, _ => ⟨RKL.nil, rfl⟩
  | _, _, .cons (kv := kv) e1 e2 r, hs => by
    obtain ⟨a, b⟩ := dct_keys r fun k hk => hs k (by simp [hk])
    obtain ⟨s1, s2⟩ := hs kv.1 (by simp)
    exact ⟨RKL.cons (rk_key e1 s1 s2) a, by simp [e2, b]⟩
theorem kv_keys : ∀ {kvs : List (Key × V)} {vs : List (Key × Value)}, KV kvs vs → vs.map (·.1) = kvs.map (·.1) ∧ Vals (kvs.map (·.2)) (vs.map (·.2))
  | _, _, .nil => ⟨rfl, .nil⟩
  | _, _, .cons h r => by
    obtain ⟨a, b⟩ := kv_keys r
    exact ⟨by simp [a, h.1], .cons h.2 b⟩
end
section
variable {X : Cx} {pins : List (Addr × Obj)} {σ : L2.St} {H : Hp} {s : Shared}
theorem shownAll_le {x : Str} : ∀ {ps : List PyData}, x ∈ PyData.shownAll ps → ∀ {n : Nat}, (∀ t ∈ PyData.shownAll ps, t.length ≤ n) → x.length ≤ n := fun h _ k => k _ h
mutual
theorem rk_of (I : Inv X pins σ H s) : ∀ (d : D) (x : V) (u : Value) (p : PyData), Rel X.K H d x → RelV x u → toPyR d = some p → p.showable = true → p.shown.length ≤ sizeLine → RK X.prog X.w s.heap u p ∧ ∀ a, x = .ref a → SB X.prog X.w s.heap a p
  | .non, x, u, p, h, r, e, hs, hz => by cases h; cases r; cases e; exact ⟨⟨[], [], Reads.none, (fun _ z => nomatch z), by simp only [PyData.shown]; exact .of_is ReprIs.none _ _ _⟩, fun _ z => nomatch z⟩
  | .bl b, x, u, p, h, r, e, hs, hz => by cases h; cases r; cases e; exact ⟨⟨[], [], Reads.bool b, (fun _ z => nomatch z), by simp only [PyData.shown]; exact .of_is (ReprIs.bool b) _ _ _⟩, fun _ z => nomatch z⟩
  | .int i, x, u, p, h, r, e, hs, hz => by
    cases h; obtain ⟨t, rfl⟩ := r; cases e
    exact ⟨⟨[], [], Reads.int i t, (fun _ z => nomatch z), by simp only [PyData.shown]; exact .of_is (ReprIs.int t (by simpa [PyData.showable] using hs)) _ _ _⟩, fun _ z => nomatch z⟩
  | .str y, x, u, p, h, r, e, hs, hz => by
    cases h; obtain ⟨t, rfl⟩ := r; cases e
    exact ⟨⟨[], [], Reads.str y t, (fun _ z => nomatch z), by simp only [PyData.shown]; exact .of_is (ReprIs.str y t (by simpa only [PyData.shown] using hz)) _ _ _⟩, fun _ z => nomatch z⟩
  | .lst ds, x, u, p, h, r, e, hs, hz => by
    unfold Rel at h
    obtain ⟨a, xs, rfl, h1, h2⟩ := h
    cases r
    simp only [toPyR] at e
    cases z : toPyRL ds with
    | none => rw [z] at e; cases e
    | some ps =>
      rw [z] at e
      cases e
      obtain ⟨its, rv, ⟨o, n, ho, hc, _, hd⟩, _⟩ := I.list (SqL.of h1)
      have hz' : (listText (PyData.shownAll ps)).length ≤ sizeLine := by simpa only [PyData.shown] using hz
      have q := rk_list ho hc hd (rkL_of I ds xs its ps h2 rv z (by simpa [PyData.showable] using hs) fun t ht => Nat.le_trans (listText_mem_le ht) hz') hz'
      exact ⟨q.1, fun a' z => by cases z; exact q.2⟩
  | .tup ds, x, u, p, h, r, e, hs, hz => by
    unfold Rel at h
    obtain ⟨a, xs, rfl, h1, h2⟩ := h
    cases r
    simp only [toPyR] at e
    cases z : toPyRL ds with
    | none => rw [z] at e; cases e
    | some ps =>
      rw [z] at e
      cases e
      obtain ⟨its, rv, ⟨o, ho, hc, n, hd⟩, _⟩ := I.tuple h1
      have hz' : (tupleText (PyData.shownAll ps)).length ≤ sizeLine := by simpa only [PyData.shown] using hz
      have q := rk_tup ho hc hd (rkL_of I ds xs its ps h2 rv z (by simpa [PyData.showable] using hs) fun t ht => Nat.le_trans (tupleText_mem_le ht) hz') hz'
      exact ⟨q.1, fun a' z => by cases z; exact q.2⟩
  | .dct ks ds, x, u, p, h, r, e, hs, hz => by
    unfold Rel at h
    obtain ⟨a, kvs, rfl, h1, h2, h3⟩ := h
    cases r
    simp only [toPyR] at e
    split at e
    · rename_i ps z
      split at e
      · rename_i hl
        cases e
        obtain ⟨_, sm, vs, kv, o, es, ep, ho, ⟨hc, _⟩, hd, _, pr, _⟩ := dk_of I.hok h1
        obtain ⟨e1, rv⟩ := kv_keys kv
        have hz' : (dictText (PyData.shownKv ((ks.map keyPy).zip ps))).length ≤ sizeLine := by simpa only [PyData.shown] using hz
        obtain ⟨s1, s2⟩ := PyData.showableKv_split _ (by simpa [PyData.showable] using hs)
        have f1 : ((ks.map keyPy).zip ps).map (·.1) = ks.map keyPy := List.map_fst_zip (by simp [hl])
        have f2 : ((ks.map keyPy).zip ps).map (·.2) = ps := List.map_snd_zip (by simp [hl])
        rw [f1] at s1
        rw [f2] at s2
        have zk : ∀ t ∈ PyData.shownAll (ks.map keyPy), t.length ≤ sizeLine := fun t ht => by
          obtain ⟨q, hq, hl⟩ := PyData.shownKv_key_le ((ks.map keyPy).zip ps) t (by rw [f1]; exact ht)
          exact Nat.le_trans hl (Nat.le_trans (dictText_mem_le hq) hz')
        have zv : ∀ t ∈ PyData.shownAll ps, t.length ≤ sizeLine := fun t ht => by
          obtain ⟨q, hq, hl⟩ := PyData.shownKv_val_le ((ks.map keyPy).zip ps) t (by rw [f2]; exact ht)
          exact Nat.le_trans hl (Nat.le_trans (dictText_mem_le hq) hz')
        have keyf : ∀ {l : List Key}, PyData.showableAll (l.map keyPy) = true → (∀ t ∈ PyData.shownAll (l.map keyPy), t.length ≤ sizeLine) → ∀ k ∈ l, (keyPy k).showable = true ∧ (keyPy k).shown.length ≤ sizeLine := fun {l} => by
          induction l with
          | nil => exact fun _ _ k hk => nomatch hk
          | cons k0 l ih =>
            intro g1 g2 k hk
            simp only [List.map_cons, PyData.showableAll, Bool.and_eq_true] at g1
            simp only [List.map_cons, PyData.shownAll, List.mem_cons] at g2
            rcases List.mem_cons.mp hk with rfl | hk
            · exact ⟨g1.1, g2 _ (.inl rfl)⟩
            · exact ih g1.2 (fun t ht => g2 t (.inr ht)) k hk
        obtain ⟨K1, ev⟩ := dct_keys (h := s.heap) pr (by rw [e1, h2]; exact keyf s1 zk)
        rw [e1, h2] at K1
        have L2 := rkL_of I ds (kvs.map (·.2)) (vs.map (·.2)) ps h3 rv z s2 zv
        have q := rk_dct ho hc hd sm (by rw [f1]; exact K1) (by rw [f2, ev]; exact L2) hz'
        exact ⟨q.1, fun a' z => by cases z; exact q.2⟩
      · cases e
    · cases e
  | .scr _, x, u, p, h, r, e, hs, hz => by simp [toPyR] at e
  | .ty _, x, u, p, h, r, e, hs, hz => by simp [toPyR] at e
  | .fn _ _, x, u, p, h, r, e, hs, hz => by simp [toPyR] at e
theorem rkL_of (I : Inv X pins σ H s) : ∀ (ds : List D) (xs : List V) (us : List Value) (ps : List PyData), RelL X.K H ds xs → Vals xs us → toPyRL ds = some ps → PyData.showableAll ps = true → (∀ t ∈ PyData.shownAll ps, t.length ≤ sizeLine) → RKL X.prog X.w s.heap us ps
  | [], xs, us, ps, h, r, e, hs, hz => by
    unfold RelL at h
    subst h
    cases r
    cases e
    exact RKL.nil
  | d :: ds, xs, us, ps, h, r, e, hs, hz => by
    unfold RelL at h
    obtain ⟨x, xs', rfl, h1, h2⟩ := h
    cases r with
    | cons r1 r2 =>
      unfold toPyRL at e
      split at e
      · rename_i p ps' z1 z2
        cases e
        have hs' : p.showable = true ∧ PyData.showableAll ps' = true := by simpa [PyData.showableAll] using hs
        simp only [PyData.shownAll, List.mem_cons] at hz
        exact RKL.cons (rk_of I d x _ p h1 r1 z1 hs'.1 (hz _ (.inl rfl))).1 (rkL_of I ds xs' _ ps' h2 r2 z2 hs'.2 fun t ht => hz t (.inr ht))
      · cases e
end
theorem repr_run (hg : X.A.guards = some []) (hu : X.A.units + 100 < cLine) : CallR X (.builtin "repr") (fun xs H Q => ∃ x d p, xs = [x] ∧ Rel X.K H d x ∧ toPyR d = some p ∧ p.showable = true ∧ p.shown.length ≤ sizeLine ∧ p.depth ≤ 64 ∧ Q (.str p.shown) H) := by
  intro pins s σ H xs us Q I r h
  obtain ⟨x, d, p, rfl, hd, hp, hs, hz, hdp, q⟩ := h
  obtain ⟨u, rfl, ru⟩ := vals1 r
  have k := rk_of I d x u p hd ru hp hs hz
  cases x with
  | ref a =>
    cases ru
    obtain ⟨T, idr, S⟩ := k.2 a rfl
    exact call_repr_slot (by omega) (S.typeIs s fun _ _ e => e) S.slotRepr (S.call X.A.in1 _ s _ hg (by show X.A.units + 1 + p.depth < cLine; omega) (fun _ _ e => e) fun h' t tk hk => ⟨_, _, rfl, .str p.shown, H, I.kept (t' := tk) hk, ⟨t, rfl⟩, q⟩)
  | non =>
    cases ru
    obtain rfl : p = .none := by
      obtain ⟨⟨as, bs, r, _⟩, _⟩ := k
      cases r; rfl
    simp only [PyData.shown] at q
    exact PySem.P.repr_of_none ⟨.str _, H, I.tok _, ⟨_, rfl⟩, q⟩
  | bl b =>
    cases ru
    obtain rfl : p = .bool b := by
      obtain ⟨⟨as, bs, r, _⟩, _⟩ := k
      cases r; rfl
    simp only [PyData.shown] at q
    exact PySem.P.repr_of_bool ⟨.str _, H, I.tok _, ⟨_, rfl⟩, q⟩
  | int i =>
    obtain ⟨t, rfl⟩ := ru
    obtain rfl : p = .int i := by
      obtain ⟨⟨as, bs, r, _⟩, _⟩ := k
      cases r; rfl
    simp only [PyData.shown] at q
    exact PySem.P.repr_of_int (by simpa [PyData.showable] using hs) ⟨.str _, H, I.tok _, ⟨_, rfl⟩, q⟩
  | str z =>
    obtain ⟨t, rfl⟩ := ru
    obtain rfl : p = .str z := by
      obtain ⟨⟨as, bs, r, _⟩, _⟩ := k
      cases r; rfl
    simp only [PyData.shown] at q hz
    exact PySem.P.repr_of_str ⟨.str _, H, I.tok _, ⟨_, rfl⟩, q⟩ hz
  | _ =>
    exfalso
    cases d with
    | tup _ => unfold Rel at hd; obtain ⟨_, _, z, _⟩ := hd; cases z
    | lst _ => unfold Rel at hd; obtain ⟨_, _, z, _⟩ := hd; cases z
    | dct _ _ => unfold Rel at hd; obtain ⟨_, _, z, _⟩ := hd; cases z
    | scr _ => unfold Rel at hd; obtain ⟨_, _, z, _⟩ := hd; cases z
    | ty _ => simp [toPyR] at hp
    | fn _ _ => simp [toPyR] at hp
    | _ => cases hd
theorem c_repr (hg : X.A.guards = some []) (hu : X.A.units + 100 < cLine) : CallS X (.builtin "repr") reprD := ⟨_, repr_run hg hu, fun Hf H ds xs out Q s r he q => by
  unfold reprD at he
  split at he
  · rename_i d
    split at he
    · rename_i n hn
      split at he
      · rename_i hz
        cases he
        obtain ⟨x, rfl, h⟩ := RNL.one r
        obtain ⟨p, e, h1, h2, h3⟩ := shSz_py d 64 n hn
        refine ⟨x, d, p, rfl, RN.rel s h, e, h1, by rw [← szl]; omega, h3, q _ ?_⟩
        show V.str p.shown = V.str (shw d)
        unfold shw
        rw [e]
      · cases he
    · cases he
  · cases he⟩
end

/-! ## the end of a law -/
/-- tables of code objects: code object, table -/
abbrev CdL := List (Addr × Addr)
abbrev tab0 : Obj := { cls := .none, data := .fields #[] }
/-- what is known of them at the head -/
def CdAt (K : PySem.W.Frag) (h : Heap) (cs : CdL) : Prop := ∀ p ∈ cs, PySem.W.CodeHd h p.1 p.2 ∧ h.get? p.2 = some tab0 ∧ K.lookup p.2 = none
/-- nothing is tracked but the script and the tables -/
def lawH (K : PySem.W.Frag) (cs : CdL) (a : Addr) (o : Obj) (xs : List V) : Hp := fun b =>
  if b ∈ cs.map Prod.snd then some (.tbl #[]) else if b = a then (match K.lookup a with
    | none => some (.frz o (.lst xs))
    | some _ => none) else none
theorem lawH_tab {K : PySem.W.Frag} {cs : CdL} {a b : Addr} {o : Obj} {xs : List V} (h : b ∈ cs.map Prod.snd) : lawH K cs a o xs b = some (.tbl #[]) := if_pos h
theorem lawH_off {K : PySem.W.Frag} {cs : CdL} {a b : Addr} {o : Obj} {xs : List V} {u : HO} (n : b ∉ cs.map Prod.snd) (h : lawH K cs a o xs b = some u) : b = a ∧ K.lookup a = none ∧ u = .frz o (.lst xs) := by
  unfold lawH at h
  rw [if_neg n] at h
  split at h
  · rename_i e
    subst e
    split at h
    · rename_i hk; cases h; exact ⟨rfl, hk, rfl⟩
    · cases h
  · cases h
section
variable {P : Program} {w : World} {K : PySem.W.Frag} {mg mb : Str → Option Value} {k : Nat} {fa a : Addr} {fd : FuncData} {x : Str} {s₁ : Shared} {vs : List Value} {ns : List Int} {cs : CdL} {T : TbL}
theorem law_G {sem : FS} (KX : K.In s₁.heap) (hns : s₁.heap.Ns mainGlobals mg) (hb : s₁.heap.Ns builtinsNs mb) (hbb : ∀ x : Str, x ≠ "__name__" → mb x = bootBuiltins x) (hlim : s₁.heap.NoLimit) (hg : s₁.gens = #[])
    (hcs : CdAt K s₁.heap cs) (hT : ∀ t ∈ T, t.1 ∈ cs.map Prod.snd)
    (hbm : ∃ (bm : Addr) (ob : Obj), mg "__builtins__" = some (.ref bm) ∧ bm ≠ builtinsNs ∧ s₁.heap.get? bm = some ob ∧ ob.cls = .type "module" ∧ ob.dict = some builtinsNs ∧ ob.data = .plain)
    (ha : s₁.heap.get? a = some { cls := .type "list", data := .seq vs.toArray }) (hi : IntsAre vs ns) (hl : ns.length ≤ sizeLine) (hr : Room k callerA)
    (F : ∀ base : Heap, K.In base → base.Ns mainGlobals mg → (∀ p ∈ cs, LamX.TabB base mg p.1 p.2) → FnG P w K mg base k fa fd [x] (spF K mg T 1 sem)) (hbind : ∀ (s : Shared) (u : Value), BindsTo s fd ⟨[u], []⟩ [(x, u)])
    (hs : sem [.scr (ns.map D.int)] = some (.ret (.bl true))) :
    codeAny (model P w) callerA (.call (.ref fa) ⟨[.ref a], []⟩) (fun r s' => r = .ok (.ret (.bool true)) ∧ OldK s₁.heap s'.heap ∧ s'.os = s₁.os ∧ AllBare s'.gens) s₁ := by
  have rv := vals_ints hi
  have lenV := hi.length
  let o : Obj := { cls := .type "list", data := .seq vs.toArray }
  let H := lawH K cs a o (ns.map V.int)
  have isT : ∀ b, b ∈ cs.map Prod.snd → s₁.heap.get? b = some tab0 ∧ K.lookup b = none := fun b hb => by
    obtain ⟨p, hp, rfl⟩ := List.mem_map.mp hb
    exact (hcs p hp).2
  have aT : a ∉ cs.map Prod.snd := fun z => by
    have q := (isT a z).1
    rw [ha] at q
    cases q
  have hH : ∀ {b u}, b ∉ cs.map Prod.snd → H b = some u → b = a ∧ K.lookup a = none ∧ u = .frz o (.lst (ns.map V.int)) := fun n h => lawH_off n h
  have hS : SqL K H a (ns.map V.int) := by
    cases hk : K.lookup a with
    | none =>
      refine .inl (.inr ⟨o, ?_⟩)
      show lawH K cs a o _ a = _
      unfold lawH
      rw [if_neg aT, if_pos rfl, hk]
    | some u =>
      have e := KX a u hk
      rw [ha] at e
      cases e
      exact .inr ⟨_, vs.toArray, _, hk, rfl, rfl, rfl, by rw [List.size_toArray, lenV]; exact hl, by simpa using rv⟩
  have hok : HOk P w H s₁.heap := fun b u e => by
    by_cases hb : b ∈ cs.map Prod.snd
    · have e' : some (HO.tbl #[]) = some u := (lawH_tab hb).symm.trans e
      cases e'
      exact (isT b hb).1
    · obtain ⟨rfl, _, rfl⟩ := hH hb e
      exact ⟨ha, by rw [List.length_map]; exact hl, vs, _, rv, ha⟩
  -- an object that is neither the script nor a table is not tracked
  have kept : ∀ {b u}, s₁.heap.get? b = some u → (b = a → u ≠ o) → u ≠ tab0 → H b = none := fun {b u} e n n2 => by
    cases q : H b with
    | none => rfl
    | some z =>
      by_cases hb : b ∈ cs.map Prod.snd
      · rw [(isT b hb).1] at e
        cases e
        exact absurd rfl n2
      · obtain ⟨rfl, _, _⟩ := hH hb q
        rw [ha] at e
        cases e
        exact absurd rfl (n rfl)
  have nsK : ∀ {b m}, s₁.heap.Ns b m → (hidT s₁.heap H).Ns b m := fun {b m} ⟨u, es, ep, e, d, r⟩ => ⟨u, es, ep, hidT_get e (kept e (fun _ z => by rw [z] at d; cases d) fun z => by rw [z] at d; cases d), d, r⟩
  have hKb : K.In (hidT s₁.heap H) := fun b u e => hidT_get (KX b u e) (by
    cases q : H b with
    | none => rfl
    | some z =>
      by_cases hb : b ∈ cs.map Prod.snd
      · rw [(isT b hb).2] at e; cases e
      · obtain ⟨rfl, hk, _⟩ := hH hb q
        rw [hk] at e
        cases e)
  have TB : ∀ p ∈ cs, LamX.TabB (hidT s₁.heap H) mg p.1 p.2 := fun p hp => by
    obtain ⟨⟨u, us, file, tf, flags, tg, inF, text, tt, e1, r1, r2, r3, r4, r5, r6, r7, r8, hne⟩, t1, t2⟩ := hcs p hp
    refine ⟨⟨u, us, file, tf, flags, tg, inF, text, tt, hidT_get e1 (kept e1 (fun _ z => by rw [z] at r2; cases r2) fun z => ?_), r1, r2, r3, r4, r5, r6, r7, r8, hne⟩, ?_, fun z => ?_⟩
    · rw [z] at r2
      cases r2
      simp at r3
    · obtain ⟨bm, ob, b1, b2, b3, b4, b5, b6⟩ := hbm
      refine ⟨bm, ob, b1, b2, fun q => ?_, fun q => ?_, hidT_get b3 (kept b3 (fun _ z => by rw [z] at b6; cases b6) fun z => by rw [z] at b6; cases b6), b4, b5, b6⟩
      · obtain ⟨u2, es, ep, e, hd, _⟩ := hns
        rw [q, e] at b3
        cases b3
        rw [hd] at b6
        cases b6
      · rw [q, t1] at b3
        cases b3
        cases b6
    · obtain ⟨u2, es, ep, e, hd, _⟩ := hns
      rw [z, t1] at e
      cases e
      cases hd
  have e0 : Env0 P w K mg (hidT s₁.heap H) callerA [] s₁ H := by
    refine ⟨rfl, ⟨hKb, nsK hns, ⟨mb, nsK hb, hbb⟩, ?_⟩, fun b u e => of_hidT e, Nat.le_of_eq (hidT_size _ _), trivial, fun b hb => ?_, hok, .of_eq hg⟩
    · obtain ⟨mc, h1, h2⟩ := hlim
      exact ⟨mc, nsK h1, h2⟩
    · exact absurd (show b ∈ ([] : List Addr) from hb) (by simp)
  have sp : spF K mg T 1 sem [.ref a] H (fun v _ => v = .bl true) (fun _ _ _ => False) := by
    have up : Same (nt H) H := nt_same
    refine ⟨nt H, [.scr (ns.map D.int)], Same.refl _, RelL.cons ?_ RelL.nil, rfl, fun t ht => LamX.TabS.nil (lawH_tab (hT t ht)), ?_⟩
    · unfold Rel
      refine ⟨a, ns.map V.int, rfl, ?_, RelL.of_ints⟩
      rcases hS with (h | ⟨u, h⟩) | h
      · exact .inl (.inl (nt_of h fun _ z => nomatch z))
      · exact .inl (.inr ⟨u, nt_of h fun _ z => nomatch z⟩)
      · exact .inr h
    · rw [hs]
      exact fun Hf' H' v _ r => r
  refine codeAny_mono ((F _ hKb (nsK hns) TB).run callerA [] s₁ H ⟨[.ref a], []⟩ [.ref a] [.ref a] _ _ hr rfl e0 (hbind s₁ (.ref a)) (.cons rfl .nil) sp) fun r s' h => ?_
  cases r with
  | error e =>
    obtain ⟨_, _, _, _, _, _, _, _, _, _, _, _, z⟩ := (show L2.CX P w [] H s₁ (fun _ _ _ => False) e s' from h)
    exact z.elim
  | ok fl =>
    cases fl with
    | ret u =>
      obtain ⟨v, H', os, bare, un, hok', r', rfl⟩ := h
      cases r'
      have key : ∀ b ob, b ∉ cs.map Prod.snd → s₁.heap.get? b = some ob → s'.heap.get? b = some ob := fun b ob nb e => by
        cases q : H b with
        | none => exact un.keep b ob e q (fun z => absurd (show b ∈ ([] : List Addr) from z) (by simp)) (by simp)
        | some z =>
          obtain ⟨rfl, _, rfl⟩ := hH nb q
          rw [ha] at e
          cases e
          exact (hok' b _ (un.frzs b _ _ q)).1
      have grown : ∀ b, b ∈ cs.map Prod.snd → ∃ more : Array Value, s'.heap.get? b = some { cls := .none, data := .fields more } := fun b hb => by
        obtain ⟨more, z⟩ := un.tbls b #[] (lawH_tab hb)
        exact ⟨_, hok' b _ z⟩
      refine ⟨rfl, ⟨fun b ob e => ?_, fun b ob e => ?_⟩, os, bare⟩
      · by_cases hb : b ∈ cs.map Prod.snd
        · obtain ⟨more, z⟩ := grown b hb
          obtain ⟨p, hp, rfl⟩ := List.mem_map.mp hb
          obtain ⟨c1, c2, _⟩ := hcs p hp
          rw [c2] at e
          cases e
          exact .inr (.inl ⟨(c1.tab c2).isCodeTable, rfl, #[], more, rfl, by rw [z, Array.empty_append]⟩)
        · exact .inl (key b ob hb e)
      · by_cases hb : b ∈ cs.map Prod.snd
        · obtain ⟨more, z⟩ := grown b hb
          exact ⟨_, z⟩
        · exact ⟨ob, key b ob hb e⟩
    | next => exact False.elim h
    | brk => exact False.elim h
    | cont => exact False.elim h
end
/-- a def's code object and its table, from what is written out -/
theorem tabIn_mk {K : PySem.W.Frag} {x : Str} {f c Pt : Addr} {oc oc2 : Value} {od od2 : Option Addr} {fd : FuncData} {us : Array Value} {sl sl2 : Array (Option Value)} (h1 : PySem.W.nsIn K mainGlobals x = some (some (.ref f))) (h2 : K.lookup f = some ⟨oc, od, .func fd, sl⟩) (h3 : fd.code = .ref c)
    (h4 : K.lookup c = some ⟨oc2, od2, .fields us, sl2⟩) (h5 : us[11]? = some (.ref Pt)) : PySem.W.tabIn K x = some (c, Pt) := by
  unfold PySem.W.tabIn
  rw [h1]
  dsimp only
  rw [h2]
  dsimp only
  rw [h3]
  dsimp only
  rw [h4]
  dsimp only
  rw [h5]
/-- what k_head leaves knows the defs of q -/
def TopQ (q : Program) (mg : Str → Option Value) (h : Heap) : Prop := ∃ (loose : List Str) (mean : ExcName → Option Value) (mb : Str → Option Value), Top q loose mean mg mb h
theorem cd_of {q : Program} {K : PySem.W.Frag} {mg : Str → Option Value} {h : Heap} {d : DefRec} {x : Str} {c Pt : Addr} (T : TopQ q mg h) (X : K.In h) (hr : (recsOf q).find? (fun e => e.name == x) = some d) (ht : PySem.W.tabIn K x = some (c, Pt)) (hn : K.lookup Pt = none) {cs : CdL} (r : CdAt K h cs) : CdAt K h ((c, Pt) :: cs) := fun p hp => by
  obtain ⟨loose, mean, mb, T⟩ := T
  rcases List.mem_cons.mp hp with rfl | hp
  · obtain ⟨a, b⟩ := PySem.W.tab_of T X hr ht
    exact ⟨a, b, hn⟩
  · exact r p hp
theorem cd_nil {K : PySem.W.Frag} {h : Heap} : CdAt K h [] := fun _ hp => absurd hp (by simp)
/-- what the word k_head leaves, from the law's plain form -/
theorem walkG {l : PySem.W.OpenLaw} {n k : Nat} {q : Program} {loose : List Str} {XP : (Str → Option Value) → Heap → Prop} {YP : World → Heap → Prop} {d : DefRec} {K : Params → PySem.W.Frag} {x : Str} {sem : (Str → Addr) → FS}
    (hn : l.most = some n) (hn2 : n ≤ sizeLine) (hdf : d.params.defaults = []) (hr : Room k callerA) (hY : ∀ (w : World) (h : Heap), YP w h → (K w.params).In h)
    (F : ∀ (w : World) (mg : Str → Option Value) (fa : Addr) (h : Heap), TopQ q mg h → (K w.params).In h → h.Ns mainGlobals mg → mg d.name = some (.ref fa) →
      ∃ (fd : FuncData) (cs : CdL) (T : TbL) (fb : Str → Addr), CdAt (K w.params) h cs ∧ (∀ t ∈ T, t.1 ∈ cs.map Prod.snd) ∧ (∀ (s : Shared) (u : Value), BindsTo s fd ⟨[u], []⟩ [(x, u)]) ∧ ∀ base : Heap, (K w.params).In base → base.Ns mainGlobals mg → (∀ p ∈ cs, LamX.TabB base mg p.1 p.2) → FnG l.prog w (K w.params) mg base k fa fd [x] (spF (K w.params) mg T 1 (sem fb)))
    (hs : ∀ (fb : Str → Addr) (ns : List Int), ns.length ≤ n → sem fb [.scr (ns.map D.int)] = some (.ret (.bl true))) : PySem.W.WalkO q loose XP YP l.row.toRowW d [] (fun f vs => PySem.call f vs) :=
  Att.attach_call hn hdf fun w s₀ s₁ mg mb fa o pm cd doc a vs ns G Y ho hd hcd hmg hobj hints hlen hg => by
    obtain ⟨fd, cs, T, fb, hcs, hT, hb, hF⟩ := F w mg fa _ ⟨_, _, _, G.T⟩ (hY w _ Y) G.T.g hmg
    exact law_G (hY w _ Y) G.T.g G.T.b G.T.builtins G.T.nolimit hg hcs hT G.T.bmain hobj hints (Nat.le_trans hlen hn2) hr hF hb (hs fb ns hlen)
end Dn

namespace Dn
open PySem PySem.Spec L2
open PyProof.Rows (envOfC)

/-! ## names for operations -/
def subD : D → D → Option OR := iiD fun i j => i - j
def iaddD : D → D → Option OR := iiD fun i j => i + j
def imulD : D → D → Option OR := iicD mulC fun i j => i * j
def divD : D → D → Option OR
  | .int i, .int j => if divC i j then some (.v (.int (i / j))) else if divN i j then some (.v (.int (Int.fdiv i j))) else none
  | _, _ => none
def modD : D → D → Option OR
  | .int i, .int j => if decide (0 < j) then some (.v (.int (i % j))) else if decide (j < 0) then some (.v (.int (Int.fmod i j))) else none
  | _, _ => none
def powD : D → D → Option OR := iicD powC fun i j => i ^ j.toNat
def ltD : D → D → Option OR := cmpD fun i j => decide (i < j)
def leD : D → D → Option OR := cmpD fun i j => decide (i ≤ j)
def gtD : D → D → Option OR := cmpD fun i j => decide (j < i)
def geD : D → D → Option OR := cmpD fun i j => decide (j ≤ i)
section
variable {X : Cx}
theorem o_subD : Op2 X (binaryOp .Sub) subD := o_sub
theorem o_divD : Op2 X (binaryOp .FloorDiv) divD := Op2.or o_fdiv o_fdivN fun d e out h => by
  cases d <;> cases e <;> first
    | (cases h; done)
    | skip
  unfold divD at h
  dsimp only at h
  split at h
  · rename_i c
    exact .inl (by unfold iicD; dsimp only; rw [if_pos c]; exact h)
  · split at h
    · rename_i c
      exact .inr (by unfold iicD; dsimp only; rw [if_pos c]; exact h)
    · cases h
theorem o_modD : Op2 X (binaryOp .Mod) modD := Op2.or o_mod o_modN fun d e out h => by
  cases d <;> cases e <;> first
    | (cases h; done)
    | skip
  unfold modD at h
  dsimp only at h
  split at h
  · rename_i c
    exact .inl (by unfold iicD; dsimp only; rw [if_pos c]; exact h)
  · split at h
    · rename_i c
      exact .inr (by unfold iicD; dsimp only; rw [if_pos c]; exact h)
    · cases h
theorem o_powD : Op2 X (binaryOp .Pow) powD := o_pow
theorem oi_addD : Op2 X (inplaceOp .Add) iaddD := oi_add
theorem oi_subD : Op2 X (inplaceOp .Sub) subD := oi_sub
theorem oi_mulD : Op2 X (inplaceOp .Mult) imulD := oi_mul
theorem o_ltD : Op2 X (compareOp .Lt) ltD := o_lt
theorem o_leD : Op2 X (compareOp .LtE) leD := o_le
theorem o_gtD : Op2 X (compareOp .Gt) gtD := o_gt
theorem o_geD : Op2 X (compareOp .GtE) geD := o_ge
variable {W : WT} {pos : Pos}
/-- -k written out -/
theorem de_nint {k j} {p : Pos} : DE X W (.UnaryOp .USub (.Constant (.int k) j p) pos) (eC (.int (-k))) := de_un o_neg de_int
theorem de_gint {x : Str} {n : Int} (hg : Gl X x) (hm : ∃ t, X.mg x = some (.int n t)) (hd : (x == ("__debug__" : Str)) = false := by decide) : DE X W (.Name x pos) (eC (.int n)) := by
  obtain ⟨t, hm⟩ := hm
  exact de_c (v := .int n) (pe_glob hg hm ⟨t, rfl⟩ hd) fun _ _ => rfl
theorem de_gstr {x y : Str} (hg : Gl X x) (hm : ∃ t, X.mg x = some (.str y t)) (hd : (x == ("__debug__" : Str)) = false := by decide) : DE X W (.Name x pos) (eC (.str y)) := by
  obtain ⟨t, hm⟩ := hm
  exact de_c (v := .str y) (pe_glob hg hm ⟨t, rfl⟩ hd) fun _ _ => rfl
theorem de_cK {e : Expr} {v : V} {d : D} (h : PE X e (tC v)) (r : ∀ H, Rel X.K H d v) : DE X W e (eC d) := h.imp fun σ H Q ⟨G, Hf, δ, I, q⟩ => q Hf H v (Same.refl _) I (r _)
/-- a name of the module's that holds a tuple -/
def GTup (K : PySem.W.Frag) (mg : Str → Option Value) (x : Str) (ds : List D) : Prop := ∃ a, mg x = some (.ref a) ∧ ∀ H, Rel K H (.tup ds) (.ref a)
theorem de_gtup {x : Str} {ds : List D} (hg : Gl X x) (hm : GTup X.K X.mg x ds) (hd : (x == ("__debug__" : Str)) = false := by decide) : DE X W (.Name x pos) (eC (.tup ds)) := by
  obtain ⟨a, hm, r⟩ := hm
  exact de_cK (v := .ref a) (pe_glob hg hm rfl hd) r
theorem gtup_mk {K : PySem.W.Frag} {mg : Str → Option Value} {x : Str} {a : Addr} {dd : Option Addr} {its : Array Value} {n : Nat} {sl : Array (Option Value)} {xs : List V} {ds : List D} (hm : mg x = some (.ref a)) (l : K.lookup a = some ⟨.type "tuple", dd, .seq its n, sl⟩) (hz : its.size ≤ sizeLine) (hv : Vals xs its.toList)
    (hr : ∀ H, RelL K H ds xs) : GTup K mg x ds := ⟨a, hm, fun H => by
  unfold Rel
  exact ⟨a, xs, rfl, .inr ⟨_, its, n, l, rfl, rfl, hz, hv⟩, hr H⟩⟩
theorem de_gty {x : Str} {n : String} (hg : Gl X x) (hm : X.mg x = none) (hv : bootBuiltins x = some (.type n)) (hn : x ≠ "__name__" := by decide) (hd : (x == ("__debug__" : Str)) = false := by decide) : DE X W (.Name x pos) (eC (.ty n)) :=
  de_c (v := .ty n) (pe_bltn hg hm hv rfl hn hd) fun _ _ => rfl
end
/-! ## == with texts of any signs -/
def eqX (neg : Bool) : D → D → Option OR
  | .str x, .str y => some (.v (.bl (neg != (x == y))))
  | d, e => eqD neg d e
def eqStr (neg : Bool) : D → D → Option OR
  | .str x, .str y => some (.v (.bl (neg != (x == y))))
  | _, _ => none
section
variable {X : Cx}
theorem o_eqS : Op2 X (compareOp .Eq) (eqStr false) := ⟨_, op_eq, fun Hf H d e x y out Q s rx ry he q => by
  unfold eqStr at he
  split at he
  · cases he
    cases rx
    cases ry
    refine ⟨rfl, q _ ?_⟩
    rename_i a b
    show V.bl (decide (V.str a = V.str b)) = V.bl _
    rw [dec_str]
    cases (a == b) <;> rfl
  · cases he⟩
theorem o_neS : Op2 X (compareOp .NotEq) (eqStr true) := ⟨_, op_ne, fun Hf H d e x y out Q s rx ry he q => by
  unfold eqStr at he
  split at he
  · cases he
    cases rx
    cases ry
    refine ⟨rfl, q _ ?_⟩
    rename_i a b
    show V.bl (!decide (V.str a = V.str b)) = V.bl _
    rw [dec_str]
    cases (a == b) <;> rfl
  · cases he⟩
theorem eqX_or {neg : Bool} {d e : D} {out : OR} (h : eqX neg d e = some out) : eqStr neg d e = some out ∨ eqD neg d e = some out := by
  unfold eqX at h
  split at h
  · exact .inl h
  · exact .inr h
theorem o_eqX (hu : X.A.units + 64 < cLine) : Op2 X (compareOp .Eq) (eqX false) := o_eqS.or (o_eq hu) fun _ _ _ h => eqX_or h
theorem o_neX (hu : X.A.units + 64 < cLine) : Op2 X (compareOp .NotEq) (eqX true) := o_neS.or (o_ne hu) fun _ _ _ h => eqX_or h
end
/-! ## tests that compare -/
section
variable {X : Cx} {W : WT} {a b c : Expr} {ea eb ec : ED} {pos : Pos}
theorem rd_tVal {ea : ED} {σ : L2.St} {H : Hp} {Q : Bool → Hp → Prop} (h : rdT X.K X.mg W (tVal ea) σ H Q) : rdE X.K X.mg W ea σ H (fun x H1 => ∃ k, x = .bl k ∧ Q k H1) := by
  obtain ⟨G, Hf, δ, I, q⟩ := h
  refine ⟨G, Hf, δ, I, ?_⟩
  unfold tVal at q
  revert q
  cases ea δ with
  | none => exact fun q => q.elim
  | some r =>
    cases r with
    | er x δ' => exact fun q => q
    | ok r δ' =>
      cases r with
      | fz d =>
        cases d with
        | bl c => exact fun q Hf' H' v a1 a2 a3 => ⟨c, a3, q Hf' H' a1 a2⟩
        | _ => exact fun q => q.elim
      | _ => exact fun q => q.elim
theorem dt_cmp {op : CmpOp} {sem : D → D → Option OR} (ho : Op2 X (compareOp op) sem) (ha : DE X W a ea) (hb : DE X W b eb) (hm : behindInMarks op b = false) : DT X W (.Compare a [op] [b] pos) (tVal (eBin sem ea eb)) := by
  obtain ⟨R, hr, hs⟩ := ho
  exact (pt_cmpR hr ha hb hm).imp fun σ H Q h => rd_bin hs (rd_tVal h)
theorem dt_chain {op op' : CmpOp} {s1 s2 : D → D → Option OR} (h1 : Op2 X (compareOp op) s1) (h2 : Op2 X (compareOp op') s2) (ha : DE X W a ea) (hb : DE X W b eb) (hc : DE X W c ec)
    (hm : lastMarks [op, op'] [b, c] = false := by with_unfolding_all rfl) : DT X W (.Compare a [op, op'] [b, c] pos) (tVal (eChain s1 s2 ea eb ec)) := by
  obtain ⟨R, hr, hs⟩ := h1
  obtain ⟨R', hr', hs'⟩ := h2
  exact (pt_chain hr hr' ha hb hc hm).imp fun σ H Q h => rd_chain hs hs' (rd_tVal h)
end
theorem hu64 {k : Nat} {A : Around} (hr : Room k A) : A.units + 64 < cLine := by have := hr.un; omega
theorem hu100 {k : Nat} {A : Around} (hr : Room k A) : A.units + 100 < cLine := by have := hr.un; omega

/-! ## defs by name -/
structure Df (K : PySem.W.Frag) (mg : Str → Option Value) (x : Str) (st : Stmt) (ps : List Str) : Prop where
  ex : ∃ f fd, Fun K x x st f fd ∧ mg x = some (.ref f) ∧ Binds K fd ps []
structure Cf (P : Program) (w : World) (K : PySem.W.Frag) (mg : Str → Option Value) (T : TbL) (base : Heap) (k : Nat) (x : Str) (n : Nat) (sem : FS) : Prop where
  ex : ∃ f fd ps, FnG P w K mg base k f fd ps (spF K mg T n sem) ∧ mg x = some (.ref f) ∧ PySem.W.keepIn K (.ref f) = true ∧ Binds K fd ps []
  len : ∀ ds, sem ds ≠ none → ds.length = n
structure Ci (P : Program) (w : World) (K : PySem.W.Frag) (mg : Str → Option Value) (T : TbL) (base : Heap) (k : Nat) (x : Str) (n : Nat) (sem : FSio) : Prop where
  ex : ∃ f fd ps, FnG P w K mg base k f fd ps (spIo K mg T n sem) ∧ mg x = some (.ref f) ∧ PySem.W.keepIn K (.ref f) = true ∧ Binds K fd ps []
  len : ∀ d ds, sem (d :: ds) ≠ none → ds.length + 1 = n
theorem semF_len {m n : Nat} {sd : SD} (ds : List D) (h : semF m n sd ds ≠ none) : ds.length = n := by
  unfold semF at h
  split at h
  · assumption
  · exact absurd rfl h
theorem semIo_len {m n : Nat} {sd : SD} (d : D) (ds : List D) (h : semIo m n sd (d :: ds) ≠ none) : ds.length + 1 = n := by
  unfold semIo at h
  split at h
  · rename_i e
    cases e
    split at h
    · assumption
    · exact absurd rfl h
  · exact absurd rfl h
section
variable {P : Program} {w : World} {K : PySem.W.Frag} {mg : Str → Option Value} {base : Heap}
theorem cf_mk {x : Str} {st : Stmt} {N ps : List Str} {k n : Nat} {sd : SD} {T : TbL} (Dd : Df K mg x st ps) (S : FnScope N ps (defScope st)) (hn : ps.length = n)
    (hb : ∀ (f : Addr) (cdv : Value) (A : Around) (outer : List Env) (s : Shared) (H : Hp) (E : XK), Room k (A.deeper (envOfC x (defScope st) s.heap.objs.size f cdv)) → A.guards = some [] →
      DSs (cxOf (L2.CX P w) P w K mg base N x (defScope st) f cdv A outer s H E) (wE T E) (defBody st) sd) : Cf P w K mg T base (k + 1) x n (semF N.length n sd) := by
  obtain ⟨f, fd, F, g, b⟩ := Dd.ex
  exact ⟨⟨f, fd, ps, fnF F S hn (hb f), g, F.kp, b⟩, semF_len⟩
theorem ci_mk {x : Str} {st : Stmt} {N ps : List Str} {k n : Nat} {sd : SD} {T : TbL} (Dd : Df K mg x st ps) (S : FnScope N ps (defScope st)) (hn : ps.length = n)
    (hb : ∀ (f : Addr) (cdv : Value) (A : Around) (outer : List Env) (s : Shared) (H : Hp) (E : XK), Room k (A.deeper (envOfC x (defScope st) s.heap.objs.size f cdv)) → A.guards = some [] →
      DSs (cxOf (L2.CX P w) P w K mg base N x (defScope st) f cdv A outer s H E) (wE T E) (defBody st) sd) : Ci P w K mg T base (k + 1) x n (semIo N.length n sd) := by
  obtain ⟨f, fd, F, g, b⟩ := Dd.ex
  exact ⟨⟨f, fd, ps, fnIo F S hn (hb f), g, F.kp, b⟩, semIo_len⟩
end
section
variable {X : Cx} {W : WT} {e : Expr} {es : List Expr} {ad : AD} {pos p : Pos} {k j n : Nat} {x : Str}
theorem de_cf {sem : FS} (C : Cf X.prog X.w X.K X.mg W.c.tabs X.base k x n sem) (hr : Room j X.A) (hkj : k ≤ j) (hgd : X.A.guards = some []) (hg : Gl X x) (tk : Takes X W)
    (ha : DA X W (e :: es) ad) (hdb : (x == ("__debug__" : Str)) = false := by decide) (he : starEach (e :: es) X.env = (false, eval e X.env) :: starEach es X.env := by rfl) (hpl : (backTo pos (starEach es X.env)).any (·.1) = false := by rfl) :
    DE X W (.Call (.Name x p) (e :: es) [] pos) (eCall sem ad) := by
  obtain ⟨⟨f, fd, ps, F, hm, hk, hb⟩, hl⟩ := C
  exact de_call F hgd hl (hr.mono hkj) hg hm hk hb tk ha hdb he hpl
theorem de_cf0 {sem : FS} (C : Cf X.prog X.w X.K X.mg W.c.tabs X.base k x 0 sem) (hr : Room j X.A) (hkj : k ≤ j) (hgd : X.A.guards = some []) (hg : Gl X x)
    (hdb : (x == ("__debug__" : Str)) = false := by decide) : DE X W (.Call (.Name x p) [] [] pos) (eCall0 sem) := by
  obtain ⟨⟨f, fd, ps, F, hm, hk, hb⟩, hl⟩ := C
  exact de_call0 F hgd (hr.mono hkj) hg hm hk hb hdb
theorem de_ci {sem : FSio} (C : Ci X.prog X.w X.K X.mg W.c.tabs X.base k x n sem) (hr : Room j X.A) (hkj : k ≤ j) (hgd : X.A.guards = some []) (hg : Gl X x) (tk : Takes X W)
    (ha : DA X W (e :: es) ad) (hdb : (x == ("__debug__" : Str)) = false := by decide) (he : starEach (e :: es) X.env = (false, eval e X.env) :: starEach es X.env := by rfl) (hpl : (backTo pos (starEach es X.env)).any (·.1) = false := by rfl) :
    DE X W (.Call (.Name x p) (e :: es) [] pos) (eCallIo sem ad) := by
  obtain ⟨⟨f, fd, ps, F, hm, hk, hb⟩, hl⟩ := C
  exact de_callIo F hgd hl (hr.mono hkj) hg hm hk hb tk ha hdb he hpl
theorem s_par3 {st : Stmt} {i j l : Nat} (h : PS X st (tPar3 i j l (rdA X.K X.mg W ad))) : DS X W st (sPar [i, j, l] ad) := h.imp fun D σ H q => by
  obtain ⟨G, Hf, δ, I, q⟩ := rd_par q
  refine ⟨G, Hf, δ, I, q.mono fun vs H1 ⟨h1, _, h2, _⟩ => ?_⟩
  match vs, h1 with
  | [u, v, w], _ => exact ⟨u, v, w, rfl, h2⟩
theorem s_augN {i : Nat} {e : Expr} {ed : ED} {op : Operator} {sem : D → D → Option OR} {x : Str} {pos' : Pos} (ho : Op2 X (inplaceOp op) sem) (hN : X.N.Nodup) (hi : X.N[i]? = some x) (hx : Loc X.env.scope x) (he : DE X W e ed)
    (hf : X.fn x = true ∨ X.env.scope.names.lookup x = some .local := by first | exact .inl rfl | exact .inr rfl | assumption) : DS X W (.AugAssign (.Name x pos') op e pos) (sAug sem i ed) :=
  s_aug (e := e) ho fun r hr => ps_aug hN hi hx he hr hf
end
end Dn

namespace Dn
open PySem PySem.Spec L2
/-! isinstance(x, (A, B)) as it is written -/
def tyN : D → Option String
  | .non => some "NoneType"
  | .bl _ => some "bool"
  | .int _ => some "int"
  | .str _ => some "str"
  | .tup _ => some "tuple"
  | .lst _ => some "list"
  | .dct _ _ => some "dict"
  | _ => none
def isiN (t n : String) : Bool := t == n || (t == "bool" && n == "int")
def six : List String := ["int", "bool", "str", "tuple", "list", "dict"]
theorem kit_six {t n : String} (ht : t = "NoneType" ∨ t ∈ six) (hn : n ∈ six) : kitB t n = some (isiN t n) := by
  simp only [six, List.mem_cons, List.not_mem_nil, or_false] at ht hn
  rcases ht with rfl | rfl | rfl | rfl | rfl | rfl | rfl <;> rcases hn with rfl | rfl | rfl | rfl | rfl | rfl <;> decide +kernel
theorem kitAny_two {K : PySem.W.Frag} {t a b : String} (ht : t = "NoneType" ∨ t ∈ six) (ha : a ∈ six) (hb : b ∈ six) : PySem.W.kitAny K (.type t) [.type a, .type b] = some (isiN t a || isiN t b) := by
  refine kitAny_cons (kit_ty (kit_six ht ha)) (fun h => ?_) (fun h => by rw [h]; rfl)
  rw [h, Bool.false_or]
  refine kitAny_cons (kit_ty (kit_six ht hb)) (fun h2 => by rw [h2]; exact kitAny_nil) (fun h2 => h2)
def isi2K (a b : String) (o : Option D) (δ : List Sl) : Option ER := match o with
  | some d => match tyN d with
    | some t => some (.ok (.fz (.bl (isiN t a || isiN t b))) δ)
    | none => none
  | none => none
def isiR (a b : String) (r : Rs) (δ : List Sl) : Option ER := isi2K a b (r.data δ) δ
def eIsi2 (a b : String) (e : ED) : ED := fun δ => ER.bind (e δ) (isiR a b)
section
variable {X : Cx} {W : WT} {e : Expr} {ea : ED}
theorem tyN_ok {K : PySem.W.Frag} {Hf H : Hp} {d : D} {x : V} {t : String} {p : Addr} {o : HO} (s : Same Hf H) (h : RN K Hf H d x) (hp : H p = none) (e : tyN d = some t) : TyX K (upd H p o) x (.type t) ∧ (t = "NoneType" ∨ t ∈ six) := by
  have up : Same H (upd H p o) := Same.new hp
  cases d with
  | non => cases h; cases e; exact ⟨.base .non, .inl rfl⟩
  | bl c => cases h; cases e; exact ⟨.base (.bl c), .inr (by simp [six])⟩
  | int c => cases h; cases e; exact ⟨.base (.int c), .inr (by simp [six])⟩
  | str c => cases h; cases e; exact ⟨.base (.str c), .inr (by simp [six])⟩
  | tup c =>
    obtain ⟨a, xs, rfl, h1, h2⟩ := RN.tup h
    cases e
    exact ⟨tyx_tup (Same.sqt up (Same.sqt s h1)), .inr (by simp [six])⟩
  | lst c =>
    obtain ⟨a, xs, rfl, h1, h2⟩ := h
    cases e
    exact ⟨.base (.lst (up _ _ h1)), .inr (by simp [six])⟩
  | dct ks c =>
    have h : Rel K Hf (.dct ks c) x := h
    unfold Rel at h
    obtain ⟨a, kvs, rfl, h1, _⟩ := h
    cases e
    exact ⟨.base (.dK (up _ _ (s _ _ h1))), .inr (by simp [six])⟩
  | _ => cases e
theorem de_isi2 {x : Expr} {a b : String} (ha : a ∈ six) (hb : b ∈ six) (h : PE X e (tCB (rIsiT X.K) (tCons (rdE X.K X.mg W ea) (tCons (tTup (tCons (tC (.ty a)) (tCons (tC (.ty b)) tNil))) tNil)))) : DE X W e (eIsi2 a b ea) := h.imp fun σ H Q ⟨G, Hf, δ, I, q⟩ => by
  refine ⟨G, Hf, δ, I, q.seq.mono fun v H1 ⟨Hf1, δ1, r, s1, I1, r1, q1⟩ => ?_⟩
  unfold isiR isi2K at q1
  split at q1
  · rename_i d hd
    split at q1
    · rename_i t ht
      have rn := I1.data r1 hd
      refine ⟨by show 2 ≤ sizeLine; decide, fun p hp => ?_⟩
      obtain ⟨ty, hs⟩ := tyN_ok (o := .tup [.ty a, .ty b]) I1.sub rn hp ht
      exact ⟨v, p, [.ty a, .ty b], .type t, [.type a, .type b], _, rfl, upd_same, .cons (.ty a) (.cons (.ty b) .nil), ty, kitAny_two hs ha hb, q1 _ _ _ (Same.new (I1.fnone hp)) (I1.alloc hp (.tup [.ty a, .ty b])) rfl⟩
    · exact q1.elim
  · exact q1.elim
end
theorem cf_none {P : Program} {w : World} {K : PySem.W.Frag} {mg : Str → Option Value} {base : Heap} {x : Str} {st : Stmt} {ps : List Str} {k n : Nat} (d : Df K mg x st ps) {T : TbL} (hn : ps.length = n) : Cf P w K mg T base k x n (fun _ => none) := by
  obtain ⟨f, fd, F, g, b⟩ := d.ex
  refine ⟨⟨f, fd, ps, ⟨fun vs H Q E ⟨Hf, ds, _, r, hl, _⟩ => by rw [r.length, hl, hn], fun A outer s H args us vs Q E _ _ _ _ _ ⟨Hf, ds, _, _, _, _, q⟩ => q.elim⟩, g, F.kp, b⟩, fun ds h => absurd rfl h⟩
end Dn

/-! a lambda (with defaults or without) handed to a def that calls it -/
namespace Lm
open PySem PySem.Spec PyProof.Rows L2
open LamX (Tabs TabS TabB ExtN CodeO)
/-- the lambda's record -/
abbrev lmFd (q : Str) (params : Arguments) (body : Expr) (scope : Scope) (cl : List (Str × Addr)) (dV doc pm : Value) (k : Addr) (ct : Value) : FuncData := PySem.W.kdv_fn "<lambda>" q params (.expr body) scope cl dV doc pm (.ref k) ct
abbrev lmQ (X : Cx) : Str := X.env.qual ++ "<lambda>"
abbrev lmCl (X : Cx) (scope : Scope) : List (Str × Addr) := cloFrom X.env.cells scope.names []
/-- the default values, laid as a tuple -/
def DfV (X : Cx) (H : Hp) (h : Heap) (dv : List Value) (dV : Value) : Prop :=
  (dv = [] ∧ dV = .none) ∨ ∃ Tp : Addr, dV = .ref Tp ∧ h.get? Tp = some (PySem.W.kdv_tup dv) ∧ H Tp = none ∧ Tp ∉ frs X.stack
section
variable {X : Cx} {pins : List (Addr × Obj)} {σ : L2.St} {H : Hp} {s : Shared} {Tb : List (Addr × Str)} {c P : Addr} {params : Arguments} {body : Expr} {scope : Scope} {pos : Pos} {E : Value → Shared → Prop} {Q : Value → Shared → Prop} {dv : List Value} {dV : Value}
theorem no_frame {I : Inv X pins σ H s} {f : Addr} (hf : s.heap.objs.size ≤ f) : f ∉ frs X.stack := fun z => by
  rcases List.mem_cons.mp (I.stkSub _ z) with rfl | e
  · exact absurd I.lt (Nat.not_lt.mpr hf)
  · exact I.nofs hf e
/-- the function is made, its code object new or found in the table -/
theorem lm_tail (I : Inv X pins σ H s) (TB : TabB X.base X.mg c P) (hcode : X.env.code = .ref c) (hm : (P, lmQ X) ∈ Tb) (hu : ∀ p ∈ Tb, p.1 = P → p.2 = lmQ X) (hT : Tabs Tb H) (hfree : ∀ y ∈ scope.names, y.2 = .free → ∃ a, X.env.cells.lookup y.1 = some a) (D : DfV X H s.heap dv dV)
    (h : ∀ (f k : Addr) (doc pm ct : Value) (H1 : Hp) (s1 : Shared), Inv X pins σ H1 s1 → ExtN H H1 → Tabs Tb H1 → s1.heap.get? f = some { cls := .type "function", data := .func (lmFd (lmQ X) params body scope (lmCl X scope) dV doc pm k ct) } →
      H1 f = none → f ∉ frs X.stack → H1 k = some (CodeO k (lmQ X)) → DfV X H1 s1.heap dv dV → Q (.ref f) s1) :
    wpAny (model X.prog X.w) X.A (makeTail "<lambda>" (lmQ X) params (.expr body) scope X.env dV .none none pos pos.line) Q E s := by
  obtain ⟨ps, hP, ht, ha⟩ := hT _ hm
  have bP : s.heap.BuiltinsAt X.mg P := TB.bm.keeps I.bk
  have hP' : s.heap.get? P = some (PySem.W.tabObj ps) := I.hok P _ hP
  cases hc : codeAmong pos ps.toList with
  | some cv =>
    obtain ⟨k, rfl, hk⟩ := ha pos cv hc
    refine PySem.W.kdv_makeTailHit (c := c) (P := P) (closure_ok hfree) I.ok.glob (I.mod.glob.keeps I.bk) hcode (TB.code.keeps I.bk) hP' ht hc bP fun ct doc h' tk hx hz => ?_
    have up : ∀ (oF : Obj) (b : Addr) (o : Obj), s.heap.get? b = some o → (h'.push oF).get? b = some o := fun oF b o e => Heap.get?_push_of_some _ (hx b o e)
    refine h h'.objs.size k doc ((X.mg "__name__").getD .none) ct H _ (I.kept (t' := tk) (up _)) (ExtN.refl H) hT (Heap.get?_push_size _ rfl) (I.hok.fresh hz) (no_frame (I := I) hz) hk ?_
    rcases D with D | ⟨Tp, d1, d2, d3⟩
    · exact .inl D
    · exact .inr ⟨Tp, d1, up _ _ _ d2, d3⟩
  | none =>
    refine PySem.W.kdv_makeTail (c := c) (P := P) (closure_ok hfree) I.ok.glob (I.mod.glob.keeps I.bk) hcode (TB.code.keeps I.bk) hP' ht hc TB.gP bP fun k ct doc h' tk hx hge hlt hrec htb => ?_
    obtain ⟨k2, oc, us, t, e2, hoc, hd, hv⟩ := hrec
    cases e2
    have nK : H k = none := I.hok.fresh hge
    have hz : s.heap.objs.size ≤ h'.objs.size := Nat.le_trans hge (Nat.le_of_lt hlt)
    have nPk : P ≠ k := ne_of_none hP nK
    let oF : Obj := { cls := .type "function", data := .func (lmFd (lmQ X) params body scope (lmCl X scope) dV doc ((X.mg "__name__").getD .none) k ct) }
    have up : ∀ (b : Addr) (o : Obj), b ≠ P → s.heap.get? b = some o → (h'.push oF).get? b = some o := fun b o n e => Heap.get?_push_of_some _ (hx b o n e)
    have I1 := LamX.inv_table (t' := tk) (more := #[rawInt pos.line, rawInt pos.col, .ref k]) (h' := h'.push oF) I hP up (Heap.get?_push_of_some _ htb) hge ⟨oc, us, t, Heap.get?_push_of_some _ hoc, hd, hv⟩
    let H1 : Hp := upd (upd H P (.tbl (ps ++ #[rawInt pos.line, rawInt pos.col, .ref k]))) k (CodeO k (lmQ X))
    have h1 : ∀ b, b ≠ k → b ≠ P → H1 b = H b := fun b n1 n2 => (upd_ne n1).trans (upd_ne n2)
    have hP1 : H1 P = some (.tbl (ps ++ #[rawInt pos.line, rawInt pos.col, .ref k])) := (upd_ne nPk).trans upd_same
    have eN : ExtN H H1 := fun b o e n => by
      rw [h1 b (ne_of_none e nK) fun z => ?_]
      · exact e
      · rw [z, hP] at e
        exact n ps (Option.some.inj e).symm
    have eL : (ps ++ #[rawInt pos.line, rawInt pos.col, .ref k]).toList = ps.toList ++ [rawInt pos.line, rawInt pos.col, .ref k] := by simp
    have T1 : Tabs Tb H1 := fun p hp => by
      by_cases hb : p.1 = P
      · have hq := hu p hp hb
        rw [hb, hq]
        refine ⟨_, hP1, ?_, fun pos' cv hcv => ?_⟩
        · rw [eL]
          exact PySem.TriplesOk_snoc _ _ _ _ ht
        · rw [eL] at hcv
          rcases LamX.among_app _ ht hcv with z | rfl
          · obtain ⟨k0, e1, e2⟩ := ha pos' cv z
            exact ⟨k0, e1, eN _ _ e2 LamX.codeO_ne⟩
          · exact ⟨k, rfl, upd_same⟩
      · obtain ⟨ps', a1, a2, a3⟩ := hT p hp
        refine ⟨ps', (h1 _ (ne_of_none a1 nK) hb).trans a1, a2, fun pos' cv hcv => ?_⟩
        obtain ⟨k0, e1, e2⟩ := a3 pos' cv hcv
        exact ⟨k0, e1, eN _ _ e2 LamX.codeO_ne⟩
    have fr : H1 h'.objs.size = none := by
      rw [h1 _ (Nat.ne_of_gt hlt) (Nat.ne_of_gt (Nat.lt_of_lt_of_le (Heap.lt_size hP') hz))]
      exact I.hok.fresh hz
    refine h h'.objs.size k doc ((X.mg "__name__").getD .none) ct H1 _ I1 eN T1 (Heap.get?_push_size _ rfl) fr (no_frame (I := I) hz) upd_same ?_
    rcases D with D | ⟨Tp, d1, d2, d3, d4⟩
    · exact .inl D
    · have n1 : Tp ≠ P := fun z => by
        rw [z, hP] at d3
        cases d3
      refine .inr ⟨Tp, d1, up _ _ n1 d2, ?_, d4⟩
      rw [h1 _ (fun z => ?_) n1]
      · exact d3
      · subst z
        exact absurd (Heap.lt_size d2) (Nat.not_lt.mpr hge)
/-- the lambda's names: captured ones, globals, its own parameters that are no slots -/
structure LmS (N : List Str) (sc scope : Scope) : Prop where
  kind : scope.kind = .function
  co : scope.isCoroutine = false
  gen : scope.isGenerator = false
  own : ∀ y ∈ scope.names, y.2 ≠ .cell ∧ (y.2 = .local → y.1 ∉ N)
  free : ∀ y ∈ scope.names, y.2 = .free → sc.names.lookup y.1 = some .cell ∨ sc.names.lookup y.1 = some .free
def lmSB (N : List Str) (sc scope : Scope) : Bool :=
  decide (scope.kind = .function) && (!scope.isCoroutine && (!scope.isGenerator && scope.names.all fun y => decide (y.2 ≠ .cell) && (decide (y.2 = .local → y.1 ∉ N) && decide (y.2 = .free → sc.names.lookup y.1 = some .cell ∨ sc.names.lookup y.1 = some .free))))
theorem lmS_by {N : List Str} {sc scope : Scope} (h : lmSB N sc scope = true) : LmS N sc scope := by
  unfold lmSB at h
  rw [Bool.and_eq_true, Bool.and_eq_true, Bool.and_eq_true, List.all_eq_true] at h
  obtain ⟨h1, h2, h3, h4⟩ := h
  have h5 : ∀ y ∈ scope.names, y.2 ≠ .cell ∧ (y.2 = .local → y.1 ∉ N) ∧ (y.2 = .free → sc.names.lookup y.1 = some .cell ∨ sc.names.lookup y.1 = some .free) := fun y hy => by
    have := h4 y hy
    rw [Bool.and_eq_true, Bool.and_eq_true] at this
    exact ⟨of_decide_eq_true this.1, of_decide_eq_true this.2.1, of_decide_eq_true this.2.2⟩
  exact ⟨of_decide_eq_true h1, by simpa using h2, by simpa using h3, fun y hy => ⟨(h5 y hy).1, (h5 y hy).2.1⟩, fun y hy => (h5 y hy).2.2⟩
theorem LmS.has (L : LmS X.N X.env.scope scope) (ok : X.Ok) : ∀ y ∈ scope.names, y.2 = .free → ∃ a, X.env.cells.lookup y.1 = some a := fun y hy e => ok.has _ (L.free y hy e)
/-- the lambda is evaluated: no default -/
theorem lm_make0 (I : Inv X pins σ H s) (TB : TabB X.base X.mg c P) (hcode : X.env.code = .ref c) (hm : (P, lmQ X) ∈ Tb) (hu : ∀ p ∈ Tb, p.1 = P → p.2 = lmQ X) (hT : Tabs Tb H) (L : LmS X.N X.env.scope scope) (hd : defaultsOf params X.env = ([], []))
    (h : ∀ (f k : Addr) (doc pm ct : Value) (H1 : Hp) (s1 : Shared), Inv X pins σ H1 s1 → ExtN H H1 → Tabs Tb H1 → s1.heap.get? f = some { cls := .type "function", data := .func (lmFd (lmQ X) params body scope (lmCl X scope) .none doc pm k ct) } →
      H1 f = none → f ∉ frs X.stack → H1 k = some (CodeO k (lmQ X)) → Q (.ref f) s1) : wpAny (model X.prog X.w) X.A (eval (.Lambda params body scope pos) X.env) Q E s := by
  refine PySem.W.kla_eval hd ?_
  rw [makeFunction_eq]
  simp only [List.zip_nil_right, List.filterMap_nil, List.isEmpty_nil, if_true, pure_bind]
  exact lm_tail I TB hcode hm hu hT (L.has I.ok) (.inl ⟨rfl, rfl⟩) fun f k doc pm ct H1 s1 a1 a2 a3 a4 a5 a6 a7 _ => h f k doc pm ct H1 s1 a1 a2 a3 a4 a5 a6 a7
/-- .. one default, an int that is written -/
theorem lm_make1 {i : Int} {j : Nat} {pd : Pos} (I : Inv X pins σ H s) (TB : TabB X.base X.mg c P) (hcode : X.env.code = .ref c) (hm : (P, lmQ X) ∈ Tb) (hu : ∀ p ∈ Tb, p.1 = P → p.2 = lmQ X) (hT : Tabs Tb H) (L : LmS X.N X.env.scope scope) (hd : params.defaults = [.Constant (.int i) j pd]) (hk : params.kw_defaults = [])
    (h : ∀ (t : Tok) (f k : Addr) (dV doc pm ct : Value) (H1 : Hp) (s1 : Shared), Inv X pins σ H1 s1 → ExtN H H1 → Tabs Tb H1 → s1.heap.get? f = some { cls := .type "function", data := .func (lmFd (lmQ X) params body scope (lmCl X scope) dV doc pm k ct) } →
      H1 f = none → f ∉ frs X.stack → H1 k = some (CodeO k (lmQ X)) → DfV X H1 s1.heap [.int i t] dV → Q (.ref f) s1) : wpAny (model X.prog X.w) X.A (eval (.Lambda params body scope pos) X.env) Q E s := by
  refine PySem.W.kdv_lam (by rw [hd]; rfl) hk ?_
  rw [hd]
  refine PySem.W.kdv_all1 (thn ((show PE X (.Constant (.int i) j pd) (tC (.int i)) from pe_int).run pins s σ H (fun v H1 => v = .int i ∧ H1 = H) I ⟨rfl, rfl⟩) fun u s1 ⟨v, H1, I1, r, e1, e2⟩ => PySem.W.kdv_all0 ?_)
  subst e1 e2
  obtain ⟨t, rfl⟩ := (show ∃ t, u = .int i t from r)
  rw [makeFunction_eq]
  simp only [List.zip_nil_right, List.filterMap_nil, List.isEmpty_nil, if_true, pure_bind, List.isEmpty_cons, Bool.false_eq_true, if_false]
  refine wpAny_bind (wpAny_newTextTuple ?_)
  have I2 : Inv X pins σ H1 { s1 with heap := s1.heap.push (PySem.W.kdv_tup [.int i t]) } := I1.kept (t' := s1.toks) fun b o e => Heap.get?_push_of_some _ e
  exact lm_tail (dv := [.int i t]) I2 TB hcode hm hu hT (L.has I.ok) (.inr ⟨_, rfl, Heap.get?_push_size _ rfl, I1.hok.fresh (Nat.le_refl _), no_frame (I := I1) (Nat.le_refl _)⟩) fun f k doc pm ct H1 s1 => h t f k _ doc pm ct H1 s1
end
/-! ## its call -/
abbrev lmEnv (X : Cx) (scope : Scope) (L f k : Addr) : Env := PySem.W.envX (lmQ X) scope L f (.ref k) (lmCl X scope)
/-- the context of the lambda's body -/
def lmCx (X : Cx) (A : Around) (outer : List Env) (s : Shared) (H : Hp) (E : XK) (scope : Scope) (f k : Addr) : Cx :=
  { prog := X.prog, w := X.w, K := X.K, mg := X.mg, base := X.base, A := A.deeper (lmEnv X scope s.heap.objs.size f k), N := X.N, s_0 := s, H_0 := H, env := lmEnv X scope s.heap.objs.size f k, outer := outer,
    stack := lmEnv X scope s.heap.objs.size f k :: outer, ex := [], fn := fun _ => false, calm := true, pn := [],
    xe := fun e s' => wpAny (model X.prog X.w) (A.deeper (lmEnv X scope s.heap.objs.size f k)) (leaving (lmEnv X scope s.heap.objs.size f k) e) (fun _ t => L2.CX X.prog X.w outer H s E e t) (fun e' t => L2.CX X.prog X.w outer H s E e' t) s' }
section
variable {X : Cx} {pins : List (Addr × Obj)} {σ : L2.St} {H HZ : Hp} {s s1 : Shared}
theorem lm_start {A : Around} {outer : List Env} {E : XK} {scope : Scope} {f k : Addr} {h1 : Heap} {tk : Nat} {binds : List (Str × Value)} (I : Inv X pins σ H s) (L : LmS X.N X.env.scope scope) (e0 : Env0 X.prog X.w X.K X.mg X.base A outer s1 HZ) (hd : A.handled = none)
    (un : Un (frs X.stack) [] H HZ s.heap s1.heap) (hns : h1.Ns s1.heap.objs.size fun y => binds.reverse.lookup y) (kp : ∀ b o, s1.heap.get? b = some o → h1.get? b = some o) :
    Inv (lmCx X A outer s1 HZ E scope f k) [] σ HZ { s1 with heap := h1, toks := tk } := by
  have hfree := L.has I.ok
  have nex : ∀ b : Addr, b ∉ (lmCx X A outer s1 HZ E scope f k).ex := fun b z => by cases (show b ∈ ([] : List Addr) from z)
  have down : ∀ {y a}, (lmCl X scope).lookup y = some a → X.env.cells.lookup y = some a := fun {y a} e => by
    rcases cloFrom_mem (PySem.mem_of_lookup e) with hm | ⟨g1, g2⟩
    · cases hm
    · obtain ⟨a1, ha⟩ := hfree _ g1 rfl
      have ha : X.env.cells.lookup y = some a1 := ha
      have e2 : a = a1 := by
        rw [g2, ha] <;> rfl
      rw [e2]
      exact ha
  have has : ∀ {y}, scope.names.lookup y = some .free → ∃ a, (lmCl X scope).lookup y = some a := fun {y} hl => by
    have hy : (y, NameKind.free) ∈ scope.names := PySem.mem_of_lookup hl
    exact mem_lookup (cloFrom_has (cells := X.env.cells) (acc := []) hy)
  have stays : ∀ {a : Addr} {v : Option Value}, H a = none → s.heap.IsCell a v → h1.IsCell a v := fun {a v} n ⟨o, ho, hdt⟩ => by
    obtain ⟨sl, q⟩ := un.any ho n (by simp)
    exact ⟨_, kp _ _ q, hdt⟩
  refine ⟨⟨e0.mod, L.kind, rfl, rfl, Nat.le_refl _, fun y z a g1 g2 => I.ok.inj y z a (down g1) (down g2), fun y hy => ?_, fun y a z _ => ?_, fun _ => hd, Around.frames_deeper e0.frames, .inr ⟨rfl, rfl⟩, fun b z => absurd z (nex b), e0.bs,
      e0.bsz, fun b _ _ => nex b, fun b z => absurd z (nex b), e0.funs, e0.frf⟩,
    rfl, e0.bare, Un.kept kp, ⟨_, hns, fun i y v g1 g2 g3 => ?_⟩, fun y a e => ?_, e0.hok.fresh (Nat.le_refl _), fun y a e => ?_, fun q hq => (by cases (show q ∈ ([] : List (Addr × Obj)) ++ [] from hq)), e0.hok.kept kp, I.len⟩
  · rcases (show scope.names.lookup y = some .cell ∨ scope.names.lookup y = some .free from hy) with hy | hy
    · exact absurd rfl (L.own _ (PySem.mem_of_lookup hy)).1
    · exact has hy
  · cases (show false = true from z)
  · rcases (show Vis scope y from g3) with w | w | w
    · exact absurd (List.mem_of_getElem? g1) ((L.own _ (PySem.mem_of_lookup w)).2 rfl)
    · exact absurd rfl (L.own _ (PySem.mem_of_lookup w)).1
    · obtain ⟨m, hn, hl⟩ := I.loc
      have hv : Vis X.env.scope y := (L.free _ (PySem.mem_of_lookup w) rfl).elim (fun z => .inr (.inl z)) (fun z => .inr (.inr z))
      obtain ⟨u, r, q⟩ := hl i y v g1 g2 hv
      obtain ⟨a2, h2⟩ := has w
      refine ⟨u, r, .inr ⟨.inr w, a2, h2, ?_⟩⟩
      have a1 := down h2
      rcases q with ⟨w', _⟩ | ⟨_, a3, e', z⟩
      · exfalso
        rcases L.free _ (PySem.mem_of_lookup w) rfl with w2 | w2 <;> cases (show X.env.scope.names.lookup y = some .local from w').symm.trans w2
      · rw [a1] at e'
        cases e'
        exact stays (I.freeC y _ a1) z
  · obtain ⟨u, z⟩ := I.cell y a (down e)
    exact ⟨u, stays (I.freeC y a (down e)) z⟩
  · obtain ⟨v, o, ho, hdt⟩ := I.cell y a (down e)
    exact un.free a o ho (I.freeC y a (down e)) (by simp)
/-- a(), in the def that got the lambda as a -/
theorem lm_act {CXg : CXT} {Eg : XK} {Ng : List Str} {qg : Str} {sg : Scope} {g f k : Addr} {cdg pm ctv dV doc : Value} {dv : List Value} {params : Arguments} {body : Expr} {scope : Scope} {n i : Nat} {a : Str} {pn : List (Addr × Obj)} {xe : Value → Shared → Prop} {W : WX} {E : XK} {tb : TE} {p1 p2 : Pos} {binds : List (Str × Value)}
    (I : Inv X pins σ H s) (L : LmS X.N X.env.scope scope) (hf : s.heap.get? f = some { cls := .type "function", data := .func (lmFd (lmQ X) params body scope (lmCl X scope) dV doc pm k ctv) }) (hfn : H f = none) (hfr : f ∉ frs X.stack)
    (D : DfV X H s.heap dv dV) (hbind : ∀ st : Shared, ((dv = [] ∧ dV = .none) ∨ ∃ Tp : Addr, dV = .ref Tp ∧ st.heap.get? Tp = some (PySem.W.kdv_tup dv)) → BindsTo st (lmFd (lmQ X) params body scope (lmCl X scope) dV doc pm k ctv) ⟨[], []⟩ binds) (hloc : ∀ y ∈ binds, scope.names.lookup y.1 = some .local)
    (tk : Takes ((cxOf CXg X.prog X.w X.K X.mg X.base Ng qg sg g cdg X.A X.stack s H Eg).tr pn xe) W) (hW : ∀ cls d σ' H', σ'.length = Ng.length → E cls d H' → W cls d σ' H') (hr : Room (n + 1) (X.A.deeper (envOfC qg sg s.heap.objs.size g cdg))) (hgd : X.A.guards = some [])
    (hbody : ∀ (A : Around) (outer : List Env) (s : Shared) (H : Hp), Room n (A.deeper (lmEnv X scope s.heap.objs.size f k)) → A.guards = some [] → PE (lmCx X A outer s H E scope f k) body tb)
    (hN : Ng[i]? = some a) (hv : Vis sg a) (hd : (a == ("__debug__" : Str)) = false) (hcd : (a == ("__classdict__" : Str)) = false) :
    PE ((cxOf CXg X.prog X.w X.K X.mg X.base Ng qg sg g cdg X.A X.stack s H Eg).tr pn xe) (.Call (.Name a p1) [] [] p2) (fun σZ HZ Q => σZ[i]? = some (some (.ref f)) ∧ HZ k = some (CodeO k (lmQ X)) ∧ tb σ HZ Q) := by
  refine ⟨fun pinsZ sZ σZ HZ Q IZ ⟨hs, hc, ht⟩ => ?_⟩
  refine wpAny_Call_Name_kw (thn ((pe_var (pos := p1) (i := i) hN hv hd hcd).run pinsZ sZ σZ HZ (fun v H1 => v = .ref f ∧ H1 = HZ) IZ ⟨.ref f, hs, rfl, rfl⟩) fun u s1 ⟨v, H1, I1, r1, ev, eH⟩ => ?_)
  subst ev eH
  obtain rfl : u = Value.ref f := r1
  have nx : ∀ b : Addr, b ∉ ([] : List Addr) := fun b z => by cases z
  have of1 : s1.heap.get? f = some { cls := .type "function", data := .func (lmFd (lmQ X) params body scope (lmCl X scope) dV doc pm k ctv) } := I1.base.keep f _ hf hfn hfr (nx f)
  have oT1 : (dv = [] ∧ dV = .none) ∨ ∃ Tp : Addr, dV = .ref Tp ∧ s1.heap.get? Tp = some (PySem.W.kdv_tup dv) := by
    rcases D with D | ⟨Tp, d1, d2, d3, d4⟩
    · exact .inl D
    · exact .inr ⟨Tp, d1, I1.base.keep Tp _ d2 d3 d4 (nx Tp)⟩
  refine PySem.W.callWith_F0 ⟨_, _, _, _, of1⟩ ?_
  have un : Un (frs X.stack) [] H H1 s.heap s1.heap := I1.base
  obtain ⟨⟨oc, us, t, hoc, hdc, hvc⟩, _, _⟩ := I1.hok k _ hc
  let AZ : Around := X.A.deeper (envOfC qg sg s.heap.objs.size g cdg)
  let OZ : List Env := envOfC qg sg s.heap.objs.size g cdg :: X.stack
  have rc : codeAny (model X.prog X.w) AZ (.call (.ref f) ⟨[], []⟩) (CR (L2.CX X.prog X.w) OZ X.prog X.w H1 s1 Q E) s1 := by
    refine PySem.W.kla_callFunE hr.depth of1 rfl L.co L.gen rfl ⟨k, oc, us, t, rfl, hoc, hdc, hvc⟩ ?_
    refine hbind s1 oT1 _ _ _ _ ?_
    refine wpAny_newFunctionEnv (fun y hy => (L.own y hy).1) hloc (fun h1 hns hsb => ⟨I1.nolimit.fresh _ hsb, ?_⟩) L.kind
    show codeAny _ _ (.expr body (lmEnv X scope s1.heap.objs.size f k)) _ _
    have kp : ∀ b o, s1.heap.get? b = some o → h1.get? b = some o := fun b o e => hsb.extBut b o (Nat.ne_of_lt (Heap.lt_size e)) (Heap.get?_push_of_some _ e)
    have J : Inv (lmCx X AZ OZ s1 H1 E scope f k) [] σ H1 { s1 with heap := h1, toks := s1.toks + binds.length } := lm_start I L I1.env0 hr.hd un hns kp
    refine PySem.W.kla_codeExpr (wpAny_mono ((hbody AZ OZ s1 H1 (hr.deeper _) hgd).run [] _ _ H1 Q J ht) (fun v s' ⟨w', H', J', rv, q⟩ => ?_) fun e s' hq => hq)
    exact ⟨w', H', J'.os, J'.bare, J'.base, J'.hok, rv, q⟩
  have tk' : Takes ((cxOf CXg X.prog X.w X.K X.mg X.base Ng qg sg g cdg X.A X.stack s H Eg).tr pn xe) (fun cls d σ' H' => E cls d H') := fun u s' ⟨a', B, sI, pins', σ', H', cls, d, e1, J, r⟩ =>
    tk u s' ⟨a', B, sI, pins', σ', H', cls, d, e1, J, r.1, r.2.1, r.2.2.1, r.2.2.2.1, r.2.2.2.2.1, r.2.2.2.2.2.1, hW cls d σ' H' J.len r.2.2.2.2.2.2⟩
  have hx := passes_call (E := E) tk' (fun _ _ _ _ h => h)
  refine wpAny_call (codeAny_mono rc fun r s' hq => ?_)
  cases r with
  | error e => exact hx pinsZ σZ H1 s1 e s' I1 hq
  | ok fl =>
    cases fl with
    | ret u => exact I1.after hq
    | next => exact False.elim hq
    | brk => exact False.elim hq
    | cont => exact False.elim hq
end
end Lm

namespace Dn
open PySem PySem.Spec L2
open PyProof.Rows (envOfC)
/-! ## x(lambda: e), where x tells how the call of what it got ends -/
def wOut (o : Option FO) (δ : List Sl) : Option ER := match o with
  | some (.ret d) => some (.ok (.fz d) δ)
  | some (.retL ds) => some (.ok (.fresh ds) δ)
  | _ => none
def eWord (hs : Option Ex → Option FO) (e : ED) : ED := fun δ => match e δ with
  | none => none
  | some (.ok _ δ1) => wOut (hs none) δ1
  | some (.er x δ1) => wOut (hs (some x)) δ1
def E00 : XK := fun _ _ _ => False
/-- what such a def makes of the lambda's reading -/
def tWord (K : PySem.W.Frag) (mg : Str → Option Value) (T : TbL) (hs : Option Ex → Option FO) (tl : XK → Hp → VK → Prop) (H : Hp) (Q : VK) : Prop :=
  tl (fun cls d H' => ∃ Hf x, Sb Hf H' ∧ LamX.Tabs T H' ∧ ExR K mg Hf H' x cls d ∧ FPost K mg T Hf H' (hs (some x)) Q E00) H
    (fun _ H' => ∃ Hf, Sb Hf H' ∧ LamX.Tabs T H' ∧ FPost K mg T Hf H' (hs none) Q E00)
section
variable {K : PySem.W.Frag} {mg : Str → Option Value} {W : WT} {C : Cst} {G : Gh C} {Hf Hf' : Hp} {σ : L2.St} {H H' : Hp} {δ δ' : List Sl} {v : V}
theorem wOut_post {o : Option FO} {Q : VK} (I : IV K G Hf' σ H' δ) (s : Same Hf Hf') (q : EPost K mg W G σ Hf (wOut o δ) Q) : FPost K mg C.tabs Hf' H' o Q E00 := by
  cases o with
  | none => exact q.elim
  | some o =>
    cases o with
    | ret d => exact fun Hf2 H2 v g r => q Hf2 H2 v (s.trans g.f) (I.gr g) r
    | retL ds => exact fun Hf2 H2 p vs g a b c r => q Hf2 H2 _ (s.trans g.f) (I.gr g) ⟨p, rfl, vs, b, r, c, I.domN a, I.not_iaN a, I.not_ownN a⟩
    | er x => exact q.elim
end
abbrev wL (E : XK) (c : Cst) : WT := ⟨fun cls d _ H => E cls d H, c⟩
theorem rd_word {K : PySem.W.Frag} {mg : Str → Option Value} {W : WT} {hs : Option Ex → Option FO} {ed : ED} {σ : L2.St} {H : Hp} {Q : VK} (h : rdE K mg W (eWord hs ed) σ H Q) :
    LamX.Tabs W.c.tabs H ∧ ∀ H1, ExtN H H1 → LamX.Tabs W.c.tabs H1 → tWord K mg W.c.tabs hs (fun E H' Q' => rdE K mg (wL E W.c) ed σ H' Q') H1 Q := by
  obtain ⟨G, Hf, δ, I, q⟩ := h
  refine ⟨I.tab, fun H1 e t => ?_⟩
  refine ⟨G, Hf, δ, I.grow (Same.refl _) (I.subN.up e) e (fun b h1 h2 => absurd h1 h2) t, ?_⟩
  unfold eWord at q
  revert q
  cases ed δ with
  | none => exact fun q => q.elim
  | some o =>
    cases o with
    | ok r δ1 => exact fun q Hf' H' v s I' _ => ⟨Hf', I'.subN, I'.tab, wOut_post I' s q⟩
    | er x δ1 => exact fun q Hf' H' cls d s I' ex => ⟨Hf', x, I'.subN, I'.tab, ex, wOut_post I' s q⟩
/-- the def x with the body bg, of one parameter a, called with something that a() calls: hs says what it makes of how that ends -/
def GivesW (P : Program) (w : World) (K : PySem.W.Frag) (mg : Str → Option Value) (T : TbL) (base : Heap) (n : Nat) (Ng : List Str) (x : Str) (sg : Scope) (g : Addr) (cdg : Value) (bg : List Stmt) (a : Str) (hs : Option Ex → Option FO) : Prop :=
  ∀ (A : Around) (stack : List Env) (s : Shared) (H : Hp) (Q : VK) (f k : Addr) (q : Str) (tl : XK → Hp → VK → Prop), Room (n + 1) (A.deeper (envOfC x sg s.heap.objs.size g cdg)) → A.guards = some [] →
    (∀ (W : WX) (pn : List (Addr × Obj)) (xe : Value → Shared → Prop) (E : XK) (p1 p2 : Pos), Takes ((cxOf C8.CX0 P w K mg base Ng x sg g cdg A stack s H C8.E0).tr pn xe) W → (∀ cls d σ' H', σ'.length = Ng.length → E cls d H' → W cls d σ' H') →
      PE ((cxOf C8.CX0 P w K mg base Ng x sg g cdg A stack s H C8.E0).tr pn xe) (.Call (.Name a p1) [] [] p2) (fun σZ HZ Q => σZ[0]? = some (some (.ref f)) ∧ HZ k = some (LamX.CodeO k q) ∧ tl E HZ Q)) →
    H k = some (LamX.CodeO k q) → tWord K mg T hs tl H Q → ∃ t, PSs (cxOf C8.CX0 P w K mg base Ng x sg g cdg A stack s H C8.E0).nox bg t ∧ t { nx := fun _ H' => Q .non H', rt := Q } (L2.start Ng [.ref f]) H
structure Wd (P : Program) (w : World) (K : PySem.W.Frag) (mg : Str → Option Value) (T : TbL) (base : Heap) (n : Nat) (x : Str) (hs : Option Ex → Option FO) : Prop where
  ex : ∃ (a : Str) (g : Addr) (pg : Arguments) (bg : List Stmt) (sg : Scope) (dV kV doc pm cdv ct oc : Value) (an od : Option Addr) (osl : Array (Option Value)) (Ng : List Str),
    mg x = some (.ref g) ∧ PySem.W.keepIn K (.ref g) = true ∧ K.lookup g = some ⟨oc, od, .func (PySem.W.fnOf x x pg bg sg dV kV doc pm an cdv ct), osl⟩ ∧ PySem.W.codeIn K cdv x = true ∧ L2.Binds K (PySem.W.fnOf x x pg bg sg dV kV doc pm an cdv ct) [a] [] ∧ FnScope Ng [a] sg ∧ Ng[0]? = some a ∧ Vis sg a ∧ (a == ("__debug__" : Str)) = false ∧ (a == ("__classdict__" : Str)) = false ∧
    GivesW P w K mg T base n Ng x sg g cdv bg a hs
/-- the maker of a lambda: its code object, its table -/
structure Mkr (K : PySem.W.Frag) (mg : Str → Option Value) (T : TbL) (base : Heap) (x : Str) (c Pt : Addr) : Prop where
  tb : LamX.TabB base mg c Pt
  mem : (Pt, (x ++ ".<locals>." : Str) ++ "<lambda>") ∈ T
  un : ∀ p ∈ T, p.1 = Pt → p.2 = (x ++ ".<locals>." : Str) ++ "<lambda>"
section
variable {X : Cx} {W : WT} {hs : Option Ex → Option FO} {ed : ED} {n j : Nat} {x y : Str} {c Pt : Addr} {params : Arguments} {body : Expr} {scope : Scope} {p lpos pos : Pos}
/-- how the lambda binds its parameters where nothing is handed to it -/
structure LBind (params : Arguments) (body : Expr) (scope : Scope) : Prop where
  b : ∀ (q : Str) (cl : List (Str × Addr)) (doc pm ct : Value) (k : Addr), bindArgs (Lm.lmFd q params body scope cl .none doc pm k ct) ⟨[], []⟩ = pure []
abbrev lQ (y : Str) : Str := (y ++ ".<locals>." : Str) ++ "<lambda>"
/-- the def is called with the lambda made -/
theorem word_run {pins : List (Addr × Obj)} {σ : L2.St} {H1 : Hp} {s' : Shared} {Q : VK} {f k : Addr} {dV doc pm ct : Value} {dv : List Value} {binds : List (Str × Value)} {a : Str} {g : Addr} {pg : Arguments} {bg : List Stmt} {sg : Scope} {dVg kVg docg pmg cdv ctg oc : Value} {an od : Option Addr} {osl : Array (Option Value)} {Ng : List Str}
    (lk : X.K.lookup g = some ⟨oc, od, .func (PySem.W.fnOf x x pg bg sg dVg kVg docg pmg an cdv ctg), osl⟩) (hcg : PySem.W.codeIn X.K cdv x = true) (hbg : L2.Binds X.K (PySem.W.fnOf x x pg bg sg dVg kVg docg pmg an cdv ctg) [a] []) (Sg : FnScope Ng [a] sg) (hNg : Ng[0]? = some a) (hva : Vis sg a) (hd1 : (a == ("__debug__" : Str)) = false) (hd2 : (a == ("__classdict__" : Str)) = false)
    (gv : GivesW X.prog X.w X.K X.mg W.c.tabs X.base n Ng x sg g cdv bg a hs) (hr2 : Room (n + 2) X.A) (hgd : X.A.guards = some []) (L : Lm.LmS X.N X.env.scope scope)
    (I1 : Inv X pins σ H1 s') (hf : s'.heap.get? f = some { cls := .type "function", data := .func (Lm.lmFd (Lm.lmQ X) params body scope (Lm.lmCl X scope) dV doc pm k ct) }) (hfn : H1 f = none) (hfr : f ∉ L2.frs X.stack) (hco : H1 k = some (LamX.CodeO k (Lm.lmQ X)))
    (hDf : Lm.DfV X H1 s'.heap dv dV) (hbl : ∀ st : Shared, ((dv = [] ∧ dV = .none) ∨ ∃ Tp : Addr, dV = .ref Tp ∧ st.heap.get? Tp = some (PySem.W.kdv_tup dv)) → BindsTo st (Lm.lmFd (Lm.lmQ X) params body scope (Lm.lmCl X scope) dV doc pm k ct) ⟨[], []⟩ binds) (hloc : ∀ y ∈ binds, scope.names.lookup y.1 = some .local)
    (hbody : ∀ (A : Around) (outer : List Env) (s : Shared) (H : Hp) (E : XK) (f k : Addr), Room n (A.deeper (Lm.lmEnv X scope s.heap.objs.size f k)) → A.guards = some [] → DE (Lm.lmCx X A outer s H E scope f k) (wL E W.c) body ed)
    (h : tWord X.K X.mg W.c.tabs hs (fun E H' Q' => rdE X.K X.mg (wL E W.c) ed σ H' Q') H1 Q) : wpAny (model X.prog X.w) X.A (call (.ref g) [.ref f]) (EP X pins σ Q) X.xe s' := by
  have rc : codeAny (model X.prog X.w) X.A (.call (.ref g) ⟨[.ref f], []⟩) (CR C8.CX0 X.stack X.prog X.w H1 s' Q C8.E0) s' := by
    refine LamX.run_ofS (N := Ng) (ps := [a]) (us := [.ref f]) (vs := [.ref f]) lk hcg Sg hr2 I1.env0 (hbg s' [.ref f] I1.kIn rfl) (.cons rfl .nil) rfl fun hr' => ?_
    obtain ⟨t', ht', hq'⟩ := gv X.A X.stack s' H1 Q f k (Lm.lmQ X) (fun E H' Q' => rdE X.K X.mg (wL E W.c) ed σ H' Q') hr' hgd (fun W' pn xe E p1 p2 tk hW => Lm.lm_act (binds := binds) (dv := dv) I1 L hf hfn hfr hDf hbl hloc tk hW hr' hgd (fun A outer s H hr3 hg3 => hbody A outer s H E f k hr3 hg3) hNg hva hd1 hd2) hco h
    exact ⟨t', ht'.nox, hq'⟩
  refine wpAny_call (codeAny_mono rc fun r s2 hq => ?_)
  cases r with
  | error e => exact (show False from hq).elim
  | ok fl =>
    cases fl with
    | ret u => exact I1.after hq
    | next => exact False.elim hq
    | brk => exact False.elim hq
    | cont => exact False.elim hq
theorem de_word (D : Wd X.prog X.w X.K X.mg W.c.tabs X.base n x hs) (M : Mkr X.K X.mg W.c.tabs X.base y c Pt) (hq : X.env.qual = y ++ ".<locals>.") (hcode : X.env.code = .ref c) (hg : Gl X x) (hr : Room j X.A) (hj : n + 2 ≤ j) (hgd : X.A.guards = some []) (L : Lm.LmS X.N X.env.scope scope)
    (hd : defaultsOf params X.env = ([], [])) (hb : LBind params body scope)
    (hbody : ∀ (A : Around) (outer : List Env) (s : Shared) (H : Hp) (E : XK) (f k : Addr), Room n (A.deeper (Lm.lmEnv X scope s.heap.objs.size f k)) → A.guards = some [] → DE (Lm.lmCx X A outer s H E scope f k) (wL E W.c) body ed)
    (hdb : (x == ("__debug__" : Str)) = false := by decide) : DE X W (.Call (.Name x p) [.Lambda params body scope lpos] [] pos) (eWord hs ed) := by
  refine ⟨fun pins s σ H Q I h => ?_⟩
  obtain ⟨hT, h⟩ := rd_word h
  obtain ⟨a, g, pg, bg, sg, dV, kV, doc, pm, cdv, ct, oc, an, od, osl, Ng, hm, hk, lk, hcg, hbg, Sg, hNg, hva, hd1, hd2, gv⟩ := D.ex
  have eQ : Lm.lmQ X = lQ y := by show X.env.qual ++ "<lambda>" = _; rw [hq]
  refine wpAny_Call_Name_kw (ld_glob I hg hm ?_ hdb)
  refine PySem.W.callWith_K (h₀ := X.base) I.ok.mod.kin hk ?_ (by rfl) (by rfl)
  show wpAny _ _ (spliced ((false, eval (.Lambda params body scope lpos) X.env) :: backTo pos (starEach [] X.env))) _ _ s
  refine Calls.spliced_cons (Lm.lm_make0 I M.tb hcode (by rw [eQ]; exact M.mem) (fun q h1 h2 => by rw [eQ]; exact M.un q h1 h2) hT L hd fun f k docl pml ctl H1 s' I1 eN T1 hf hfn hfr hco => ?_)
  refine Calls.spliced_nil ⟨I1.kIn, ?_⟩
  exact word_run lk hcg hbg Sg hNg hva hd1 hd2 gv (hr.mono hj) hgd L I1 hf hfn hfr hco (.inl ⟨rfl, rfl⟩) (fun st _ => .of_eq (hb.b _ _ _ _ _ _)) (fun y hy => absurd hy (by simp)) hbody (h H1 eN T1)
/-- .. with one parameter that has a default -/
structure LBind1 (params : Arguments) (body : Expr) (scope : Scope) (z : Str) : Prop where
  b : ∀ (q : Str) (cl : List (Str × Addr)) (dV doc pm ct : Value) (k : Addr), ∃ kk, bindArgs (Lm.lmFd q params body scope cl dV doc pm k ct) ⟨[], []⟩ = seqItems? dV >>= kk ∧ ∀ v, kk (some #[v]) = pure [(z, v)]
theorem de_word1 {z : Str} {i : Int} {jd : Nat} {pd : Pos} (D : Wd X.prog X.w X.K X.mg W.c.tabs X.base n x hs) (M : Mkr X.K X.mg W.c.tabs X.base y c Pt) (hq : X.env.qual = y ++ ".<locals>.") (hcode : X.env.code = .ref c) (hg : Gl X x) (hr : Room j X.A) (hj : n + 2 ≤ j) (hgd : X.A.guards = some []) (L : Lm.LmS X.N X.env.scope scope)
    (hd : params.defaults = [.Constant (.int i) jd pd]) (hk0 : params.kw_defaults = []) (hz : scope.names.lookup z = some .local) (hb : LBind1 params body scope z)
    (hbody : ∀ (A : Around) (outer : List Env) (s : Shared) (H : Hp) (E : XK) (f k : Addr), Room n (A.deeper (Lm.lmEnv X scope s.heap.objs.size f k)) → A.guards = some [] → DE (Lm.lmCx X A outer s H E scope f k) (wL E W.c) body ed)
    (hdb : (x == ("__debug__" : Str)) = false := by decide) : DE X W (.Call (.Name x p) [.Lambda params body scope lpos] [] pos) (eWord hs ed) := by
  refine ⟨fun pins s σ H Q I h => ?_⟩
  obtain ⟨hT, h⟩ := rd_word h
  obtain ⟨a, g, pg, bg, sg, dV, kV, doc, pm, cdv, ct, oc, an, od, osl, Ng, hm, hk, lk, hcg, hbg, Sg, hNg, hva, hd1, hd2, gv⟩ := D.ex
  have eQ : Lm.lmQ X = lQ y := by show X.env.qual ++ "<lambda>" = _; rw [hq]
  refine wpAny_Call_Name_kw (ld_glob I hg hm ?_ hdb)
  refine PySem.W.callWith_K (h₀ := X.base) I.ok.mod.kin hk ?_ (by rfl) (by rfl)
  show wpAny _ _ (spliced ((false, eval (.Lambda params body scope lpos) X.env) :: backTo pos (starEach [] X.env))) _ _ s
  refine Calls.spliced_cons (Lm.lm_make1 I M.tb hcode (by rw [eQ]; exact M.mem) (fun q h1 h2 => by rw [eQ]; exact M.un q h1 h2) hT L hd hk0 fun t f k dVl docl pml ctl H1 s' I1 eN T1 hf hfn hfr hco hDf => ?_)
  refine Calls.spliced_nil ⟨I1.kIn, ?_⟩
  refine word_run (binds := [(z, .int i t)]) lk hcg hbg Sg hNg hva hd1 hd2 gv (hr.mono hj) hgd L I1 hf hfn hfr hco hDf (fun st hst => ?_) (fun y hy => ?_) hbody (h H1 eN T1)
  · rcases hst with ⟨e, _⟩ | ⟨Tp, e1, e2⟩
    · cases e
    · obtain ⟨kk, b1, b2⟩ := hb.b (Lm.lmQ X) (Lm.lmCl X scope) dVl docl pml ctl k
      subst e1
      exact PySem.BindsTo.of_defaults (T := Tp) (o := PySem.W.kdv_tup [.int i t]) rfl e2 rfl b1 (b2 _)
  · rcases List.mem_singleton.mp hy with rfl
    exact hz
end
end Dn

/-! a def that calls what it got in a try, and says how that ended -/
namespace Dn
open PySem PySem.Spec L2
open PyProof.Rows (envOfC)
section
variable {K : PySem.W.Frag} {mg : Str → Option Value} {W : WT} {C : Cst} {G : Gh C} {Hf Hf' : Hp} {σ : L2.St} {H H' : Hp} {δ δ' : List Sl} {v : V}
/-- a slot that is no list of one's own is stored -/
theorem IV.setPlain (I : IV K G Hf σ H δ) {i : Nat} {t : Sl} {o : Option V} (hn : ∀ ds, δ[i]? ≠ some (.io ds)) (ht : t.isOwn = false) (r : G.ia i = none → SlR K G Hf H i o t) : IV K G Hf (σ.set i o) H (δ.set i t) := by
  have ni : ∀ (s : Sl), δ[i]? = some s → G.ia i = none := fun s a => by
    cases z : G.ia i with
    | none => rfl
    | some p => obtain ⟨ds, q⟩ := I.iai i p z; exact absurd q (hn ds)
  have off : ∀ (j : Nat) (s : Sl), (δ.set i t)[j]? = some s → s.isOwn = true → i ≠ j ∧ δ[j]? = some s := fun j s a b => by
    by_cases hj : i = j
    · subst hj
      by_cases lt : i < δ.length
      · rw [List.getElem?_set_self lt] at a
        cases a
        rw [ht] at b; cases b
      · rw [List.getElem?_eq_none (by simpa using lt)] at a; cases a
    · rw [List.getElem?_set_ne hj] at a
      exact ⟨hj, a⟩
  refine ⟨by simpa using I.len, I.subN, I.f0s, I.hf0, I.frame, I.dom, fun j s a => ?_, fun j k s u q njk a1 a2 a3 a4 a5 => ?_, fun j q a => ?_, I.tab⟩
  · by_cases hj : i = j
    · subst hj
      by_cases lt : i < δ.length
      · rw [List.getElem?_set_self lt] at a
        cases a
        exact ⟨o, List.getElem?_set_self (by rw [I.len]; exact lt), r (ni _ (List.getElem?_eq_getElem lt))⟩
      · rw [List.getElem?_eq_none (by simpa using lt)] at a; cases a
    · rw [List.getElem?_set_ne hj] at a ⊢
      exact I.sl j s a
  · obtain ⟨n1, b1⟩ := off j s a1 a2
    obtain ⟨n2, b3⟩ := off k u a3 a4
    rw [List.getElem?_set_ne n1] at a5
    rw [List.getElem?_set_ne n2]
    exact I.dj j k s u q njk b1 a2 b3 a4 a5
  · obtain ⟨es, z⟩ := I.iai j q a
    have n1 : i ≠ j := fun y => by subst y; exact hn _ z
    exact ⟨es, by rw [List.getElem?_set_ne n1]; exact z⟩
/-- nothing is known of the slots -/
theorem iv_no {m : Nat} (s : Sb Hf H) (t : LamX.Tabs C.tabs H) (hl : σ.length = m) : IV K (⟨nt H, nt_noT, Hf, fun _ => none⟩ : Gh C) Hf σ H (List.replicate m Sl.no) := by
  have no : ∀ (i : Nat) (s : Sl), (List.replicate m Sl.no)[i]? = some s → s = .no := fun i s h => by
    rw [List.getElem?_replicate] at h
    split at h <;> cases h
    rfl
  refine ⟨by simp [hl], s, Same.refl _, fun b h => .inl h, fun b o e _ => (of_nt e).1, fun b h => nt_none h, fun i s h => ?_, fun i j s u q nij a1 a2 => ?_, fun i p h => (by cases h), t⟩
  · have hs := no i s h
    subst hs
    have lt : i < m := by
      rw [List.getElem?_replicate] at h
      split at h
      · assumption
      · cases h
    exact ⟨σ[i]'(by rw [hl]; exact lt), List.getElem?_eq_getElem _, rfl⟩
  · rw [no i s a1] at a2; cases a2
end
def outF : Option Out → Option FO
  | some (.nx _) => some (.ret .non)
  | some (.rt r δ) => match r with
    | .fz d => some (.ret d)
    | .fresh ds => some (.retL ds)
    | .slot i => match δ[i]? with
      | some (.own ds) => some (.retL ds)
      | some (.fz d) => some (.ret d)
      | _ => none
  | _ => none
theorem outF_post {K : PySem.W.Frag} {mg : Str → Option Value} {W : WT} {C : Cst} {Hf H : Hp} {Q : VK} {o : Option Out} (q : FPost K mg C.tabs Hf H (outF o) Q E00) : SPost K mg W (⟨nt H, nt_noT, Hf, fun _ => none⟩ : Gh C) Hf o { nx := fun _ H' => Q .non H', rt := Q } := by
  revert q
  cases o with
  | none => exact fun q => q.elim
  | some o =>
    cases o with
    | nx δ1 => exact fun q Hf' σ' H' s' I' => q Hf' H' .non (gr_of I') rfl
    | bk δ1 => exact fun q => q.elim
    | ct δ1 => exact fun q => q.elim
    | er x δ1 => exact fun q => q.elim
    | rt r δ1 =>
      intro q Hf' σ' H' v s' I' r'
      have g := gr_of I'
      unfold outF at q
      cases r with
      | fz d => exact q Hf' H' v g r'
      | fresh es =>
        obtain ⟨p, rfl, vs', h1, h2, h3, h4, h5, h6⟩ := r'
        exact q Hf' H' p vs' g h4 h1 h3 h2
      | slot i =>
        dsimp only at q
        have hv' : σ'[i]? = some (some v) := r'
        split at q
        · rename_i es hd
          obtain ⟨p, vs', ds', e1, h1, h2, h3, h4⟩ := I'.own_some hd rfl
          rw [hv'] at e1; cases e1
          rcases h4 with ⟨z, h4, _⟩ | ⟨z, _⟩ <;> cases z
          exact q Hf' H' p vs' g h4 h1 h3 h2
        · rename_i d hd
          obtain ⟨o, e1, _, v', rfl, r1⟩ := I'.sl i _ hd
          rw [hv'] at e1; cases e1
          exact q Hf' H' v g r1
        · exact q.elim
/-- m slots, i the clause's name; sdh: the clause's suite by the exception's class; sdr: what stands behind the try -/
def wHan (m i : Nat) (known : Str → Bool) (sdh : Str → SD) (sdr : SD) (x : Ex) : Option FO := if known x.cls && x.field.isNone then (match sdh x.cls ((List.replicate m Sl.no).set i .exn) with
    | some (.nx δ) => (match δ[i]? with
      | some .exn => outF (sdr (δ.set i .no))
      | _ => none)
    | some (.rt r δ) => outF (some (.rt r δ))
    | _ => none) else none
/-- pre: what stands ahead of the try -/
def wSem (m i : Nat) (known : Str → Bool) (sdh : Str → SD) (pre : List Sl → List Sl) (sdr : SD) : Option Ex → Option FO
  | none => outF (sdr (pre (List.replicate m Sl.no)))
  | some x => wHan m i known sdh sdr x
theorem _root_.L2.PE.wide {X : Cx} {e : Expr} {t : TE} (h : PE X e t) : PE X e (fun σ H Q => ∃ Q0 : VK, t σ H Q0 ∧ ∀ v H, Q0 v H → Q v H) := ⟨fun pins s σ H Q I ⟨Q0, ht, k⟩ =>
  wpAny_mono (h.run pins s σ H Q0 I ht) (fun u s' ⟨v, H', I', r, q⟩ => ⟨v, H', I', r, k _ _ q⟩) fun _ _ z => z⟩
/-- what is known of a class that is raised -/
structure Rsd (K : PySem.W.Frag) (mg : Str → Option Value) (sub : Str → Str → Bool) (ys : List Str) (nm : Str) (cls : Value) : Prop where
  D : ∃ D : Addr, cls = .ref D ∧ L2.ExcC K D
  own : ∀ y ∈ ys, ∃ A : Addr, mg y = some (.ref A) ∧ PySem.W.kitOne K cls (.ref A) = some (sub nm y)
  ve : PySem.W.kitOne K cls (.type "ValueError") = some true
abbrev wN (c : Cst) : WT := ⟨fun _ _ _ _ => False, c⟩
section
variable {P : Program} {w : World} {K : PySem.W.Frag} {mg : Str → Option Value} {T : TbL} {base : Heap} {n i m : Nat} {Ng : List Str} {x a e nm : Str} {sg : Scope} {g CR : Addr} {cdg : Value} {rest suite : List Stmt} {b₀ : Stmt} {known : Str → Bool} {sub : Str → Str → Bool} {ys : List Str} {sdh : Str → SD} {sdr : SD} {p1 p2 p3 np p4 p5 p6 p7 p8 p9 : Pos}
/-- the try itself, its body a() -/
theorem gives_try (hm : Ng.length = m) (hnd : Ng.Nodup) (hi : Ng[i]? = some nm) (hl : sg.names.lookup nm = some .local) (he : sg.names.lookup e = some .globalImplicit) (hde : (e == ("__debug__" : Str)) = false) (hme : mg e = some (.ref CR))
    (hk : ∀ y cls, known y = true → mg y = some cls → Rsd K mg sub ys y cls ∧ PySem.W.exmOne K cls (.ref CR) = some true)
    {A : Around} {stack : List Env} {s : Shared} {H : Hp} {Q : VK} {f k : Addr} {q : Str} {tl : XK → Hp → VK → Prop} {pre : List Sl → List Sl} {σp : L2.St} (hσ : σp.length = m) (hσ0 : σp[0]? = some (some (.ref f)))
    (hp : ∀ Hf H', Sb Hf H' → LamX.Tabs T H' → IV K (⟨nt H', nt_noT, Hf, fun _ => none⟩ : Gh ⟨T, 0⟩) Hf σp H' (pre (List.replicate m Sl.no)))
    (act : ∀ (W : WX) (pn : List (Addr × Obj)) (xe : Value → Shared → Prop) (E : XK) (p1 p2 : Pos), Takes ((cxOf C8.CX0 P w K mg base Ng x sg g cdg A stack s H C8.E0).tr pn xe) W → (∀ cls d σ' H', σ'.length = Ng.length → E cls d H' → W cls d σ' H') →
      PE ((cxOf C8.CX0 P w K mg base Ng x sg g cdg A stack s H C8.E0).tr pn xe) (.Call (.Name a p1) [] [] p2) (fun σZ HZ Q => σZ[0]? = some (some (.ref f)) ∧ HZ k = some (LamX.CodeO k q) ∧ tl E HZ Q))
    (hc : H k = some (LamX.CodeO k q)) (h : tWord K mg T (wSem m i known sdh pre sdr) tl H Q)
    (hsuite : ∀ (b : Addr) (oe : Obj) (y : Str) (cls : Value) (pn : List (Addr × Obj)), Zc cls none oe → (∃ vs, oe.data = .fields vs) → Rsd K mg sub ys y cls → DSs ((cxOf C8.CX0 P w K mg base Ng x sg g cdg A stack s H C8.E0).nox.suite b ((b, oe) :: pn)) (wN ⟨T, b⟩) (b₀ :: suite) (sdh y))
    (hrest : ∀ b : Addr, DSs (cxOf C8.CX0 P w K mg base Ng x sg g cdg A stack s H C8.E0).nox (wN ⟨T, b⟩) rest sdr) :
    ∃ t, PSs (cxOf C8.CX0 P w K mg base Ng x sg g cdg A stack s H C8.E0).nox (.Try [.Expr (.Call (.Name a p1) [] [] p2) p3] [.ExceptHandler (some (.Name e np)) (some nm) (b₀ :: suite) p4] [] [] p5 :: rest) t ∧ t { nx := fun _ H' => Q .non H', rt := Q } σp H := by
  have hgl : Gl (cxOf C8.CX0 P w K mg base Ng x sg g cdg A stack s H C8.E0).nox e := he
  let Y : Cx := (cxOf C8.CX0 P w K mg base Ng x sg g cdg A stack s H C8.E0).nox
  let ts : Addr → Value → Option Addr → TS := fun b cls d D σ H' => ∃ y, known y = true ∧ mg y = some cls ∧ d = none ∧ rdS K mg (wN ⟨T, b⟩) (sdh y) D σ H'
  let tr : TS := fun D σ H' => ∃ b, rdS K mg (wN ⟨T, b⟩) sdr D σ H'
  have tryS := ps_try_as (X := Y) (c := .ref CR) (ts := ts) (i := i) (n := nm) (pos := p5) (pos' := p4) (np := np) (suite := suite) (b₀ := b₀) (body := [.Expr (.Call (.Name a p1) [] [] p2) p3])
    (tb := fun W D σ H => ∃ Ech : XK, (∀ cls d σ' H', σ'.length = Ng.length → Ech cls d H' → W cls d σ' H') ∧ σ[0]? = some (some (.ref f)) ∧ H k = some (LamX.CodeO k q) ∧ ∃ Q0 : VK, tl Ech H Q0 ∧ ∀ v H', Q0 v H' → D.nx σ H')
    rfl rfl hnd hi hl ⟨hgl, hde, .inl hme⟩ LamX.takes0 (fun W pn xe tk _ => ?_) (fun b oe cls d pn hz hf => ?_)
  · have restS : PSs Y rest tr := ⟨fun pins s' σ H' D I ⟨b, hq⟩ => (hrest b).run pins s' σ H' D I hq⟩
    refine ⟨_, pss_cons tryS restS, ?_⟩
    refine ⟨fun cls d H' => ∃ Hf y, Sb Hf H' ∧ LamX.Tabs T H' ∧ ExR K mg Hf H' y cls d ∧ FPost K mg T Hf H' (wSem m i known sdh pre sdr (some y)) Q E00, fun cls d σ' H' hl' ⟨Hf, y, s1, t1, ex, fp⟩ => ?_, hσ0, hc, ?_⟩
    · replace fp : FPost K mg T Hf H' (wHan m i known sdh sdr y) Q E00 := fp
      unfold wHan at fp
      split at fp
      · rename_i hkn
        rw [Bool.and_eq_true] at hkn
        obtain ⟨hkn, hfi⟩ := hkn
        obtain ⟨y, fi⟩ := y
        cases fi with
        | some z => cases hfi
        | none =>
          obtain ⟨e1, e2⟩ := ex
          replace e2 : d = none := e2
          have hx := (hk y cls hkn e1).2
          refine ⟨true, hx, fun _ b hb => ⟨y, hkn, e1, e2, ?_⟩, fun z => nomatch z⟩
          have I0 : IV K (⟨nt H', nt_noT, Hf, fun _ => none⟩ : Gh ⟨T, b⟩) Hf σ' H' (List.replicate m Sl.no) := iv_no s1 t1 (by rw [hl', hm])
          have I1 : IV K (⟨nt H', nt_noT, Hf, fun _ => none⟩ : Gh ⟨T, b⟩) Hf (σ'.set i (some (.ref b))) H' ((List.replicate m Sl.no).set i .exn) := I0.setPlain (fun ds z => by
            rw [List.getElem?_replicate] at z
            split at z <;> cases z) rfl fun h => ⟨h, rfl⟩
          refine ⟨_, Hf, _, I1, ?_⟩
          dsimp only at fp
          revert fp
          cases sdh y ((List.replicate m Sl.no).set i .exn) with
          | none => exact fun z => z.elim
          | some o =>
            cases o with
            | nx δ1 =>
              intro fp Hf2 σ2 H2 s2 I2
              dsimp only at fp
              split at fp
              · rename_i hδ
                have I3 := I2.setPlain (i := i) (t := .no) (o := none) (fun ds z => by rw [hδ] at z; cases z) rfl fun h => h
                refine ⟨b, _, Hf2, _, I3, ?_⟩
                exact SPost.up (outF_post (C := ⟨T, b⟩) fp) s2
              · exact fp.elim
            | rt r δ1 => exact fun fp => outF_post (W := wN ⟨T, b⟩) (C := ⟨T, b⟩) (o := some (.rt r δ1)) fp
            | bk δ1 => exact fun z => z.elim
            | ct δ1 => exact fun z => z.elim
            | er z δ1 => exact fun z => z.elim
      · exact fp.elim
    · refine ⟨_, h, fun v H' ⟨Hf, s1, t1, fp⟩ => ?_⟩
      refine ⟨0, _, Hf, _, hp Hf H' s1 t1, ?_⟩
      exact outF_post (W := wN ⟨T, 0⟩) (C := ⟨T, 0⟩) fp
  · refine ⟨fun pins s' σ H' D I ⟨Ech, hW, h1, h2, Q0, h3, h4⟩ => ?_⟩
    exact (pss_one (ps_expr (pos := p3) (act W pn xe Ech p1 p2 tk hW).wide)).run pins s' σ H' D I ⟨Q0, ⟨h1, h2, h3⟩, h4⟩
  · refine ⟨fun pins s' σ H' D I ⟨y, hkn, e1, e2, hq⟩ => ?_⟩
    subst e2
    exact (hsuite b oe y cls pn hz hf (hk y cls hkn e1).1).run pins s' σ H' D I hq
/-- nothing ahead of the try -/
theorem gives_A (S : FnScope Ng [a] sg) (hm : Ng.length = m) (h0 : 0 < m) (hi : Ng[i]? = some nm) (hl : sg.names.lookup nm = some .local) (he : sg.names.lookup e = some .globalImplicit) (hde : (e == ("__debug__" : Str)) = false) (hme : mg e = some (.ref CR))
    (hk : ∀ y cls, known y = true → mg y = some cls → Rsd K mg sub ys y cls ∧ PySem.W.exmOne K cls (.ref CR) = some true)
    (hsuite : ∀ (A : Around) (stack : List Env) (s : Shared) (H : Hp), Room (n + 1) (A.deeper (envOfC x sg s.heap.objs.size g cdg)) → A.guards = some [] → ∀ (b : Addr) (oe : Obj) (y : Str) (cls : Value) (pn : List (Addr × Obj)), Zc cls none oe → (∃ vs, oe.data = .fields vs) → Rsd K mg sub ys y cls →
      DSs ((cxOf C8.CX0 P w K mg base Ng x sg g cdg A stack s H C8.E0).nox.suite b ((b, oe) :: pn)) (wN ⟨T, b⟩) (b₀ :: suite) (sdh y))
    (hrest : ∀ (A : Around) (stack : List Env) (s : Shared) (H : Hp), Room (n + 1) (A.deeper (envOfC x sg s.heap.objs.size g cdg)) → A.guards = some [] → ∀ b : Addr, DSs (cxOf C8.CX0 P w K mg base Ng x sg g cdg A stack s H C8.E0).nox (wN ⟨T, b⟩) rest sdr) :
    GivesW P w K mg T base n Ng x sg g cdg (.Try [.Expr (.Call (.Name a p1) [] [] p2) p3] [.ExceptHandler (some (.Name e np)) (some nm) (b₀ :: suite) p4] [] [] p5 :: rest) a (wSem m i known sdh (fun δ => δ) sdr) := by
  intro A stack s H Q f k q tl hr hgd act hc h
  have hst : L2.start Ng [V.ref f] = some (V.ref f) :: List.replicate (m - 1) none := by
    rw [start_eq rfl, hm]; rfl
  have hlen : (L2.start Ng [V.ref f]).length = m := by rw [hst]; simp; omega
  exact gives_try (T := T) (σp := L2.start Ng [V.ref f]) hm S.nd hi hl he hde hme hk hlen (by rw [hst]; rfl) (fun Hf H' s1 t1 => iv_no s1 t1 hlen) act hc h (hsuite A stack s H hr hgd) (hrest A stack s H hr hgd)
/-- a word is given to a name ahead of the try -/
theorem gives_B {j jj : Nat} {told v : Str} (S : FnScope Ng [a] sg) (hm : Ng.length = m) (h0 : 0 < m) (hi : Ng[i]? = some nm) (hl : sg.names.lookup nm = some .local) (he : sg.names.lookup e = some .globalImplicit) (hde : (e == ("__debug__" : Str)) = false) (hme : mg e = some (.ref CR))
    (hj : Ng[j]? = some told) (hj0 : j ≠ 0) (hlj : sg.names.lookup told = some .local)
    (hk : ∀ y cls, known y = true → mg y = some cls → Rsd K mg sub ys y cls ∧ PySem.W.exmOne K cls (.ref CR) = some true)
    (hsuite : ∀ (A : Around) (stack : List Env) (s : Shared) (H : Hp), Room (n + 1) (A.deeper (envOfC x sg s.heap.objs.size g cdg)) → A.guards = some [] → ∀ (b : Addr) (oe : Obj) (y : Str) (cls : Value) (pn : List (Addr × Obj)), Zc cls none oe → (∃ vs, oe.data = .fields vs) → Rsd K mg sub ys y cls →
      DSs ((cxOf C8.CX0 P w K mg base Ng x sg g cdg A stack s H C8.E0).nox.suite b ((b, oe) :: pn)) (wN ⟨T, b⟩) (b₀ :: suite) (sdh y))
    (hrest : ∀ (A : Around) (stack : List Env) (s : Shared) (H : Hp), Room (n + 1) (A.deeper (envOfC x sg s.heap.objs.size g cdg)) → A.guards = some [] → ∀ b : Addr, DSs (cxOf C8.CX0 P w K mg base Ng x sg g cdg A stack s H C8.E0).nox (wN ⟨T, b⟩) rest sdr)
    : GivesW P w K mg T base n Ng x sg g cdg (.Assign [.Name told p6] (.Constant (.str v) jj p7) p8 :: .Try [.Expr (.Call (.Name a p1) [] [] p2) p3] [.ExceptHandler (some (.Name e np)) (some nm) (b₀ :: suite) p4] [] [] p5 :: rest) a (wSem m i known sdh (fun δ => δ.set j (.fz (.str v))) sdr) := by
  intro A stack s H Q f k q tl hr hgd act hc h
  have hst : L2.start Ng [V.ref f] = some (V.ref f) :: List.replicate (m - 1) none := by
    rw [start_eq rfl, hm]; rfl
  have hlen : ((L2.start Ng [V.ref f]).set j (some (.str v))).length = m := by rw [hst]; simp; omega
  obtain ⟨t, ht, hq⟩ := gives_try (T := T) (σp := (L2.start Ng [V.ref f]).set j (some (.str v))) hm S.nd hi hl he hde hme hk hlen (by rw [List.getElem?_set_ne hj0, hst]; rfl) (fun Hf H' s1 t1 => by
    have I0 : IV K (⟨nt H', nt_noT, Hf, fun _ => none⟩ : Gh ⟨T, 0⟩) Hf (L2.start Ng [V.ref f]) H' (List.replicate m Sl.no) := iv_no s1 t1 (by rw [hst]; simp; omega)
    refine I0.setFz (d := .str v) (fun ds z => ?_) rfl
    rw [List.getElem?_replicate] at z
    split at z <;> cases z) act hc h (hsuite A stack s H hr hgd) (hrest A stack s H hr hgd)
  have asg := ps_set (X := (cxOf C8.CX0 P w K mg base Ng x sg g cdg A stack s H C8.E0).nox) (i := j) (x := told) (pos' := p6) (pos := p8) S.nd hj (.inl hlj) (pe_str (x := v) (j := jj) (pos := p7)) (by rfl) (.inl rfl)
  exact ⟨_, pss_cons asg ht, hq⟩
theorem wd_mk {st : Stmt} {hs : Option Ex → Option FO} (D : Df K mg x st [a]) (S : FnScope Ng [a] (defScope st)) (hNg : Ng[0]? = some a) (hva : Vis (defScope st) a) (hd1 : (a == ("__debug__" : Str)) = false) (hd2 : (a == ("__classdict__" : Str)) = false)
    (gv : ∀ (g : Addr) (cdv : Value), GivesW P w K mg T base n Ng x (defScope st) g cdv (defBody st) a hs) : Wd P w K mg T base n x hs := by
  obtain ⟨f, fd, F, hm, hb⟩ := D.ex
  obtain ⟨oc, od, kV, doc, pm, an, cdv, ct, osl, rfl, lk, hcd⟩ := F.ex
  exact ⟨a, f, _, _, _, _, kV, doc, pm, cdv, ct, oc, an, od, osl, Ng, hm, F.kp, lk, hcd, hb, S, hNg, hva, hd1, hd2, gv f cdv⟩
end
theorem hu64m {k : Nat} {A : Around} {v : Option Value} (hr : Room k A) : (A.mark v).units + 64 < cLine := by
  have := hr.un
  show A.units + 64 < cLine
  omega
/-! ## isinstance(e, X), e the exception that the suite holds -/
def eIsE (i : Nat) (b : Bool) : ED := fun δ => match δ[i]? with
  | some .exn => some (.ok (.fz (.bl b)) δ)
  | _ => none
section
variable {X : Cx} {b : Addr} {oe : Obj} {pn : List (Addr × Obj)} {T : TbL} {i : Nat} {v y nm : Str} {cls : Value} {sub : Str → Str → Bool} {ys : List Str} {p p1 p2 pos : Pos}
theorem de_isE (R : Rsd X.K X.mg sub ys nm cls) (hz : Zc cls none oe) (hf : ∃ vs, oe.data = .fields vs) (hy : y ∈ ys) (hi : X.N[i]? = some v) (hv : Vis X.env.scope v) (hgi : Gl X "isinstance") (hmi : X.mg "isinstance" = none) (hgy : Gl X y)
    (hd : (v == ("__debug__" : Str)) = false := by decide) (hcd : (v == ("__classdict__" : Str)) = false := by decide) (hdy : (y == ("__debug__" : Str)) = false := by decide) :
    DE (X.suite b ((b, oe) :: pn)) (wN ⟨T, b⟩) (.Call (.Name "isinstance" p) [.Name v p1, .Name y p2] [] pos) (eIsE i (sub nm y)) := by
  obtain ⟨D, rfl, C⟩ := R.D
  obtain ⟨A, hm, hk⟩ := R.own y hy
  refine (pe_callB (X := X.suite b ((b, oe) :: pn)) (call_isE C hz hf) hgi hmi rfl (pa_cons (pe_var hi hv hd hcd) (pa_cons (pe_glob (v := .ref A) hgy hm rfl hdy) pa_nil))).imp fun σ H Q ⟨G, Hf, δ, I, q⟩ => ?_
  unfold eIsE at q
  split at q
  · rename_i hδ
    obtain ⟨o, e1, _, rfl⟩ := I.sl i _ hδ
    exact ⟨_, e1, .ref A, .ref A, _, rfl, fun u h => h, hk, q Hf H _ (Same.refl _) I rfl⟩
  · exact q.elim
theorem de_isV (R : Rsd X.K X.mg sub ys nm cls) (hz : Zc cls none oe) (hf : ∃ vs, oe.data = .fields vs) (hi : X.N[i]? = some v) (hv : Vis X.env.scope v) (hgi : Gl X "isinstance") (hmi : X.mg "isinstance" = none) (hgy : Gl X "ValueError") (hmy : X.mg "ValueError" = none)
    (hd : (v == ("__debug__" : Str)) = false := by decide) (hcd : (v == ("__classdict__" : Str)) = false := by decide) :
    DE (X.suite b ((b, oe) :: pn)) (wN ⟨T, b⟩) (.Call (.Name "isinstance" p) [.Name v p1, .Name "ValueError" p2] [] pos) (eIsE i true) := by
  obtain ⟨D, rfl, C⟩ := R.D
  refine (pe_callB (X := X.suite b ((b, oe) :: pn)) (call_isE C hz hf) hgi hmi rfl (pa_cons (pe_var hi hv hd hcd) (pa_cons (pe_bltn (v := .ty "ValueError") hgy hmy rfl rfl (by decide) (by decide)) pa_nil))).imp fun σ H Q ⟨G, Hf, δ, I, q⟩ => ?_
  unfold eIsE at q
  split at q
  · rename_i hδ
    obtain ⟨o, e1, _, rfl⟩ := I.sl i _ hδ
    exact ⟨_, e1, .ty "ValueError", .type "ValueError", _, rfl, fun u h => h, R.ve, q Hf H _ (Same.refl _) I rfl⟩
  · exact q.elim
end
end Dn

/-! names that hold defs -/
namespace Dn
open PySem PySem.Spec L2
def eCallV (fa : Str → Addr) (tb : Str → Option FS) (i : Nat) (a : AD) : ED := fun δ => match δ[i]? with
  | some (.fz (.fn x b)) => if b = fa x then (match tb x with
    | some sem => eCall sem a δ
    | none => none) else none
  | _ => none
/-- every def of the table keeps its promise -/
def TbOk (P : Program) (w : World) (K : PySem.W.Frag) (mg : Str → Option Value) (T : TbL) (base : Heap) (fa : Str → Addr) (j : Nat) (tb : Str → Option FS) : Prop := ∀ x sem, tb x = some sem → ∃ n k, k ≤ j ∧ Cf P w K mg T base k x n sem ∧ mg x = some (.ref (fa x))
def tbNil : Str → Option FS := fun _ => none
def tbCons (y : Str) (s : FS) (tb : Str → Option FS) : Str → Option FS := fun x => if x = y then some s else tb x
theorem tbCons_hit {y : Str} {s : FS} {tb : Str → Option FS} : tbCons y s tb y = some s := if_pos rfl
theorem tbCons_miss {x y : Str} {s : FS} {tb : Str → Option FS} (h : x ≠ y) : tbCons y s tb x = tb x := if_neg h
section
variable {P : Program} {w : World} {K : PySem.W.Frag} {mg : Str → Option Value} {T : TbL} {base : Heap} {fa : Str → Addr} {j k n : Nat} {tb : Str → Option FS} {y : Str} {s : FS}
theorem tb_nil : TbOk P w K mg T base fa j tbNil := fun _ _ h => nomatch h
theorem tb_cons (C : Cf P w K mg T base k y n s) (hm : mg y = some (.ref (fa y))) (hk : k ≤ j) (r : TbOk P w K mg T base fa j tb) : TbOk P w K mg T base fa j (tbCons y s tb) := fun x sem h => by
  unfold tbCons at h
  split at h
  · rename_i e
    subst e
    cases h
    exact ⟨n, k, hk, C, hm⟩
  · exact r x sem h
end
section
variable {X : Cx} {W : WT} {e : Expr} {es : List Expr} {ad : AD} {pos p : Pos} {i j : Nat} {v x : Str} {fa : Str → Addr} {tb : Str → Option FS}
theorem de_fn (hg : Gl X x) (hm : X.mg x = some (.ref (fa x))) (hd : (x == ("__debug__" : Str)) = false := by decide) : DE X W (.Name x pos) (eC (.fn x (fa x))) :=
  de_cK (v := .ref (fa x)) (pe_glob hg hm rfl hd) fun _ => rfl
theorem de_callV (hC : TbOk X.prog X.w X.K X.mg W.c.tabs X.base fa j tb) (hr : Room j X.A) (hgd : X.A.guards = some []) (tk : Takes X W) (hv : PE X (.Name v p) (tVar i)) (ha : DA X W (e :: es) ad)
    (he : starEach (e :: es) X.env = (false, eval e X.env) :: starEach es X.env := by rfl) (hpl : (backTo pos (starEach es X.env)).any (·.1) = false := by rfl) : DE X W (.Call (.Name v p) (e :: es) [] pos) (eCallV fa tb i ad) := by
  refine ⟨fun pins s σ H Q I ⟨G, Hf, δ, J, q⟩ => ?_⟩
  unfold eCallV at q
  split at q
  · rename_i x b hδ
    split at q
    · rename_i hb
      subst hb
      split at q
      · rename_i sem hs
        obtain ⟨n, k, hkj, ⟨⟨f, fd, ps, F, hm, hk, hbd⟩, hl⟩, hm2⟩ := hC x sem hs
        rw [hm] at hm2
        cases hm2
        obtain ⟨o, e1, _, v', rfl, r⟩ := J.sl i _ hδ
        have e2 : v' = .ref (fa x) := r
        subst e2
        have h' := rd_call (n := n) (ad := ad) ⟨G, Hf, δ, J, q⟩ hl
        refine wpAny_Call_Name_kw (thn (hv.run pins s σ H (fun v H1 => v = .ref (fa x) ∧ H1 = H) I ⟨.ref (fa x), e1, rfl, rfl⟩) fun u s1 ⟨v, H1, I1, r1, ev, eH⟩ => ?_)
        subst ev eH
        obtain rfl : u = Value.ref (fa x) := r1
        refine PySem.W.callWith_K (h₀ := X.base) I.ok.mod.kin hk (thn (ha.run pos pins s1 σ H1 _ I1 h') fun us s2 ⟨vs, H2, I2, r2, q2⟩ => ⟨I2.kIn, ?_⟩) he hpl
        exact run_G F (hr.mono hkj) hgd hbd I2 r2 q2 fun e s' hc => passAt tk σ pins H2 s2 e s' I2 hc
      · exact q.elim
    · exact q.elim
  · exact q.elim
/-! ## what is never come to -/
def sNo : SD := fun _ => none
def eNo : ED := fun _ => none
theorem s_no {st : Stmt} : DS X W st sNo := ⟨fun pins s σ H D I ⟨G, Hf, δ, J, q⟩ => q.elim⟩
theorem e_no : DE X W e eNo := ⟨fun pins s σ H Q I ⟨G, Hf, δ, J, q⟩ => q.elim⟩
end
def fbOf (mg : Str → Option Value) (x : Str) : Addr := match mg x with
  | some (.ref a) => a
  | _ => 0
theorem fb_eq {mg : Str → Option Value} {x : Str} {a : Addr} (h : mg x = some (.ref a)) : mg x = some (.ref (fbOf mg x)) := by
  unfold fbOf
  rw [h]
/-! ## classes of errors -/
/-- x is y or a class made from it -/
def subc (x y : Str) : Bool := decide (x = y) || decide (y = "RankError")
/-- what is known of such a class, its instances told apart by isinstance -/
structure ExcK (K : PySem.W.Frag) (C : Addr) : Prop where
  hd : PySem.W.hasDictIn K C = true
  ga : PySem.W.findIn K (.ref C) "__getattribute__" = some (some (.builtin "BaseException.__getattribute__"))
  gt : PySem.W.findIn K (.ref C) "__getattr__" = some none
  cl : PySem.W.findIn K (.ref C) "__class__" = some (some (.builtin "object.__class__"))
  mo : PySem.W.mroIn K C (.type "object") = some true
  se : PySem.W.subIn K (.ref C) (.ref C) = some true
  ve : PySem.W.subIn K (.ref C) (.type "ValueError") = some true
/-- .. of every class -/
structure ObjC (K : PySem.W.Frag) : Prop where
  hn : PySem.W.specialIn K (.builtin "object.__class__") "__get__" = some (some (.builtin "getset_descriptor.__get__"))
  ht : PySem.W.takesIn K (.builtin "object.__class__") = some true
section
variable {K : PySem.W.Frag} {mg : Str → Option Value} {x y : Str} {C D : Addr} {b : Bool}
theorem excC_of (E : ExcC K mg x C) (k : ExcK K C) (o : ObjC K) : L2.ExcC K C := ⟨k.ga, k.gt, E.b, k.hd, k.cl, o.hn, o.ht, k.mo⟩
theorem kit_pair (k : ExcK K C) (F : ExcC K mg y D) (l : ExcK K D) (h : PySem.W.subIn K (.ref C) (.ref D) = some b) : PySem.W.kitOne K (.ref C) (.ref D) = some b := by
  unfold PySem.W.kitOne
  split
  · rename_i e
    have e' : C = D := by simpa using e
    subst e'
    rw [k.se] at h
    exact h
  · obtain ⟨cd, hc, _⟩ := PySem.W.any_some l.hd
    show (if ((PySem.W.clsIn K D).isSome && PySem.W.typeIn K (.ref D) == some (.type "type")) = true then _ else none) = _
    rw [hc, F.t]
    exact h
theorem kit_ve (k : ExcK K C) : PySem.W.kitOne K (.ref C) (.type "ValueError") = some true := by
  unfold PySem.W.kitOne
  split
  · rfl
  · show (if PySem.W.kitMeta "ValueError" = true then _ else none) = _
    rw [if_pos (by decide +kernel)]
    exact k.ve
theorem exm_pair (k : ExcK K C) (F : ExcC K mg y D) (l : ExcK K D) (h : PySem.W.subIn K (.ref C) (.ref D) = some b) : PySem.W.exmOne K (.ref C) (.ref D) = some b := PySem.W.exm_ref F.b l.hd F.t h
theorem rsd_mk {sub : Str → Str → Bool} {ys : List Str} {nm : Str} (E : ExcC K mg nm C) (k : ExcK K C) (o : ObjC K) (hy : ∀ y ∈ ys, ∃ A : Addr, mg y = some (.ref A) ∧ PySem.W.kitOne K (.ref C) (.ref A) = some (sub nm y)) : Rsd K mg sub ys nm (.ref C) := ⟨⟨C, rfl, excC_of E k o⟩, hy, kit_ve k⟩
end
end Dn

/-! defs whose code object is told: makers of lambdas -/
namespace Dn
open PySem PySem.Spec L2
open PyProof.Rows (envOfC)
structure DfC (K : PySem.W.Frag) (mg : Str → Option Value) (x : Str) (st : Stmt) (ps : List Str) (c : Addr) : Prop where
  ex : ∃ (f : Addr) (oc kV doc pm ct : Value) (od an : Option Addr) (osl : Array (Option Value)), K.lookup f = some ⟨oc, od, .func (PySem.W.fnOf x x (defArgs st) (defBody st) (defScope st) .none kV doc pm an (.ref c) ct), osl⟩ ∧ PySem.W.codeIn K (.ref c) x = true ∧ PySem.W.keepIn K (.ref f) = true ∧ mg x = some (.ref f) ∧ Binds K (PySem.W.fnOf x x (defArgs st) (defBody st) (defScope st) .none kV doc pm an (.ref c) ct) ps []
section
variable {P : Program} {w : World} {K : PySem.W.Frag} {mg : Str → Option Value} {base : Heap} {x : Str} {st : Stmt} {N ps : List Str} {k n : Nat} {sd : SD} {T : TbL} {c f : Addr} {oc kV doc pm ct : Value} {od an : Option Addr} {osl : Array (Option Value)}
theorem fnFC (lk : K.lookup f = some ⟨oc, od, .func (PySem.W.fnOf x x (defArgs st) (defBody st) (defScope st) .none kV doc pm an (.ref c) ct), osl⟩) (hcd : PySem.W.codeIn K (.ref c) x = true) (S : FnScope N ps (defScope st)) (hn : ps.length = n)
    (hb : ∀ (A : Around) (outer : List Env) (s : Shared) (H : Hp) (E : XK), Room k (A.deeper (envOfC x (defScope st) s.heap.objs.size f (.ref c))) → A.guards = some [] → DSs (cxOf (L2.CX P w) P w K mg base N x (defScope st) f (.ref c) A outer s H E) (wE T E) (defBody st) sd) :
    FnG P w K mg base (k + 1) f (PySem.W.fnOf x x (defArgs st) (defBody st) (defScope st) .none kV doc pm an (.ref c) ct) ps (spF K mg T n (semF N.length n sd)) := by
  have len : ∀ vs H Q E, spF K mg T n (semF N.length n sd) vs H Q E → vs.length = ps.length := fun vs H Q E ⟨Hf, ds, _, r, hl, _⟩ => by rw [r.length, hl, hn]
  exact ⟨len, fun A outer s H args us vs Q E hr hg e0 hbd r h => LamX.run_ofS lk hcd S hr e0 hbd r (len _ _ _ _ h) fun hr' => fnF_body (hb A outer s H E hr' hg) h⟩
theorem fnIoC (lk : K.lookup f = some ⟨oc, od, .func (PySem.W.fnOf x x (defArgs st) (defBody st) (defScope st) .none kV doc pm an (.ref c) ct), osl⟩) (hcd : PySem.W.codeIn K (.ref c) x = true) (S : FnScope N ps (defScope st)) (hn : ps.length = n)
    (hb : ∀ (A : Around) (outer : List Env) (s : Shared) (H : Hp) (E : XK), Room k (A.deeper (envOfC x (defScope st) s.heap.objs.size f (.ref c))) → A.guards = some [] → DSs (cxOf (L2.CX P w) P w K mg base N x (defScope st) f (.ref c) A outer s H E) (wE T E) (defBody st) sd) :
    FnG P w K mg base (k + 1) f (PySem.W.fnOf x x (defArgs st) (defBody st) (defScope st) .none kV doc pm an (.ref c) ct) ps (spIo K mg T n (semIo N.length n sd)) := by
  have len : ∀ vs H Q E, spIo K mg T n (semIo N.length n sd) vs H Q E → vs.length = ps.length := fun vs H Q E ⟨Hf, p, hs, dh, ds, rest, e, _, _, _, _, r, hl, _⟩ => by rw [e, List.length_cons, r.length, hl, hn]
  exact ⟨len, fun A outer s H args us vs Q E hr hg e0 hbd r h => LamX.run_ofS lk hcd S hr e0 hbd r (len _ _ _ _ h) fun hr' => fnIo_body (hb A outer s H E hr' hg) h⟩
theorem cf_mkC (Dd : DfC K mg x st ps c) (S : FnScope N ps (defScope st)) (hn : ps.length = n)
    (hb : ∀ (f : Addr) (A : Around) (outer : List Env) (s : Shared) (H : Hp) (E : XK), Room k (A.deeper (envOfC x (defScope st) s.heap.objs.size f (.ref c))) → A.guards = some [] → DSs (cxOf (L2.CX P w) P w K mg base N x (defScope st) f (.ref c) A outer s H E) (wE T E) (defBody st) sd) :
    Cf P w K mg T base (k + 1) x n (semF N.length n sd) := by
  obtain ⟨f, oc, kV, doc, pm, ct, od, an, osl, lk, hcd, kp, g, b⟩ := Dd.ex
  exact ⟨⟨f, _, ps, fnFC lk hcd S hn (hb f), g, kp, b⟩, semF_len⟩
theorem ci_mkC (Dd : DfC K mg x st ps c) (S : FnScope N ps (defScope st)) (hn : ps.length = n)
    (hb : ∀ (f : Addr) (A : Around) (outer : List Env) (s : Shared) (H : Hp) (E : XK), Room k (A.deeper (envOfC x (defScope st) s.heap.objs.size f (.ref c))) → A.guards = some [] → DSs (cxOf (L2.CX P w) P w K mg base N x (defScope st) f (.ref c) A outer s H E) (wE T E) (defBody st) sd) :
    Ci P w K mg T base (k + 1) x n (semIo N.length n sd) := by
  obtain ⟨f, oc, kV, doc, pm, ct, od, an, osl, lk, hcd, kp, g, b⟩ := Dd.ex
  exact ⟨⟨f, _, ps, fnIoC lk hcd S hn (hb f), g, kp, b⟩, semIo_len⟩
end
/-- what is known of a class that an instance is held against -/
structure ExcT (K : PySem.W.Frag) (mg : Str → Option Value) (y : Str) (D : Addr) : Prop where
  g : mg y = some (.ref D)
  t : PySem.W.typeIn K (.ref D) = some (.type "type")
  hd : PySem.W.hasDictIn K D = true
  b : PySem.W.subIn K (.ref D) (.type "BaseException") = some true
section
variable {K : PySem.W.Frag} {mg : Str → Option Value} {x y : Str} {C D : Addr} {b : Bool}
theorem kit_t (k : ExcK K C) (F : ExcT K mg y D) (h : PySem.W.subIn K (.ref C) (.ref D) = some b) (e : subc x y = b := by decide) : ∃ A : Addr, mg y = some (.ref A) ∧ PySem.W.kitOne K (.ref C) (.ref A) = some (subc x y) := by
  refine ⟨D, F.g, ?_⟩
  rw [e]
  unfold PySem.W.kitOne
  split
  · rename_i e2
    have e' : C = D := by simpa using e2
    subst e'
    rw [k.se] at h
    exact h
  · obtain ⟨cd, hc, _⟩ := PySem.W.any_some F.hd
    show (if ((PySem.W.clsIn K D).isSome && PySem.W.typeIn K (.ref D) == some (.type "type")) = true then _ else none) = _
    rw [hc, F.t]
    exact h
theorem exm_t (F : ExcT K mg y D) (h : PySem.W.subIn K (.ref C) (.ref D) = some true) : PySem.W.exmOne K (.ref C) (.ref D) = some true := PySem.W.exm_ref F.b F.hd F.t h
end
end Dn

/-! {k: x}, a key that is written, a name -/
namespace Dn
open PySem PySem.Spec L2
def dct1K (k : Key) (o : Option Sl) (δ : List Sl) : Option ER := match o with
  | some (.fz d) => some (.ok (.fz (.dct [k] [d])) δ)
  | _ => none
def eDct1 (k : Key) (i : Nat) : ED := fun δ => dct1K k δ[i]? δ
theorem upd_upd {H : Hp} {p : Addr} {o o' : HO} : upd (upd H p o) p o' = upd H p o' := by
  funext b
  by_cases hb : b = p
  · subst hb; rw [upd_same, upd_same]
  · rw [upd_ne hb, upd_ne hb, upd_ne hb]
section
variable {X : Cx} {W : WT} {k : Key} {i : Nat} {ke ve : Expr} {pos : Pos}
theorem de_dct1 (hk : PE X ke (tC (kV k))) (hv : PE X ve (tVar i)) : DE X W (.Dict [some ke] [ve] pos) (eDct1 k i) :=
  (pe_disp (pps_cons hk hv pps_nil) rfl rfl (by simp) (by simp)).imp fun σ H Q ⟨G, Hf, δ, I, q⟩ p hp => by
    unfold eDct1 dct1K at q
    split at q
    · rename_i d hδ
      obtain ⟨o, e1, _, v, rfl, r⟩ := I.sl i _ hδ
      refine ⟨v, e1, upd_same, [(k, v)], rfl, by simp, ?_⟩
      rw [upd_upd]
      refine q _ _ _ (Same.new (I.fnone hp)) (I.alloc hp (.dK [(k, v)])) ?_
      show Rel X.K _ (.dct [k] [d]) _
      unfold Rel
      exact ⟨p, [(k, v)], rfl, upd_same, rfl, RelL.cons (Rel.mono (Same.new (I.fnone hp)) r) RelL.nil⟩
    · exact q.elim
end
end Dn

/-! sorted of a dict with whole numbers for keys, however many -/
namespace Dn
open PySem PySem.Spec L2
section
variable {X : Cx}
def rSrtK : List V → Hp → VK → Prop := fun us H Q => ∃ (d : Addr) (ps : List (Key × V)) (ns : List Int), us = [V.ref d] ∧ Rd H d (.dK ps) ∧ ps.map Prod.fst = ns.map Sum.inl ∧
  ∀ (ms : List Int) (z : Addr), ms.Perm ns → ms.Pairwise (· ≤ ·) → H z = none → Q (.ref z) (upd H z (.lst (ms.map V.int)))
theorem cr_srtK (calm : X.calm = true) : CallR X (.builtin "sorted") rSrtK := by
  intro pn t τ G us ws Q J rr hh
  obtain ⟨d, ps, ns, eu, rd, hkk, fin⟩ := hh
  subst eu
  obtain ⟨w1, e1, r1⟩ := vals1 rr
  subst e1
  cases r1
  obtain ⟨zz, live, qs, prs, da⟩ := dk_rd J.hok rd
  obtain ⟨epo, at0⟩ := da.dictAt
  have kk : qs.map Prod.fst = ns.map Sum.inl := by rw [← hkk]; exact prs.keys.symm
  have len0 : qs.length = ns.length := by simpa using congrArg List.length kk
  have len1 : qs.length ≤ sizeLine := by rw [← prs.length]; exact zz
  refine Calls.call_function_entry (PyProof.Rows.kind_sorted) (PyProof.Rows.plain_sorted) (PyProof.Rows.entry_sorted) (PyProof.Rows.args_sorted1 _) ?_
  unfold Builtin.«sorted»
  refine wpAny_bind (m := checkCount "sorted" 1 1 _) (wpAny_pure ?_)
  refine wpAny_bind (PySem.W.kdu_collect (A := X.A.in1) (PySem.W.kdl_dict (knd := mixKind X.prog X.w) (kvs := qs) (ep := epo) live) (J.ok.hd calm) at0 len1 fun g1 tk arr kept got => ?_)
  have alen : arr.toList.length = ns.length := by rw [Array.length_toList, got.1, len0]
  have ai : PyProof.Rows.IntsAre arr.toList ns := ints_each alen fun i v ev => by
    obtain ⟨key, y, q1, q2⟩ := got.2 i v (by rw [← Array.getElem?_toList]; exact ev)
    have q3 : (ns.map Sum.inl)[i]? = some key := by rw [← kk, List.getElem?_map, q1]; rfl
    rw [List.getElem?_map] at q3
    cases q4 : ns[i]? with
    | none => rw [q4] at q3; cases q3
    | some n =>
      rw [q4] at q3
      cases q3
      rcases keyIs_shape (show keyIs (Sum.inl n) v = true from q2) with ⟨m, tt, em, ev⟩ | ⟨m, tt, em, ev⟩
      · cases em
        exact ⟨n, tt, rfl, ev⟩
      · cases em
  have J1 : Inv X pn τ G { t with heap := g1, toks := tk } := J.kept kept
  have len2 : arr.toList.length ≤ sizeLine := by rw [alen, ← len0]; exact len1
  refine wpAny_bind (wpAny_newList ?_ len2)
  have ob : (g1.push (PyProof.Rows.seqObj "list" arr.toList.toArray 0)).get? g1.objs.size = some (PyProof.Rows.seqObj "list" arr.toList.toArray 0) := Heap.get?_push_size _ rfl
  show wpAny _ _ _ _ _ { t with heap := g1.push (PyProof.Rows.seqObj "list" arr.toList.toArray 0), toks := tk }
  refine wpAny_bind (wpAny_holding (wpAny_call_entry PyProof.Rows.slot_list_sort ⟨_, ob, rfl⟩ PyProof.Rows.entry_list_sort
    (SrtO.list_sort_ord (s := { t with heap := g1.push (PyProof.Rows.seqObj "list" arr.toList.toArray 0), toks := tk }) SrtO.swo_int ob len2 (fun two => SrtO.ints_sortable ai two) fun out o1 o2 => ⟨_, rfl, ?_⟩) (PyProof.Rows.args_list_sort _)))
  obtain ⟨k1, k2, k3⟩ := SrtO.ints_out ai o1 o2
  obtain ⟨ep2, at2⟩ := PyProof.Rows.sortedHeap_at (vs := arr.toList) (out := out.toArray) ob
  have len3 : ((out.map SrtO.iv).map V.int).length ≤ sizeLine := by
    rw [List.length_map, k2.length_eq, ← len0]
    exact len1
  refine wpAny_pure ⟨_, rfl, .ref g1.objs.size, upd G g1.objs.size (.lst ((out.map SrtO.iv).map V.int)), J1.laid (t' := tk) (fun b o eb => ?_) (Nat.le_refl _)
    ⟨len3, out, ep2, vals_of_ints k1, at2⟩, rfl, fin _ _ k2 k3 (J1.hok.fresh (Nat.le_refl _))⟩
  have small : b < g1.objs.size := Heap.lt_size eb
  rw [PyProof.Rows.sortedHeap_old (Nat.ne_of_lt small) (by rw [PyProof.Rows.size_push']; exact Nat.lt_succ_of_lt small)]
  exact Heap.get?_push_of_some _ eb
end
end Dn

/-! a new dict that nothing holds, while it is filled -/
namespace Dn
open PySem PySem.Spec L2
def FreshK (K : PySem.W.Frag) {C : Cst} (G : Gh C) (Hf : Hp) (σ : L2.St) (H : Hp) (δ : List Sl) (p : Addr) (ks : List (Key × D)) : Prop :=
  ∃ kvs : List (Key × V), H p = some (.dK kvs) ∧ kvs.map Prod.fst = ks.map Prod.fst ∧ RelL K Hf (ks.map Prod.snd) (kvs.map Prod.snd) ∧ Hf p = none ∧ G.g p = none ∧ (∀ j, G.ia j ≠ some p) ∧ ¬ ownAt σ δ p
section
variable {K : PySem.W.Frag} {C : Cst} {G : Gh C} {Hf Hf' : Hp} {σ σ' : L2.St} {H H' : Hp} {δ δ' : List Sl} {p : Addr} {ks : List (Key × D)}
theorem IV.freshK_new (I : IV K G Hf σ H δ) (hp : H p = none) : FreshK K G Hf σ (upd H p (.dK [])) δ p [] :=
  ⟨[], upd_same, rfl, RelL.nil, I.fnone hp, I.dom p hp, I.not_ia hp, I.not_own hp⟩
open LamX (Tabs TabS CodeO) in
theorem tabsK_upd {T : List (Addr × Str)} {xs : List (Key × V)} (t : Tabs T H) (hp : H p = some (.dK xs)) (e : ∀ b, b ≠ p → H' b = H b) : Tabs T H' := fun q hq => by
  obtain ⟨ps, h1, h2, h3⟩ := t q hq
  refine ⟨ps, ?_, h2, fun pos cv hc => ?_⟩
  · rw [e _ fun z => by rw [z, hp] at h1; cases h1]; exact h1
  · obtain ⟨c, e1, e2⟩ := h3 pos cv hc
    refine ⟨c, e1, ?_⟩
    rw [e _ fun z => by rw [z, hp] at e2; unfold CodeO at e2; cases e2]; exact e2
theorem nt_dK {xs : List (Key × V)} (h : H p = some (.dK xs)) : nt H p = some (.dK xs) := nt_of h fun ps z => nomatch z
theorem IV.guardK (I : IV K G Hf σ H δ) (f : FreshK K G Hf σ H δ p ks) : IV K (G.guard H [p]) Hf σ H δ := by
  obtain ⟨kvs, h1, h2, h3, h4, h5, h6, h7⟩ := f
  have ne : ∀ (i : Nat) (s : Sl), δ[i]? = some s → s.isOwn = true → ∀ q, σ[i]? = some (some (V.ref q)) → q ∉ [p] := fun i s a b q c z => by
    rw [List.mem_singleton] at z
    subst z
    exact h7 ⟨i, s, a, b, c⟩
  have out : ∀ {b : Addr}, b ≠ p → b ∉ [p] := fun h z => h (List.mem_singleton.mp z)
  refine ⟨I.len, I.subN, I.f0s, fun b hb => ?_, fun b o e hi => ?_, fun b hb => ?_, fun i s a => ?_, I.dj, I.iai, I.tab⟩
  · have nb : b ≠ p := fun z => by subst z; exact hb h4
    rw [G.guard_out (out nb)]
    exact I.hf0 b hb
  · by_cases hb : b ∈ [p]
    · rw [G.guard_inN hb] at e; exact (of_nt e).1
    · rw [G.guard_out hb] at e; exact I.frame b o e hi
  · by_cases h : b ∈ [p]
    · rw [G.guard_inN h]; exact nt_none hb
    · rw [G.guard_out h]; exact I.dom b hb
  · obtain ⟨o, e, r⟩ := I.sl i s a
    refine ⟨o, e, ?_⟩
    cases s with
    | no => exact r
    | exn => exact r
    | fz d => exact r
    | own ds' =>
      obtain ⟨k0, q, ws, k1, k2, k3, k4, k5, k6⟩ := r
      have nq := ne i _ a rfl q (by rw [e, k1])
      exact ⟨k0, q, ws, k1, k2, k3, k4, by rw [G.guard_out nq]; exact k5, k6⟩
    | io ds' => exact r
theorem IV.unguardK (I0 : IV K G Hf σ H δ) (f : FreshK K G Hf σ H δ p ks) (s : Same Hf Hf') (I : IV K (G.guard H [p]) Hf' σ' H' δ') : IV K G Hf' σ' H' δ' ∧ FreshK K G Hf' σ' H' δ' p ks := by
  obtain ⟨kvs, h1, h2, h3, h4, h5, h6, h7⟩ := f
  have pm : p ∈ [p] := List.mem_singleton.mpr rfl
  have gp : (G.guard H [p]).g p = some (.dK kvs) := by rw [G.guard_inN pm]; exact nt_dK h1
  have fp : Hf' p = none := by
    cases z : Hf' p with
    | none => rfl
    | some o =>
      rcases I.hf0 p (by rw [z]; intro z; cases z) with q | q
      · exfalso
        apply q
        show G.f0 p = none
        cases z : G.f0 p with
        | none => rfl
        | some o => rw [I0.f0s _ _ z] at h4; cases h4
      · rw [gp] at q; cases q
  have I1 : IV K G Hf' σ' H' δ' := by
    refine ⟨I.len, I.subN, I.f0s, fun b hb => ?_, fun b o e hi => ?_, fun b hb => ?_, fun i s a => ?_, I.dj, I.iai, I.tab⟩
    · by_cases e : b ∈ [p]
      · rw [List.mem_singleton] at e
        subst e
        exact absurd fp hb
      · have := I.hf0 b hb
        rw [G.guard_out e] at this
        exact this
    · by_cases e' : b ∈ [p]
      · rw [List.mem_singleton] at e'
        subst e'
        rw [h5] at e; cases e
      · exact I.frame b o (by rw [G.guard_out e']; exact e) hi
    · by_cases e' : b ∈ [p]
      · rw [List.mem_singleton] at e'
        subst e'
        exact h5
      · rw [← G.guard_out (H := H) e']; exact I.dom b hb
    · obtain ⟨o, e, r⟩ := I.sl i s a
      refine ⟨o, e, ?_⟩
      cases s with
      | no => exact r
      | exn => exact r
      | fz d => exact r
      | own ds' =>
        obtain ⟨k0, q, ws, k1, k2, k3, k4, k5, k6⟩ := r
        have nq : q ∉ [p] := fun z => by
          rw [List.mem_singleton] at z
          subst z
          rw [gp] at k5; cases k5
        rw [G.guard_out nq] at k5
        exact ⟨k0, q, ws, k1, k2, k3, k4, k5, k6⟩
      | io ds' => exact r
  refine ⟨I1, kvs, I.frame p _ gp h6, h2, RelL.mono s h3, fp, h5, h6, fun ⟨i, t, a1, a2, a3⟩ => ?_⟩
  obtain ⟨q, ws, es, b1, b2, b3, b4, b5⟩ := I.own_some a1 a2
  rw [a3] at b1; cases b1
  rcases b5 with ⟨_, b5, _⟩ | ⟨_, b5⟩
  · rw [gp] at b5; cases b5
  · exact h6 i b5
theorem IV.writeK (I : IV K G Hf σ H δ) {ks' : List (Key × D)} {kvs : List (Key × V)} (f : FreshK K G Hf σ H δ p ks) (e : kvs.map Prod.fst = ks'.map Prod.fst) (r : RelL K Hf (ks'.map Prod.snd) (kvs.map Prod.snd)) :
    IV K G Hf σ (upd H p (.dK kvs)) δ ∧ FreshK K G Hf σ (upd H p (.dK kvs)) δ p ks' := by
  obtain ⟨ws, h1, h2', h2, h3, h4, h5, h6⟩ := f
  have ne : ∀ (i : Nat) (s : Sl), δ[i]? = some s → s.isOwn = true → ∀ q, σ[i]? = some (some (V.ref q)) → q ≠ p := fun i s a b q c z => h6 ⟨i, s, a, b, z ▸ c⟩
  refine ⟨⟨I.len, .of (fun b x e => ?_) I.subN.noT, I.f0s, I.hf0, fun b o e hi => ?_, fun b e => ?_, fun i s a => ?_, I.dj, I.iai, ?_⟩, kvs, upd_same, e, r, h3, h4, h5, h6⟩
  · have nb : b ≠ p := fun z => by subst z; rw [h3] at e; cases e
    rw [upd_ne nb]; exact I.sub b x e
  · have nb : b ≠ p := fun z => by subst z; rw [h4] at e; cases e
    rw [upd_ne nb]; exact I.frame b o e hi
  · have nb : b ≠ p := fun z => by subst z; rw [upd_same] at e; cases e
    rw [upd_ne nb] at e; exact I.dom b e
  · obtain ⟨o, e, q⟩ := I.sl i s a
    refine ⟨o, e, ?_⟩
    cases s with
    | no => exact q
    | exn => exact q
    | fz d => exact q
    | own es =>
      obtain ⟨k0, q, ws', k1, k2, k3⟩ := q
      exact ⟨k0, q, ws', k1, by rw [upd_ne (ne i _ a rfl q (by rw [e, k1]))]; exact k2, k3⟩
    | io es =>
      obtain ⟨q, ws', k0, k1, k2, k3⟩ := q
      exact ⟨q, ws', k0, k1, by rw [upd_ne (ne i _ a rfl q (by rw [e, k1]))]; exact k2, k3⟩
  · exact tabsK_upd I.tab h1 fun b hb => upd_ne hb
theorem FreshK.wipe (f : FreshK K G Hf σ H δ p ks) {vs : List Nat} : FreshK K G Hf (L2.wipe σ vs) H (wipeS δ vs) p ks := by
  obtain ⟨ws, h1, h2', h2, h3, h4, h5, h6⟩ := f
  refine ⟨ws, h1, h2', h2, h3, h4, h5, fun ⟨i, s, a1, a2, a3⟩ => h6 ⟨i, s, ?_, a2, ?_⟩⟩
  · rw [wipeS_get] at a1
    split at a1
    · split at a1
      · cases a1; cases a2
      · cases a1
    · exact a1
  · rw [wipe_get] at a3
    split at a3
    · split at a3 <;> cases a3
    · exact a3
theorem FreshK.rest (hl : δ.length = δ'.length) {vs : List Nat} (hw : canWipe δ vs = true) (f : FreshK K G Hf (L2.wipe σ vs) H δ' p ks) : FreshK K G Hf σ H (restS δ δ' vs) p ks := by
  obtain ⟨ws, h1, h2', h2, h3, h4, h5, h6⟩ := f
  refine ⟨ws, h1, h2', h2, h3, h4, h5, fun ⟨i, s, a1, a2, a3⟩ => ?_⟩
  rw [restS_get hl] at a1
  split at a1
  · rename_i hj
    have := List.all_eq_true.mp hw i hj
    rw [a1] at this
    simp [a2] at this
  · rename_i hj
    exact h6 ⟨i, s, a1, a2, by rw [wipe_get, if_neg hj]; exact a3⟩
/-- d[k] = x, as data -/
def putD (ks : List (Key × D)) (k : Key) (d : D) : List (Key × D) :=
  if (ks.any fun x => decide (x.1 = k)) = true then ks.map (fun x => if x.1 = k then (x.1, d) else x) else ks ++ [(k, d)]
theorem any_fst {α : Type} {k : Key} : ∀ {xs : List (Key × α)}, (xs.any fun x => decide (x.1 = k)) = (xs.map Prod.fst).any fun y => decide (y = k)
  | [] => rfl
  | x :: xs => by
    show (decide (x.1 = k) || (xs.any fun x => decide (x.1 = k))) = (decide (x.1 = k) || ((xs.map Prod.fst).any fun y => decide (y = k)))
    rw [any_fst]
theorem put_map {k : Key} {d : D} {v : V} (rd : Rel K Hf d v) : ∀ {ks : List (Key × D)} {kvs : List (Key × V)}, kvs.map Prod.fst = ks.map Prod.fst → RelL K Hf (ks.map Prod.snd) (kvs.map Prod.snd) →
    (kvs.map fun x => if x.1 = k then (x.1, v) else x).map Prod.fst = (ks.map fun x => if x.1 = k then (x.1, d) else x).map Prod.fst ∧ RelL K Hf ((ks.map fun x => if x.1 = k then (x.1, d) else x).map Prod.snd) ((kvs.map fun x => if x.1 = k then (x.1, v) else x).map Prod.snd)
  | [], [], _, _ => ⟨rfl, RelL.nil⟩
  | [], _ :: _, e, _ => by cases e
  | _ :: _, [], e, _ => by cases e
  | (k1, d1) :: ks, (k2, v2) :: kvs, e, r => by
    simp only [List.map_cons, List.cons.injEq] at e
    obtain ⟨rfl, e⟩ := e
    unfold RelL at r
    obtain ⟨x, xs, hx, r1, r2⟩ := r
    simp only [List.map_cons, List.cons.injEq] at hx
    obtain ⟨rfl, rfl⟩ := hx
    obtain ⟨a, b⟩ := put_map (k := k) rd e r2
    by_cases h : k2 = k
    · refine ⟨?_, ?_⟩
      · simp only [List.map_cons, if_pos h, a]
      · simp only [List.map_cons, if_pos h]
        exact RelL.cons rd b
    · refine ⟨?_, ?_⟩
      · simp only [List.map_cons, if_neg h, a]
      · simp only [List.map_cons, if_neg h]
        exact RelL.cons r1 b
theorem put_rel {k : Key} {d : D} {v : V} {kvs : List (Key × V)} (rd : Rel K Hf d v) (e : kvs.map Prod.fst = ks.map Prod.fst) (r : RelL K Hf (ks.map Prod.snd) (kvs.map Prod.snd)) :
    (putK kvs k v).map Prod.fst = (putD ks k d).map Prod.fst ∧ RelL K Hf ((putD ks k d).map Prod.snd) ((putK kvs k v).map Prod.snd) := by
  have ha : (kvs.any fun x => decide (x.1 = k)) = (ks.any fun x => decide (x.1 = k)) := by rw [any_fst, any_fst, e]
  unfold putK putD
  by_cases h : (ks.any fun x => decide (x.1 = k)) = true
  · rw [if_pos h, if_pos (ha.trans h)]
    exact put_map rd e r
  · rw [if_neg h, if_neg (by rw [ha]; exact h)]
    refine ⟨by simp [e], ?_⟩
    rw [List.map_append, List.map_append]
    exact RelL.append r (RelL.cons rd RelL.nil)
theorem IV.freezeK (I : IV K G Hf σ H δ) (f : FreshK K G Hf σ H δ p ks) : ∃ kvs : List (Key × V), H p = some (.dK kvs) ∧ Same Hf (upd Hf p (.dK kvs)) ∧ IV K G (upd Hf p (.dK kvs)) σ H δ ∧ Rel K (upd Hf p (.dK kvs)) (.dct (ks.map Prod.fst) (ks.map Prod.snd)) (.ref p) := by
  obtain ⟨kvs, h1, h2', h2, h3, h4, h5, h6⟩ := f
  refine ⟨kvs, h1, Same.new h3, ?_, ?_⟩
  · have ne : ∀ (i : Nat) (s : Sl), δ[i]? = some s → s.isOwn = true → ∀ q, σ[i]? = some (some (V.ref q)) → q ≠ p := fun i s a b q c z => h6 ⟨i, s, a, b, z ▸ c⟩
    refine ⟨I.len, .of (fun b x e => ?_) (I.subN.noT.upd fun ps z => nomatch z), I.f0s.trans (Same.new h3), fun b hb => ?_, I.frame, I.dom, fun i s a => ?_, I.dj, I.iai, I.tab⟩
    · by_cases hb : b = p
      · subst hb; rw [upd_same] at e; cases e; exact h1
      · rw [upd_ne hb] at e; exact I.sub b x e
    · by_cases hb' : b = p
      · subst hb'; exact .inr h4
      · rw [upd_ne hb'] at hb; exact I.hf0 b hb
    · obtain ⟨o, e, r⟩ := I.sl i s a
      refine ⟨o, e, ?_⟩
      cases s with
      | no => exact r
      | exn => exact r
      | fz d => exact ⟨r.1, r.2.imp fun v h => ⟨h.1, Rel.mono (Same.new h3) h.2⟩⟩
      | own ds' =>
        obtain ⟨k0, q, ws, k1, k2, k3, k4, k5⟩ := r
        have nq := ne i _ a rfl q (by rw [e, k1])
        exact ⟨k0, q, ws, k1, k2, RelL.mono (Same.new h3) k3, by rw [upd_ne nq]; exact k4, k5⟩
      | io ds' =>
        obtain ⟨q, ws, k0, k1, k2, k3, k4⟩ := r
        have nq := ne i _ a rfl q (by rw [e, k1])
        exact ⟨q, ws, k0, k1, k2, RelL.mono (Same.new h3) k3, by rw [upd_ne nq]; exact k4⟩
  · unfold Rel
    exact ⟨p, kvs, rfl, upd_same, h2', RelL.mono (Same.new h3) h2⟩
end
end Dn

/-! dict comprehensions -/
namespace Dn
open PySem PySem.Spec L2
open PyProof.Rows (envOfC)
def keyD : D → Option Key
  | .int n => some (.inl n)
  | .str x => some (.inr x)
  | _ => none
theorem keyD_rel {K : PySem.W.Frag} {Hf : Hp} {d : D} {k : Key} {v : V} (h : keyD d = some k) (r : Rel K Hf d v) : v = kV k := by
  unfold keyD at h
  split at h
  · cases h
    unfold Rel at r
    exact r
  · cases h
    unfold Rel at r
    exact r
  · cases h
def dcL (g : GD) (t : TD) (ek ed : ED) (vs : List Nat) : List D → List Sl → List (Key × D) → Option (List (Key × D) × List Sl)
  | [], δ, acc => some (acc, δ)
  | d :: ds, δ, acc => match g (.fz d) δ with
    | none => none
    | some δ1 => match t δ1 with
      | some (.ok c δ2) => if c then (match ek δ2 with
        | some (.ok (.fz kd) δ3) => match keyD kd with
          | some k => match ed δ3 with
            | some (.ok r δ4) => match r.settle δ4 with
              | some (d', δ5) => if canWipe δ5 vs && decide (acc.length < 16777216) then dcL g t ek ed vs ds (wipeS δ5 vs) (putD acc k d') else none
              | none => none
            | _ => none
          | none => none
        | _ => none) else (if canWipe δ2 vs then dcL g t ek ed vs ds (wipeS δ2 vs) acc else none)
      | _ => none
def eDc (it : ID) (g : GD) (t : TD) (ek ed : ED) (vs : List Nat) : ED := fun δ => match it δ with
  | none => none
  | some (.er x δ1) => some (.er x δ1)
  | some (.ok items δ1) => if canWipe δ1 vs then (match dcL g t ek ed vs items (wipeS δ1 vs) [] with
    | none => none
    | some (acc, δ2) => some (.ok (.fz (.dct (acc.map Prod.fst) (acc.map Prod.snd))) (restS δ1 δ2 vs))) else none
theorem IV.pendK {K : PySem.W.Frag} {C : Cst} {G : Gh C} {Hf : Hp} {σ : L2.St} {H : Hp} {δ : List Sl} {p : Addr} {ks : List (Key × D)} (I : IV K G Hf σ H δ) (f : FreshK K G Hf σ H δ p ks) :
    ∃ G' : Gh C, IV K G' Hf σ H δ ∧ ∀ Hf' σ' H' δ', Same Hf Hf' → IV K G' Hf' σ' H' δ' → IV K G Hf' σ' H' δ' ∧ FreshK K G Hf' σ' H' δ' p ks :=
  ⟨G.guard H [p], I.guardK f, fun _ _ _ _ s I' => I.unguardK f s I'⟩
section
variable {X : Cx} {W : WT} {it : ID} {g : GD} {t : TD} {ek ed : ED} {vs : List Nat} {gR : TG} {e : Expr} {st : Stmt}
theorem rd_dc (hg : GRun X.K gR g vs) {σ : L2.St} {H : Hp} {Q : VK} (h : rdE X.K X.mg W (eDc it g t ek ed vs) σ H Q) : tDc (rdI X.K X.mg W it) gR (rdT X.K X.mg (wF W) t) (rdE X.K X.mg (wF W) ek) (rdE X.K X.mg (wF W) ed) vs σ H Q := by
  obtain ⟨G, Hf, δ, I, q⟩ := h
  refine ⟨G, Hf, δ, I, ?_⟩
  unfold eDc at q
  revert q
  cases it δ with
  | none => exact fun q => q.elim
  | some o =>
    cases o with
    | er x δ1 => exact fun q => q
    | ok items δ1 =>
      intro q Hf1 H1 J s1 I1 wk Dp hD
      dsimp only at q
      split at q
      · rename_i hw
        have I1w := (I1.allocOwn hD (.dK [])).wipe hw
        have F1 : FreshK X.K G Hf1 (L2.wipe σ vs) (upd H1 Dp (.dK [])) (wipeS δ1 vs) Dp [] := (I1.freshK_new hD).wipe
        -- what the rest of the walk is to reach
        let goal : Hp → List Sl → List D → List (Key × D) → Prop := fun Hf' δ' items' acc => match dcL g t ek ed vs items' δ' acc with
          | none => False
          | some (acc', δ2) => ∀ Hf2 H2, Same Hf' Hf2 → IV X.K G Hf2 (L2.wipe σ vs) H2 δ2 → FreshK X.K G Hf2 (L2.wipe σ vs) H2 δ2 Dp acc' → Q (.ref Dp) H2
        have start : goal Hf1 (wipeS δ1 vs) items [] := by
          show (match dcL g t ek ed vs items (wipeS δ1 vs) [] with
            | none => False
            | some (acc', δ2) => _)
          revert q
          cases dcL g t ek ed vs items (wipeS δ1 vs) [] with
          | none => exact fun q => q.elim
          | some o =>
            obtain ⟨acc', δ2⟩ := o
            intro q Hf2 H2 s2 I2 F2
            have hl : δ1.length = δ2.length := by have := I2.len; rw [wipe_length] at this; rw [← this, I1.len]
            have I3 := I1.rest hw s2 I2
            obtain ⟨kvs, a1, a2, a3, a4⟩ := I3.freezeK (F2.rest hl hw)
            exact q _ H2 _ ((s1.trans s2).trans a2) a3 a4
        have goal_up : ∀ {Hf' Hf'' : Hp} {δ' : List Sl} {its : List D} {acc : List (Key × D)}, goal Hf' δ' its acc → Same Hf' Hf'' → goal Hf'' δ' its acc := fun {Hf' Hf'' δ' its acc} h s => by
          show (match dcL g t ek ed vs its δ' acc with
            | none => False
            | some (acc', δ2) => _)
          have h : (match dcL g t ek ed vs its δ' acc with
            | none => False
            | some (acc', δ2) => _) := h
          revert h
          cases dcL g t ek ed vs its δ' acc with
          | none => exact fun h => h
          | some o => exact fun h Hf2 H2 s2 I2 F2 => h Hf2 H2 (s.trans s2) I2 F2
        refine ⟨fun i m H => m = items.length - i ∧ i ≤ items.length ∧ ∃ Hf' δ' acc, Same Hf1 Hf' ∧ IV X.K G Hf' (L2.wipe σ vs) H δ' ∧ FreshK X.K G Hf' (L2.wipe σ vs) H δ' Dp acc ∧ goal Hf' δ' (items.drop i) acc,
          ⟨items.length, by simp, Nat.zero_le _, Hf1, _, [], Same.refl _, I1w, F1, by simpa using start⟩, ?_⟩
        rintro i m H ⟨rfl, hi, Hf2, δ2, acc, s2, I2, F2, g2⟩
        by_cases hlt : i < items.length
        · refine .inr ⟨wk.go i H (s2.trans I2.sub) hlt, fun H => ∃ Hf' δ' acc, Same Hf1 Hf' ∧ IV X.K G Hf' (L2.wipe σ vs) H δ' ∧ FreshK X.K G Hf' (L2.wipe σ vs) H δ' Dp acc ∧ goal Hf' δ' (items.drop (i + 1)) acc,
            fun H' h => ⟨items.length - (i + 1), by omega, rfl, hlt, h⟩, fun x H' y => ?_⟩
          obtain ⟨G', I2', back⟩ := I2.pendK F2
          have y' := wk.yld i items[i] H x H' (s2.trans I2.sub) (List.getElem?_eq_getElem hlt) y
          have y2 : Yl X.K Hf2 items[i] H x H' := by
            rcases y' with ⟨a, b⟩ | ⟨p, xs, ds, a, b, c, d, e⟩
            · exact .inl ⟨a, Rel.mono s2 b⟩
            · exact .inr ⟨p, xs, ds, a, b, c, d, RelL.mono s2 e⟩
          obtain ⟨Hf3, s3, I3, r3⟩ := y2.take I2'
          rw [List.drop_eq_getElem_cons hlt] at g2
          have g2 : (match dcL g t ek ed vs (items[i] :: items.drop (i + 1)) δ2 acc with
            | none => False
            | some (acc', δ2) => ∀ Hf' H2, Same Hf2 Hf' → IV X.K G Hf' (L2.wipe σ vs) H2 δ2 → FreshK X.K G Hf' (L2.wipe σ vs) H2 δ2 Dp acc' → Q (.ref Dp) H2) := g2
          unfold dcL at g2
          split at g2
          · exact g2.elim
          · rename_i o1 acc' δz hoz
            split at hoz
            · cases hoz
            · rename_i δ3 hg3
              refine hg G' Hf3 (L2.wipe σ vs) H' δ2 δ3 x items[i] _ I3 r3 hg3 fun σ2 I4 hws => ⟨by rw [hws, wipe_wipe], G', Hf3, δ3, I4, ?_⟩
              split at hoz
              · rename_i c δ4 ht
                rw [ht]
                intro Hf5 H5 s5 I5
                cases c with
                | true =>
                  rw [if_pos rfl]
                  rw [if_pos rfl] at hoz
                  refine ⟨G', Hf5, δ4, I5, ?_⟩
                  split at hoz
                  · rename_i kd δk hk
                    rw [hk]
                    intro Hf6 H6 yv s6 I6 r6
                    split at hoz
                    · rename_i k hkd
                      refine ⟨G', Hf6, δk, I6, ?_⟩
                      split at hoz
                      · rename_i r δ5 he
                        rw [he]
                        intro Hf7 H7 zv s7 I7 r7
                        split at hoz
                        · rename_i d' δ6 hs'
                          obtain ⟨Hf8, s8, I8, r8, _⟩ := I7.settle r7 hs'
                          split at hoz
                          · rename_i hc
                            simp only [Bool.and_eq_true, decide_eq_true_eq] at hc
                            have s38 := (((s3.trans s5).trans s6).trans s7).trans s8
                            obtain ⟨I9, F9⟩ := back Hf8 σ2 H7 δ6 s38 I8
                            obtain ⟨kvs, k1, k2, k3, _⟩ := id F9
                            have hl : kvs.length = acc.length := by simpa using congrArg List.length k2
                            refine ⟨kvs, k, keyD_rel hkd r6, k1, by rw [hl, ← szl]; exact hc.2, ?_⟩
                            obtain ⟨b1, b2⟩ := put_rel (k := k) r8 k2 k3
                            obtain ⟨J9, E9⟩ := I9.writeK F9 b1 b2
                            have I10 := J9.wipe hc.1
                            have F10 := E9.wipe (vs := vs)
                            rw [hws, wipe_wipe] at I10 F10
                            refine ⟨Hf8, _, _, s2.trans s38, I10, F10, ?_⟩
                            show (match dcL g t ek ed vs (items.drop (i + 1)) (wipeS δ6 vs) (putD acc k d') with
                              | none => False
                              | some (acc', δ2) => _)
                            rw [hoz]
                            exact fun Hf' H2 a b c => g2 Hf' H2 (s38.trans a) b c
                          · cases hoz
                        · cases hoz
                      · cases hoz
                    · cases hoz
                  · cases hoz
                | false =>
                  rw [if_neg Bool.false_ne_true]
                  rw [if_neg Bool.false_ne_true] at hoz
                  split at hoz
                  · rename_i hc
                    obtain ⟨I8, F8⟩ := back Hf5 σ2 H5 δ4 (s3.trans s5) I5
                    have I10 := I8.wipe hc
                    have F10 := F8.wipe (vs := vs)
                    rw [hws, wipe_wipe] at I10 F10
                    refine ⟨Hf5, _, _, (s2.trans s3).trans s5, I10, F10, ?_⟩
                    show (match dcL g t ek ed vs (items.drop (i + 1)) (wipeS δ4 vs) acc with
                      | none => False
                      | some (acc', δ2) => _)
                    rw [hoz]
                    exact fun Hf' H2 a b c => g2 Hf' H2 ((s3.trans s5).trans a) b c
                  · cases hoz
              · cases hoz
        · have e : i = items.length := by omega
          subst e
          rw [List.drop_length] at g2
          exact .inl ⟨wk.stop H (s2.trans I2.sub), g2 Hf2 H (Same.refl _) I2 F2⟩
      · exact q.elim
theorem de_dc (hg : GRun X.K gR g vs) (h : PE X e (tDc (rdI X.K X.mg W it) gR (rdT X.K X.mg (wF W) t) (rdE X.K X.mg (wF W) ek) (rdE X.K X.mg (wF W) ed) vs)) : DE X W e (eDc it g t ek ed vs) := h.imp fun σ H Q q => rd_dc hg q
end
end Dn

/-! dicts that are data: k in d, d[k] -/
namespace Dn
open PySem PySem.Spec L2 PyProof.Rows
def getL : List Key → List D → Key → Option D
  | k :: ks, d :: ds, x => if k = x then some d else getL ks ds x
  | _, _, _ => none
theorem getL_some : ∀ {ks : List Key} {ds : List D} {k : Key}, ks.length = ds.length → (getL ks ds k).isSome = ks.any fun y => decide (y = k)
  | [], ds, k, _ => by unfold getL; rfl
  | k1 :: ks, [], k, h => by simp at h
  | k1 :: ks, d :: ds, k, h => by
    unfold getL
    rw [List.any_cons]
    by_cases e : k1 = k
    · rw [if_pos e, decide_eq_true e]; rfl
    · rw [if_neg e, getL_some (by simpa using h), decide_eq_false e, Bool.false_or]
theorem getL_rel {K : PySem.W.Frag} {Hf : Hp} {k : Key} : ∀ {kvs : List (Key × V)} {ks : List Key} {ds : List D}, kvs.map Prod.fst = ks → RelL K Hf ds (kvs.map Prod.snd) →
    (match getL ks ds k with | none => valV kvs k = none | some d => ∃ v, valV kvs k = some v ∧ Rel K Hf d v)
  | [], ks, ds, e, _ => by
    subst e
    unfold getL
    rfl
  | (k1, v1) :: kvs, ks, [], e, r => by
    unfold RelL at r
    cases r
  | (k1, v1) :: kvs, ks, d :: ds, e, r => by
    subst e
    unfold RelL at r
    obtain ⟨x, xs, hx, r1, r2⟩ := r
    simp only [List.map_cons, List.cons.injEq] at hx
    obtain ⟨rfl, rfl⟩ := hx
    have ih := getL_rel (k := k) (kvs := kvs) rfl r2
    simp only [List.map_cons]
    unfold getL
    by_cases h : k1 = k
    · rw [if_pos h]
      exact ⟨v1, valV_pos h, r1⟩
    · rw [if_neg h, valV_neg h]
      exact ih
def inDct (neg : Bool) : D → D → Option OR
  | d, .dct ks ds => match keyD d with
    | some k => some (.v (.bl (neg != (getL ks ds k).isSome)))
    | none => none
  | _, _ => none
def ixDct : D → D → Option OR
  | .dct ks ds, d => match keyD d with
    | some k => (getL ks ds k).map .v
    | none => none
  | _, _ => none
section
variable {X : Cx}
theorem op_din (hu : X.A.units + 64 < cLine) : OpR X (compareOp .In) (fun x y H Q => ∃ a o, y = .ref a ∧ DGet H a x o ∧ Q (.bl o.isSome) H) := fun pins s σ H x y v u Q I rx ry ⟨a, o, ey, g, q⟩ => by
  subst ey
  obtain rfl : u = Value.ref a := ry
  exact d_in (by omega) I g rx fun s3 I3 => ⟨.bl o.isSome, H, I3, rfl, q⟩
theorem op_dnotin (hu : X.A.units + 64 < cLine) : OpR X (compareOp .NotIn) (fun x y H Q => ∃ a o, y = .ref a ∧ DGet H a x o ∧ Q (.bl (!o.isSome)) H) := fun pins s σ H x y v u Q I rx ry ⟨a, o, ey, g, q⟩ => by
  subst ey
  obtain rfl : u = Value.ref a := ry
  exact d_notIn (by omega) I g rx fun s3 I3 => ⟨.bl (!o.isSome), H, I3, rfl, q⟩
theorem din_run {neg : Bool} {Hf H : Hp} {d e : D} {x y : V} {out : OR} {Q : VK} (s : Same Hf H) (rx : RN X.K Hf H d x) (ry : RN X.K Hf H e y) (he : inDct neg d e = some out) (q : OPost X.K Hf H out Q) : ∃ a o, y = .ref a ∧ DGet H a x o ∧ Q (.bl (neg != o.isSome)) H := by
  unfold inDct at he
  split at he
  · rename_i ks ds
    split at he
    · rename_i k hk
      cases he
      have rx' := keyD_rel hk (RN.rel s rx)
      subst rx'
      have ry' : Rel X.K Hf (.dct ks ds) y := ry
      unfold Rel at ry'
      obtain ⟨a, kvs, e1, e2, e3, e4⟩ := ry'
      have g := getL_rel (k := k) e3 e4
      refine ⟨a, valV kvs k, e1, DGet.k (s _ _ e2), ?_⟩
      cases hg : getL ks ds k with
      | none => rw [hg] at g q; rw [g]; exact q _ rfl
      | some d' =>
        rw [hg] at g q
        obtain ⟨w, hw, _⟩ := g
        rw [hw]
        exact q _ rfl
    · cases he
  · cases he
theorem o_din (hu : X.A.units + 64 < cLine) : Op2 X (compareOp .In) (inDct false) := ⟨_, op_din hu, fun Hf H d e x y out Q s rx ry he q => by
  obtain ⟨a, o, e1, g, q⟩ := din_run s rx ry he q
  exact ⟨a, o, e1, g, by simpa using q⟩⟩
theorem o_dnotin (hu : X.A.units + 64 < cLine) : Op2 X (compareOp .NotIn) (inDct true) := ⟨_, op_dnotin hu, fun Hf H d e x y out Q s rx ry he q => by
  obtain ⟨a, o, e1, g, q⟩ := din_run s rx ry he q
  exact ⟨a, o, e1, g, by simpa using q⟩⟩
theorem ix_dict (hu : X.A.units + 64 < cLine) : IxR X (fun x y H Q => ∃ a v, x = .ref a ∧ DGet H a y (some v) ∧ Q v H) := by
  intro value slice pins s σ H x y v u Q I rx ry ⟨a, w, ex, g, q⟩ hs
  subst ex
  obtain rfl : v = Value.ref a := rx
  have hT := dict_typeIs I g
  unfold subscriptTail
  refine wpAny_bind ?_
  rw [getitemInPython_of_ne hT.not_modules]
  refine wpAny_bind (wpAny_specialOf hT PySem.F.slot_dict_getitem.lookup ?_)
  have fin : wpAny (model X.prog X.w) X.A (subscripted slice false (.ref a) u) (fun r s₃ => wpAny (model X.prog X.w) X.A (letTemporaryGo value (.ref a) r >>= fun _ => pure r) (EP X pins σ Q) X.xe s₃) X.xe s := by
    rw [hs]
    exact wpAny_operating (wpAny_mono (d_getItem (by omega) I g ry fun w' s3 I3 rw' => (⟨w, H, I3, rw', q⟩ : EP X pins σ Q w' s3)) (fun r s₃ h₃ => wpAny_bind (wpAny_letTemporaryGo (wpAny_pure h₃))) fun _ _ x => x)
  first
    | exact wpAny_pure (wpAny_bind fin)
    | exact wpAny_bind (wpAny_pure (wpAny_bind fin))
    | exact wpAny_bind fin
theorem o_dix (hu : X.A.units + 64 < cLine) : IxS X ixDct := ⟨_, ix_dict hu, fun Hf H d e x y out Q s rx ry he q => by
  unfold ixDct at he
  split at he
  · rename_i ks ds
    split at he
    · rename_i k hk
      have ry' := keyD_rel hk (RN.rel s ry)
      subst ry'
      have rx' : Rel X.K Hf (.dct ks ds) x := rx
      unfold Rel at rx'
      obtain ⟨a, kvs, e1, e2, e3, e4⟩ := rx'
      have g := getL_rel (k := k) e3 e4
      cases hg : getL ks ds k with
      | none => rw [hg] at he; cases he
      | some d' =>
        rw [hg] at g he
        cases he
        obtain ⟨w, hw, hr⟩ := g
        exact ⟨a, w, e1, by rw [← hw]; exact DGet.k (s _ _ e2), q _ hr⟩
    · cases he
  · cases he⟩
end
section
variable {X : Cx}
theorem ps_setDc {i : Nat} {y : Str} {py : Pos} {kx vx tg iter : Expr} {ifs : List Expr} {scope : Scope} {own : List (Str × Nat)} {pos spos : Pos} {wi : TI} {g : TG} {tt : TT} {tk tv : TE} (hc : X.calm = true) (hN : X.N.Nodup) (hy : X.N[i]? = some y) (hyl : X.env.scope.names.lookup y = some .local)
    (hsw : swapsWith (.DictComp kx vx [⟨tg, iter, ifs, 0⟩] scope pos) (some (.Name y py)) spos.line X.env = pure true) (hi : PI X tg iter wi) (ok : BlkOk X.N X.env.scope scope own)
    (hg : ∀ (s : Shared) (H : Hp) (C : Addr) (cl : List (Str × Addr)) (fp : List Addr), PG (X.blk s H scope (compEnvC scope cl C X.env) fp) tg g) (ht : ∀ (s : Shared) (H : Hp) (C : Addr) (cl : List (Str × Addr)) (fp : List Addr), PTs (X.blk s H scope (compEnvC scope cl C X.env) fp) ifs tt)
    (hk : ∀ (s : Shared) (H : Hp) (C : Addr) (cl : List (Str × Addr)) (fp : List Addr), PE (X.blk s H scope (compEnvC scope cl C X.env) fp) kx tk)
    (he : ∀ (s : Shared) (H : Hp) (C : Addr) (cl : List (Str × Addr)) (fp : List Addr), PE (X.blk s H scope (compEnvC scope cl C X.env) fp) vx tv) (hs : ∀ x, foldedSetIterable iter X.env x = pure x := by intro _; rfl) :
    PS X (.Assign [.Name y py] (.DictComp kx vx [⟨tg, iter, ifs, 0⟩] scope pos) spos) (tAsg (tDc wi g tt tk tv (own.map (·.2))) (gName i)) := by
  refine ⟨fun pins s σ H D I h => ?_⟩
  rw [exec_Assign_Name_used _ _ _ _ hsw]
  refine wpAny_bind (wpAny_standAt (wpAny_bind ?_))
  show wpAny _ X.A (do let _ ← comprehension (.DictComp kx vx [⟨tg, iter, ifs, 0⟩] scope pos) scope X.env (firstIterPos [⟨tg, iter, ifs, 0⟩] pos) newDict false (eval iter X.env) (some (assign (.Name y py) X.env))) _ _ s
  have h : tDc wi g tt tk tv (own.map (·.2)) σ H (fun x H1 => gName i x σ H1 D.nx) := h
  refine wpAny_bind (thn (dc_core (Qf := fun _ s' => SP X pins D .next s') hc hN I hi ok hg ht hk he hs h fun L C s' m H' I' q hn f => ?_) fun _ s' hq => wpAny_pure (wpAny_pure hq))
  show wpAny _ _ (assign (.Name y py) X.env (.ref L)) _ _ _
  refine wpAny_assign_Name (store_ok2 (v := V.ref L) I' hN hy (.inl hyl) rfl (fun s2 I2 ⟨a, sb, ha⟩ => ?_) (.inr hyl))
  obtain ⟨f0, f1, f2, f3, f4, f5⟩ := f
  have haC : C ≠ a := by
    rcases ha with z | z
    · rw [z]; exact f1
    · exact fun e => f4 y a z e.symm
  refine ⟨m, hn.sameBut sb haC, fun h3 sb3 => ?_⟩
  exact ⟨_, H', I2.turned (t' := s2.toks) (fun b o hb e => (sb3.2 b hb).trans e) f0 f1 f3 f4 f5, q⟩
theorem s_setDc {W : WT} {it : ID} {g : GD} {t : TD} {ek ed : ED} {vs : List Nat} {gR : TG} {st : Stmt} {i : Nat} (hg : GRun X.K gR g vs) (h : PS X st (tAsg (tDc (rdI X.K X.mg W it) gR (rdT X.K X.mg (wF W) t) (rdE X.K X.mg (wF W) ek) (rdE X.K X.mg (wF W) ed) vs) (gName i))) : DS X W st (sAsg (gN i) (eDc it g t ek ed vs)) := h.imp fun D σ H ⟨G, Hf, δ, I, q⟩ => by
  refine rd_dc hg ⟨G, Hf, δ, I, (SPost.with q).mono fun v H1 ⟨Hf1, δ1, r, s1, I1, r1, q1⟩ => ?_⟩
  split at q1
  · exact q1.elim
  · rename_i δ2 h2
    obtain ⟨Hf2, s2, I2⟩ := I1.gN r1 h2
    exact q1 Hf2 _ H1 s2 I2
end
end Dn

namespace Dn
open PySem PySem.Spec L2
/-! ## list(range(..)) -/
def rngB (i j : Int) : Bool := decide (-(2 ^ 62) ≤ i) && decide (i < 2 ^ 62) && decide (-(2 ^ 62) ≤ j) && decide (j < 2 ^ 62) && decide ((j - i).toNat ≤ 2 ^ 24)
def rngL2 : D → D → Option OR
  | .int i, .int j => if rngB i j then some (.l (rangeD i (j - i).toNat)) else none
  | _, _ => none
def rngL1 : D → Option OR
  | .int j => if rngB 0 j then some (.l (rangeD 0 (j - 0).toNat)) else none
  | _ => none
theorem rel_rg {K : PySem.W.Frag} {H : Hp} (i j : Int) : RelL K H (rangeD i (j - i).toNat) (rgV i j) := by
  have e : rangeD i (j - i).toNat = ((List.range (j - i).toNat).map fun k => i + (k : Nat)).map D.int := by
    unfold rangeD
    rw [List.map_map]
    rfl
  have e2 : rgV i j = ((List.range (j - i).toNat).map fun k => i + (k : Nat)).map V.int := by
    unfold rgV
    rw [List.map_map]
    rfl
  rw [e, e2]
  exact RelL.of_ints
theorem rn_int {K : PySem.W.Frag} {Hf H : Hp} {i : Int} {x : V} (h : RN K Hf H (.int i) x) : x = .int i := by
  simpa [RN, Rel] using h
theorem rngB_ok {i j : Int} (h : rngB i j = true) : RgOk i j := by
  unfold rngB at h
  simp only [Bool.and_eq_true, decide_eq_true_eq] at h
  exact ⟨h.1.1.1.1, h.1.1.1.2, h.1.1.2, h.1.2, h.2⟩
theorem rngL2_ok {i j : Int} (h : -1000000 ≤ i ∧ i ≤ 1000000) (h2 : -1000000 ≤ j ∧ j ≤ 1000000) : rngL2 (.int i) (.int j) = some (.l (rangeD i (j - i).toNat)) := by
  unfold rngL2
  dsimp only
  rw [if_pos]
  unfold rngB
  simp only [Bool.and_eq_true, decide_eq_true_eq]
  omega
theorem rngL1_ok {j : Int} (h2 : -1000000 ≤ j ∧ j ≤ 1000000) : rngL1 (.int j) = some (.l (rangeD 0 j.toNat)) := by
  unfold rngL1
  dsimp only
  rw [if_pos, Int.sub_zero]
  unfold rngB
  simp only [Bool.and_eq_true, decide_eq_true_eq]
  omega
section
variable {X : Cx} {W : WT} {p p' pos pos' : Pos} {a b : Expr} {ea eb : ED}
theorem de_lrg2 (hc : X.calm = true) (hg : Gl X "list") (hm : X.mg "list" = none) (hg2 : Gl X "range") (hm2 : X.mg "range" = none) (ha : DE X W a ea) (hb : DE X W b eb) (na : starEach [(.Call (.Name "range" p') [a, b] [] pos' : Expr)] X.env = (false, eval (.Call (.Name "range" p') [a, b] [] pos') X.env) :: starEach [] X.env := by rfl)
    (n2 : starEach [a, b] X.env = (false, eval a X.env) :: starEach [b] X.env := by rfl) (nb : starEach [b] X.env = (false, eval b X.env) :: starEach [] X.env := by rfl) (hp : (backTo pos' (starEach [b] X.env)).any (·.1) = false := by rfl) : DE X W (.Call (.Name "list" p) [.Call (.Name "range" p') [a, b] [] pos'] [] pos) (eBin rngL2 ea eb) :=
  (pe_listRg hc hg hm (prg_2 hg2 hm2 ha hb n2 nb hp) na).imp fun σ H Q h => (rd_bin (R := fun x y H Q => ∃ i j, x = .int i ∧ y = .int j ∧ RgOk i j ∧ ∀ q, H q = none → Q (.ref q) (upd H q (.lst (rgV i j)))) (fun Hf H d e x y out Q s rx ry he q => by
    unfold rngL2 at he
    split at he
    · rename_i i j
      split at he
      · rename_i hb
        cases he
        exact ⟨i, j, rn_int rx, rn_int ry, rngB_ok hb, fun l hl => q l _ hl (rel_rg i j)⟩
      · cases he
    · cases he) h)
theorem de_lrg1 (hc : X.calm = true) (hg : Gl X "list") (hm : X.mg "list" = none) (hg2 : Gl X "range") (hm2 : X.mg "range" = none) (ha : DE X W a ea) (na : starEach [(.Call (.Name "range" p') [a] [] pos' : Expr)] X.env = (false, eval (.Call (.Name "range" p') [a] [] pos') X.env) :: starEach [] X.env := by rfl) (n1 : starEach [a] X.env = (false, eval a X.env) :: starEach [] X.env := by rfl) : DE X W (.Call (.Name "list" p) [.Call (.Name "range" p') [a] [] pos'] [] pos) (eUn rngL1 ea) := by
  refine (pe_listRg hc hg hm (prg_1 hg2 hm2 ha n1) na).imp fun σ H Q ⟨G, Hf, δ, I, q⟩ => ?_
  refine ⟨G, Hf, δ, I, q.seq.mono fun x H1 ⟨Hf1, δ1, r, s1, I1, r1, q1⟩ => ?_⟩
  unfold opRs1 at q1
  split at q1
  · rename_i d hd
    split at q1
    · rename_i o ho
      have q2 := OPost.of I1 q1
      have rn := I1.data r1 hd
      unfold rngL1 at ho
      split at ho
      · rename_i j
        split at ho
        · rename_i hb
          cases ho
          exact ⟨j, rn_int rn, rngB_ok hb, fun l hl => q2 l _ hl (rel_rg 0 j)⟩
        · cases ho
      · cases ho
    · exact q1.elim
  · exact q1.elim
end
/-! ## a tuple in a row of things -/
section
variable {X : Cx}
def inP (neg : Bool) : D → D → Option OR := fun d e => match e with
  | .lst ds => if okEq d 60 && okEqL ds 60 then some (.v (.bl (neg != ds.any fun c => eqB c d))) else none
  | .tup ds => if okEq d 60 && okEqL ds 60 then some (.v (.bl (neg != ds.any fun c => eqB c d))) else none
  | _ => none
def rInP (K : PySem.W.Frag) (neg : Bool) : R2 := fun x y H Q => ∃ (d e : PyData) (ds : List PyData), Dp K H x d ∧ Dp K H y e ∧ (e = .list ds ∨ e = .tuple ds) ∧ d.canLay0 = true ∧ PyData.canLayAll0 ds = true ∧ d.depth ≤ 60 ∧ Q (.bl (neg != ds.any fun z => PyData.eqv z d)) H
theorem op_inP (hu : X.A.units + 64 < cLine) : OpR X (compareOp .In) (rInP X.K false) := by
  intro pins s σ H x y v u Q I rx ry h
  obtain ⟨d, e, ds, hd, he, hs, cd, ce, dp, q⟩ := h
  obtain ⟨as, r1⟩ := Dp.reads I d x v hd rx
  obtain ⟨bs, r2⟩ := Dp.reads I e y u he ry
  have hm : X.A.units + 1 + min (PyData.depthAll ds) d.depth < cLine := by
    have := Nat.min_le_right (PyData.depthAll ds) d.depth
    omega
  have eb : (false != ds.any fun z => PyData.eqv z d) = ds.any fun z => PyData.eqv z d := by simp
  rw [eb] at q
  rcases hs with rfl | rfl
  · exact SeqAt.in_list_reads r2 r1 ce cd hm ⟨.bl _, H, I, rfl, q⟩
  · exact SeqAt.in_tuple_reads r2 r1 ce cd hm ⟨.bl _, H, I, rfl, q⟩
theorem op_ninP (hu : X.A.units + 64 < cLine) : OpR X (compareOp .NotIn) (rInP X.K true) := by
  intro pins s σ H x y v u Q I rx ry h
  obtain ⟨d, e, ds, hd, he, hs, cd, ce, dp, q⟩ := h
  obtain ⟨as, r1⟩ := Dp.reads I d x v hd rx
  obtain ⟨bs, r2⟩ := Dp.reads I e y u he ry
  have hm : X.A.units + 1 + min (PyData.depthAll ds) d.depth < cLine := by
    have := Nat.min_le_right (PyData.depthAll ds) d.depth
    omega
  have eb : (true != ds.any fun z => PyData.eqv z d) = !(ds.any fun z => PyData.eqv z d) := by cases (ds.any fun z => PyData.eqv z d) <;> rfl
  rw [eb] at q
  rcases hs with rfl | rfl
  · exact SeqAt.notIn_list_reads r2 r1 ce cd hm ⟨.bl _, H, I, rfl, q⟩
  · exact SeqAt.notIn_tuple_reads r2 r1 ce cd hm ⟨.bl _, H, I, rfl, q⟩
theorem any_py {d : D} {p : PyData} (h : toPy d = some p) : ∀ (ds : List D) (ps : List PyData), toPyL ds = some ps → (ps.any fun z => PyData.eqv z p) = ds.any fun c => eqB c d
  | [], ps, e => by
    simp only [toPyL, Option.some.injEq] at e
    subst e
    rfl
  | c :: ds, ps, e => by
    unfold toPyL at e
    split at e
    · rename_i q qs h1 h2
      cases e
      rw [List.any_cons, List.any_cons, any_py h ds qs h2, eqv_eqB c d q p h1 h]
    · cases e
theorem inP_run {neg : Bool} {Hf H : Hp} {d e : D} {x y : V} {out : OR} {Q : VK} (s : Same Hf H) (rx : RN X.K Hf H d x) (ry : RN X.K Hf H e y) (he : inP neg d e = some out) (q : OPost X.K Hf H out Q) : rInP X.K neg x y H Q := by
  unfold inP at he
  split at he
  · rename_i ds
    split at he
    · rename_i h
      cases he
      rw [Bool.and_eq_true] at h
      obtain ⟨p1, e1, a1, b1⟩ := okEq_py d 60 h.1
      obtain ⟨p2, e2, a2, b2⟩ := okEqL_py ds 60 h.2
      refine ⟨p1, .list p2, p2, rel_dp (RN.rel s rx) e1, rel_dp (RN.rel s ry) (by simp [toPy, e2]), .inl rfl, a1, a2, b1, q _ ?_⟩
      rw [any_py e1 ds p2 e2]
      exact rfl
    · cases he
  · rename_i ds
    split at he
    · rename_i h
      cases he
      rw [Bool.and_eq_true] at h
      obtain ⟨p1, e1, a1, b1⟩ := okEq_py d 60 h.1
      obtain ⟨p2, e2, a2, b2⟩ := okEqL_py ds 60 h.2
      refine ⟨p1, .tuple p2, p2, rel_dp (RN.rel s rx) e1, rel_dp (RN.rel s ry) (by simp [toPy, e2]), .inr rfl, a1, a2, b1, q _ ?_⟩
      rw [any_py e1 ds p2 e2]
      exact rfl
    · cases he
  · cases he
theorem o_inP (hu : X.A.units + 64 < cLine) : Op2 X (compareOp .In) (inP false) := ⟨_, op_inP hu, fun Hf H d e x y out Q s rx ry he q => inP_run s rx ry he q⟩
theorem o_ninP (hu : X.A.units + 64 < cLine) : Op2 X (compareOp .NotIn) (inP true) := ⟨_, op_ninP hu, fun Hf H d e x y out Q s rx ry he q => inP_run s rx ry he q⟩
end
end Dn

namespace Dn
open PySem PySem.Spec L2
open PyProof.Rows (envOfC)

/-! ## x[i] op= e, of a list of one's own -/
def itemOf (δ : List Sl) (j : Nat) (k : Int) : Option D := match δ[j]? with
  | some (.own ds) => atI ds k
  | some (.io ds) => atI ds k
  | _ => none
def sAugIx4 (j : Nat) (k : Int) (o : Option OR) (δ : List Sl) : Option Out := match o with
  | some (.v d) => match putAt j k d δ with
    | some δ' => some (.nx δ')
    | none => none
  | _ => none
def sAugIx3 (sem : D → D → Option OR) (j : Nat) (k : Int) (d : D) (o : Option ER) : Option Out := match o with
  | some (.ok r δ3) => match r.data δ3 with
    | some d2 => sAugIx4 j k (sem d d2) δ3
    | none => none
  | some (.er x δ3) => some (.er x δ3)
  | none => none
def sAugIx2 (sem : D → D → Option OR) (j : Nat) (e : ED) (o : Option ER) : Option Out := match o with
  | some (.ok (.fz (.int k)) δ2) => match itemOf δ2 j k with
    | some d => sAugIx3 sem j k d (e δ2)
    | none => none
  | _ => none
def sAugIx1 (sem : D → D → Option OR) (i e : ED) (o : Option ER) : Option Out := match o with
  | some (.ok (.slot j) δ1) => sAugIx2 sem j e (i δ1)
  | _ => none
def sAugIx (sem : D → D → Option OR) (o i e : ED) : SD := fun δ => sAugIx1 sem i e (o δ)
section
variable {X : Cx} {W : WT}
theorem get_list : PGet X (rIxL X.K) := by
  intro pins s σ H x y v u Q I rx ry h
  obtain ⟨p, xs, i, z, rfl, rfl, hq, he, q⟩ := h
  cases rx
  obtain ⟨t, rfl⟩ := ry
  obtain ⟨its, r, pl, hz⟩ := I.list hq
  obtain ⟨j, h1, h2, h3, h4, h5⟩ := atI_get he
  obtain ⟨w, ew, rw'⟩ := r.get h2
  have hl := r.length
  have hn := line63
  have fin : EP X pins σ Q w s := ⟨z, H, I, rw', q⟩
  by_cases h0 : 0 ≤ i
  · have hj : i.toNat = j := Option.some.inj ((seqIndex_of h0 h5).symm.trans h1)
    exact wpAny_getItem_list pl.isList h0 (by omega) (by rw [hj]; simpa using ew) fin
  · have hj : (i + (its.toArray.size : Int)).toNat = j := by
      have := seqIndex_neg (n := xs.length) (k := i) (by omega) (by omega)
      rw [this] at h1
      have e : its.toArray.size = xs.length := by simp [hl]
      rw [e]
      exact Option.some.inj h1
    exact wpAny_getItem_list_neg pl.isList (by omega) (by simp; omega) (by omega) (by rw [hj]; simpa using ew) fin
theorem s_augIx {o i e : Expr} {eo ei ed : ED} {op : Operator} {sem : D → D → Option OR} {tpos pos : Pos} (hop : Op2 X (inplaceOp op) sem) (ho : DE X W o eo) (hi : DE X W i ei) (he : DE X W e ed)
    (ha : ∀ ov iv new, augStore i ov iv new = (do holding [new, ov, iv] (setItem ov iv new); release [new, ov, iv] []; pure .next) := by intros; rfl) : DS X W (.AugAssign (.Subscript o i tpos) op e pos) (sAugIx sem eo ei ed) := by
  obtain ⟨R, hr, hs⟩ := hop
  refine (ps_augS ho hi get_list he hr set_list ha).imp fun En σ H ⟨G, Hf, δ, I, q⟩ => ?_
  refine ⟨G, Hf, δ, I, ?_⟩
  unfold sAugIx sAugIx1 at q
  split at q
  · rename_i j δ1 h1
    rw [h1]
    intro Hf1 H1 ov s1 I1 hv
    have hv : σ[j]? = some (some ov) := hv
    refine ⟨G, Hf1, δ1, I1, ?_⟩
    unfold sAugIx2 at q
    split at q
    · rename_i k δ2 h2
      rw [h2]
      intro Hf2 H2 iv s2 I2 riv
      cases riv
      split at q
      · rename_i d hd
        have hit : ∃ p xs x, ov = .ref p ∧ H2 p = some (.lst xs) ∧ atI xs k = some x ∧ Rel X.K Hf2 d x := by
          unfold itemOf at hd
          have go : ∀ (s : Sl) (ds : List D), δ2[j]? = some s → (s = .own ds ∨ s = .io ds) → atI ds k = some d → ∃ p xs x, ov = .ref p ∧ H2 p = some (.lst xs) ∧ atI xs k = some x ∧ Rel X.K Hf2 d x := fun s ds hs hk ha => by
            have hown : s.isOwn = true := by rcases hk with rfl | rfl <;> rfl
            obtain ⟨p, vs, ds', e1, h1, h2, h3, h4⟩ := I2.own_some hs hown
            rw [hv] at e1
            cases e1
            have hds : ds' = ds := by
              rcases h4 with ⟨z, _⟩ | ⟨z, _⟩ <;> rcases hk with y | y <;> rw [y] at z <;> cases z <;> rfl
            subst hds
            unfold atI at ha
            cases hx : ixN ds'.length k with
            | none => rw [hx] at ha; cases ha
            | some m =>
              rw [hx] at ha
              obtain ⟨x, hx1, hx2⟩ := h2.get ha
              exact ⟨p, vs, x, rfl, h1, by unfold atI; rw [h2.length, hx]; exact hx1, hx2⟩
          split at hd
          · rename_i ds hs; exact go _ ds hs (.inl rfl) hd
          · rename_i ds hs; exact go _ ds hs (.inr rfl) hd
          · cases hd
        obtain ⟨p, xs, x, rfl, k1, k2, k3⟩ := hit
        refine ⟨p, xs, k, x, rfl, rfl, SqL.of k1, k2, G, Hf2, δ2, I2, ?_⟩
        revert q
        cases ed δ2 with
        | none => exact fun q => q.elim
        | some o3 =>
          cases o3 with
          | er y δ3 => exact fun q Hf' H' cls dd a b c => q Hf' σ H' cls dd (s1.trans (s2.trans a)) b c
          | ok r δ3 =>
            intro q Hf3 H3 v3 s3 I3 r3
            dsimp only [sAugIx3] at q
            split at q
            · rename_i d2 hd2
              unfold sAugIx4 at q
              split at q
              · rename_i d4 h4
                split at q
                · rename_i δ' h5
                  refine hs Hf3 H3 d d2 x v3 _ _ I3.sub (RN.of I3.sub (Rel.mono s3 k3)) (I3.data r3 hd2) h4 fun v4 r4 => ?_
                  obtain ⟨p', xs', m, e1, e2, e3, I4⟩ := I3.putAt hv r4 h5
                  cases e1
                  exact ⟨p, xs', k, m, rfl, rfl, e2, e3, q Hf3 σ _ (s1.trans (s2.trans s3)) I4⟩
                · exact q.elim
              · exact q.elim
            · exact q.elim
      · exact q.elim
    · exact q.elim
  · exact q.elim

/-! ## methods of lists, by values -/
def MethS (X : Cx) (id : String) (sem : D → List D → Option OR) : Prop := ∃ r : V → List V → Hp → VK → Prop, MtR X id r ∧
  ∀ (Hf H : Hp) (d : D) (ds : List D) (x : V) (xs : List V) (out : OR) (Q : VK), Same Hf H → RN X.K Hf H d x → RNL X.K Hf H ds xs → sem d ds = some out → OPost X.K Hf H out Q → r x xs H Q
def eMeth3 (sem : D → List D → Option OR) (r : Rs) (rs : List Rs) (δ : List Sl) : Option ER := match r.data δ, dataL δ rs with
  | some d, some ds => match sem d ds with
    | some o => some (.ok o.rs δ)
    | none => none
  | _, _ => none
def eMeth2 (sem : D → List D → Option OR) (r : Rs) (o : Option AR) : Option ER := match o with
  | none => none
  | some (.er x δ2) => some (.er x δ2)
  | some (.ok rs δ2) => eMeth3 sem r rs δ2
/-- the receiver is a list -/
def isLstD : Option D → Bool
  | some (.lst _) => true
  | _ => false
def eMeth1 (sem : D → List D → Option OR) (a : AD) (r : Rs) (δ : List Sl) : Option ER := if isLstD (r.data δ) then eMeth2 sem r (a δ) else none
def eMeth (sem : D → List D → Option OR) (e : ED) (a : AD) : ED := fun δ => ER.bind (e δ) (eMeth1 sem a)
section
variable {X : Cx} {W : WT} {ad : AD}
theorem RNL.up {K : PySem.W.Frag} {Hf H : Hp} : ∀ {ds : List D} {xs : List V}, RNL K Hf H ds xs → True := fun _ => trivial
theorem de_meth {e : Expr} {ed : ED} {id : String} {sem : D → List D → Option OR} (hm : MethS X id sem) (h : ∀ r, MtR X id r → PE X e (tBM X.K "list" r (rdE X.K X.mg W ed) (rdA X.K X.mg W ad))) : DE X W e (eMeth sem ed ad) := by
  obtain ⟨r, hr, hs⟩ := hm
  refine (h r hr).imp fun σ H Q ⟨G, Hf, δ, I, q⟩ => ?_
  refine ⟨G, Hf, δ, I, q.seq.mono fun x H1 ⟨Hf1, δ1, r1, s1, I1, k1, q1⟩ => ?_⟩
  unfold eMeth1 at q1
  split at q1
  · rename_i hl
    have hd : ∃ ds, r1.data δ1 = some (.lst ds) := by
      unfold isLstD at hl
      split at hl
      · rename_i ds hd; exact ⟨ds, hd⟩
      · cases hl
    obtain ⟨ds, hd⟩ := hd
    obtain ⟨p, vs, rfl, h1, h2⟩ := I1.data k1 hd
    refine ⟨.inl ⟨rfl, vs, SqL.of h1⟩, ?_⟩
    obtain ⟨G', I', back⟩ := I1.pend (PL.one k1)
    refine ⟨G', Hf1, δ1, I', ?_⟩
    unfold eMeth2 at q1
    revert q1
    cases ad δ1 with
    | none => exact fun q => q.elim
    | some o =>
      cases o with
      | er y δ2 =>
        intro q Hf' H' cls d a b c
        exact q Hf' H' cls d a (back Hf' H' δ2 a b).1 c
      | ok rs δ2 =>
        intro q Hf2 H2 xs s2 I2 hlen pl
        obtain ⟨I3, l3, rr⟩ := back Hf2 H2 δ2 s2 I2
        dsimp only at q
        unfold eMeth3 at q
        split at q
        · rename_i d es hd2 hds
          split at q
          · rename_i o2 ho2
            refine hs Hf2 H2 d es (.ref p) xs o2 Q I3.sub (I3.data (l3.all (.ref p, r1) (by simp)) hd2) (I2.dataL hlen pl hds) ho2 (OPost.of I3 (q.up s2))
          · exact q.elim
        · exact q.elim
  · exact q1.elim
end
end

/-! ## count, index: flat data -/
def countD : D → List D → Option OR
  | .lst ds, [e] => if flatD e && ds.all flatD then some (.v (.int ((ds.countP fun d => eqB d e : Nat)))) else none
  | _, _ => none
def firstIx (e : D) : List D → Nat → Option Nat
  | [], _ => none
  | d :: ds, i => if eqB d e then some i else firstIx e ds (i + 1)
def indexD : D → List D → Option OR
  | .lst ds, [e] => if flatD e && ds.all flatD then (firstIx e ds 0).map fun i => .v (.int (i : Nat)) else none
  | _, _ => none
theorem relL_flat {K : PySem.W.Frag} {H : Hp} : ∀ {ds : List D} {xs : List V}, RelL K H ds xs → ds.all flatD = true → xs.all flatV = true
  | [], xs, h, _ => by unfold RelL at h; subst h; rfl
  | d :: ds, xs, h, f => by
    unfold RelL at h
    obtain ⟨x, r, rfl, h1, h2⟩ := h
    rw [List.all_cons, Bool.and_eq_true] at f
    rw [List.all_cons, flat_rel (Hf := H) h1 f.1, relL_flat h2 f.2]
    rfl
theorem relL_count {K : PySem.W.Frag} {H : Hp} {e : D} {y : V} (r : Rel K H e y) (fe : flatD e = true) : ∀ {ds : List D} {xs : List V}, RelL K H ds xs → ds.all flatD = true → xs.countP (fun x => eqV x y) = ds.countP (fun d => eqB d e)
  | [], xs, h, _ => by unfold RelL at h; subst h; rfl
  | d :: ds, xs, h, f => by
    unfold RelL at h
    obtain ⟨x, t, rfl, h1, h2⟩ := h
    rw [List.all_cons, Bool.and_eq_true] at f
    rw [List.countP_cons, List.countP_cons, relL_count r fe h2 f.2, flat_eq h1 f.1 r fe]
theorem firstIx_spec {e : D} : ∀ {ds : List D} {i j : Nat}, firstIx e ds i = some j → i ≤ j ∧ (∃ d, ds[j - i]? = some d ∧ eqB d e = true) ∧ ∀ m d, m < j - i → ds[m]? = some d → eqB d e = false
  | [], i, j, h => by cases h
  | d :: ds, i, j, h => by
    unfold firstIx at h
    split at h
    · rename_i hd
      cases h
      exact ⟨Nat.le_refl _, ⟨d, by simp, hd⟩, fun m d' hm _ => by omega⟩
    · rename_i hd
      obtain ⟨h1, ⟨d', h2, h3⟩, h4⟩ := firstIx_spec h
      refine ⟨by omega, ⟨d', ?_, h3⟩, fun m d'' hm hx => ?_⟩
      · rw [show j - i = (j - (i + 1)) + 1 by omega, List.getElem?_cons_succ]; exact h2
      · cases m with
        | zero => rw [List.getElem?_cons_zero] at hx; cases hx; simpa using hd
        | succ m => rw [List.getElem?_cons_succ] at hx; exact h4 m d'' (by omega) hx
def rCntF (K : PySem.W.Frag) : V → List V → Hp → VK → Prop := fun x xs H Q => ∃ (a : Addr) (ys : List V) (y : V), x = V.ref a ∧ xs = [y] ∧ SqL K H a ys ∧ flatV y = true ∧ ys.all flatV = true ∧ Q (.int ((ys.countP fun z => eqV z y : Nat))) H
section
variable {X : Cx} {W : WT}
theorem count_vals {y : V} : ∀ {ys : List V} {us : List Value}, Vals ys us → ys.all flatV = true → us.countP (eqU y) = ys.countP (fun z => eqV z y)
  | _, _, .nil, _ => rfl
  | z :: ys, u :: us, .cons r t, f => by
    rw [List.all_cons, Bool.and_eq_true] at f
    rw [List.countP_cons, List.countP_cons, count_vals t f.2, eqU_of r f.1]
theorem mt_cntF : MtR X "list.count" (rCntF X.K) := by
  intro pins s σ H x xs v us Q I rx rxs h
  obtain ⟨a, ys, y, rfl, rfl, hs, fy, fys, q⟩ := h
  cases rx
  obtain ⟨u, rfl, ru⟩ := rxs.one
  obtain ⟨its, rv, ⟨⟨cls, dd, data, sl⟩, n, ho, hc, hdn, hd⟩, hlen⟩ := I.list hs
  simp only at hc hd
  subst hc hd
  refine call_meets PySem.F.slot_list_count ⟨_, ho, rfl⟩ PySem.F.entry_list_count (PySem.F.args_list_count_2 _ _)
    (SeqAt.list_countAt a its.toArray n dd sl u (eqU y)) ⟨ho, fun u' hu' => mem_eqAt ru fy rv fys u' (by simpa using hu'), ?_⟩
  refine ⟨.int ((ys.countP fun z => eqV z y : Nat)), H, I.tok _, ⟨s.toks, ?_⟩, q⟩
  rw [show its.toArray.toList = its by simp, count_vals rv fys]
theorem m_count : MethS X "list.count" countD := ⟨_, mt_cntF, fun Hf H d ds x xs out Q s rx rs he q => by
  unfold countD at he
  split at he
  · rename_i es e
    split at he
    · rename_i hf
      cases he
      rw [Bool.and_eq_true] at hf
      obtain ⟨a, ys, rfl, h1, h2⟩ := rx
      obtain ⟨y, rfl, hy⟩ := RNL.one rs
      have hy := RN.rel s hy
      have h2' := RelL.mono s h2
      refine ⟨a, ys, y, rfl, rfl, SqL.of h1, flat_rel (Hf := H) hy hf.1, relL_flat h2 hf.2, ?_⟩
      rw [relL_count hy hf.1 h2' hf.2]
      exact q _ rfl
    · cases he
  · cases he⟩
theorem m_index : MethS X "list.index" indexD := ⟨_, mt_index, fun Hf H d ds x xs out Q s rx rs he q => by
  unfold indexD at he
  split at he
  · rename_i es e
    split at he
    · rename_i hf
      rw [Bool.and_eq_true] at hf
      cases hj : firstIx e es 0 with
      | none => rw [hj] at he; cases he
      | some j =>
        rw [hj] at he
        cases he
        obtain ⟨a, ys, rfl, h1, h2⟩ := rx
        obtain ⟨y, rfl, hy⟩ := RNL.one rs
        have hy := RN.rel s hy
        have h2' := RelL.mono s h2
        obtain ⟨_, ⟨d, e1, e2⟩, e3⟩ := firstIx_spec hj
        rw [Nat.sub_zero] at e1 e3
        obtain ⟨z, z1, z2⟩ := h2'.get e1
        have fa : ∀ {d : D}, d ∈ es → flatD d = true := fun hd => List.all_eq_true.mp hf.2 _ hd
        refine ⟨a, ys, y, j, z, rfl, rfl, SqL.of h1, flat_rel (Hf := H) hy hf.1, relL_flat h2 hf.2, z1, ?_, fun m z' hm hz' => ?_, q _ rfl⟩
        · rw [flat_eq z2 (fa (List.mem_of_getElem? e1)) hy hf.1]; exact e2
        · have hl := h2'.length
          have hm' : m < es.length := by
            have := (List.getElem?_eq_some_iff.mp hz').1
            omega
          obtain ⟨z2', w1, w2⟩ := h2'.get (List.getElem?_eq_getElem hm')
          rw [hz'] at w1
          cases w1
          rw [flat_eq w2 (fa (List.getElem_mem hm')) hy hf.1]
          exact e3 m _ hm (List.getElem?_eq_getElem hm')
    · cases he
  · cases he⟩

/-! ## max of three, of a list; sorted of ints -/
def max3D : List D → Option OR
  | [.int i, .int j, .int k] => some (.v (.int (max (max i j) k)))
  | _ => none
def lmax : List Int → Int
  | [] => 0
  | [a] => a
  | a :: l => max a (lmax l)
def lmin : List Int → Int
  | [] => 0
  | [a] => a
  | a :: l => min a (lmin l)
theorem lmax_mem : ∀ {l : List Int}, l ≠ [] → lmax l ∈ l ∧ ∀ y ∈ l, y ≤ lmax l
  | [], h => absurd rfl h
  | [a], _ => by simp [lmax]
  | a :: b :: l, _ => by
    obtain ⟨h1, h2⟩ := lmax_mem (l := b :: l) (by simp)
    show max a (lmax (b :: l)) ∈ _ ∧ ∀ y ∈ a :: b :: l, y ≤ max a (lmax (b :: l))
    generalize lmax (b :: l) = m at h1 h2
    refine ⟨?_, fun y hy => ?_⟩
    · by_cases h : a ≤ m
      · rw [Int.max_eq_right h]; exact List.mem_cons_of_mem _ h1
      · rw [Int.max_eq_left (by omega)]; exact List.mem_cons_self
    · rcases List.mem_cons.mp hy with rfl | hy
      · omega
      · have := h2 y hy; omega
theorem lmin_mem : ∀ {l : List Int}, l ≠ [] → lmin l ∈ l ∧ ∀ y ∈ l, lmin l ≤ y
  | [], h => absurd rfl h
  | [a], _ => by simp [lmin]
  | a :: b :: l, _ => by
    obtain ⟨h1, h2⟩ := lmin_mem (l := b :: l) (by simp)
    show min a (lmin (b :: l)) ∈ _ ∧ ∀ y ∈ a :: b :: l, min a (lmin (b :: l)) ≤ y
    generalize lmin (b :: l) = m at h1 h2
    refine ⟨?_, fun y hy => ?_⟩
    · by_cases h : m ≤ a
      · rw [Int.min_eq_right h]; exact List.mem_cons_of_mem _ h1
      · rw [Int.min_eq_left (by omega)]; exact List.mem_cons_self
    · rcases List.mem_cons.mp hy with rfl | hy
      · omega
      · have := h2 y hy; omega
def maxLD : List D → Option OR
  | [.lst ds] => match asInts ds with
    | some (n :: ns) => some (.v (.int (lmax (n :: ns))))
    | _ => none
  | _ => none
def minLD : List D → Option OR
  | [.lst ds] => match asInts ds with
    | some (n :: ns) => some (.v (.int (lmin (n :: ns))))
    | _ => none
  | _ => none
theorem nu3 {i j k : Int} : nuMax3 (.int i) (.int j) (.int k) = some (.int (max (max i j) k)) := by
  have n2 : ∀ a b : Int, nuMax2 (.int a) (.int b) = some (.int (max a b)) := fun a b => by
    have e : nuMax2 (.int a) (.int b) = some (if decide (a < b) = true then V.int b else V.int a) := rfl
    rw [e]
    by_cases h : a < b
    · rw [if_pos (decide_eq_true h), Int.max_eq_right (by omega)]
    · rw [if_neg (by rw [decide_eq_false h]; exact Bool.false_ne_true), Int.max_eq_left (by omega)]
  unfold nuMax3
  rw [n2]
  exact n2 _ _
theorem c_max3 (hc : X.calm = true) : CallS X (.builtin "max") max3D := ⟨_, call_max3Nu hc, fun Hf H ds xs out Q s r he q => by
  unfold max3D at he
  split at he
  · rename_i i j k
    cases he
    unfold RNL at r
    obtain ⟨x, r1, rfl, h1, r⟩ := r
    obtain ⟨y, z, rfl, h2, h3⟩ := RNL.two r
    cases h1; cases h2; cases h3
    exact ⟨_, _, _, _, rfl, nu3, q _ rfl⟩
  · cases he⟩
theorem c_maxL (hc : X.calm = true) : CallS X (.builtin "max") maxLD := ⟨_, cr_max hc, fun Hf H ds xs out Q s r he q => by
  unfold maxLD at he
  split at he
  · rename_i es
    split at he
    · rename_i n ns z
      cases he
      obtain ⟨x, rfl, h⟩ := RNL.one r
      obtain ⟨a, xs, rfl, h1, h2⟩ := h
      rw [asInts_eq z] at h2
      rw [RelL.ints h2] at h1
      refine ⟨a, n :: ns, rfl, SqL.of h1, by simp, fun m hm hle => ?_⟩
      obtain ⟨k1, k2⟩ := lmax_mem (l := n :: ns) (by simp)
      have : m = lmax (n :: ns) := by have := hle _ k1; have := k2 m hm; omega
      exact q _ (by rw [this]; rfl)
    · cases he
  · cases he⟩
theorem c_minL (hc : X.calm = true) : CallS X (.builtin "min") minLD := ⟨_, cr_min hc, fun Hf H ds xs out Q s r he q => by
  unfold minLD at he
  split at he
  · rename_i es
    split at he
    · rename_i n ns z
      cases he
      obtain ⟨x, rfl, h⟩ := RNL.one r
      obtain ⟨a, xs, rfl, h1, h2⟩ := h
      rw [asInts_eq z] at h2
      rw [RelL.ints h2] at h1
      refine ⟨a, n :: ns, rfl, SqL.of h1, by simp, fun m hm hle => ?_⟩
      obtain ⟨k1, k2⟩ := lmin_mem (l := n :: ns) (by simp)
      have : m = lmin (n :: ns) := by have := hle _ k1; have := k2 m hm; omega
      exact q _ (by rw [this]; rfl)
    · cases he
  · cases he⟩
def sortI (ns : List Int) : List Int := ns.mergeSort fun a b => decide (a ≤ b)
theorem sortI_perm (ns : List Int) : (sortI ns).Perm ns := List.mergeSort_perm _ _
theorem sortI_pw (ns : List Int) : (sortI ns).Pairwise (· ≤ ·) := by
  have := List.pairwise_mergeSort (le := fun a b : Int => decide (a ≤ b)) (fun a b c h1 h2 => by simp at *; omega) (fun a b => by simp; omega) ns
  exact this.imp (fun h => by simpa using h)
theorem sortI_of {ns ms : List Int} (h : ms.Perm ns) (p : ms.Pairwise (· ≤ ·)) : ms = sortI ns :=
  List.Perm.eq_of_pairwise (fun a b _ _ h1 h2 => Int.le_antisymm h1 h2) p (sortI_pw ns) (h.trans (sortI_perm ns).symm)
def keyInts : List Key → Option (List Int)
  | [] => some []
  | .inl i :: ks => (keyInts ks).map (i :: ·)
  | _ => none
theorem keyInts_eq : ∀ {ks : List Key} {ns : List Int}, keyInts ks = some ns → ks = ns.map Sum.inl
  | [], ns, h => by
    cases h
    rfl
  | .inl i :: ks, ns, h => by
    unfold keyInts at h
    cases z : keyInts ks with
    | none => rw [z] at h; cases h
    | some ms =>
      rw [z] at h
      cases h
      rw [keyInts_eq z]
      rfl
  | .inr _ :: _, ns, h => by cases h
def sortedL : List D → Option OR
  | [.lst ds] => (asInts ds).map fun ns => .l ((sortI ns).map D.int)
  | _ => none
theorem c_sortedL : CallS X (.builtin "sorted") sortedL := ⟨_, cr_sortedI, fun Hf H ds xs out Q s r he q => by
  unfold sortedL at he
  split at he
  · rename_i es
    cases z : asInts es with
    | none => rw [z] at he; cases he
    | some ns =>
      rw [z] at he
      cases he
      obtain ⟨x, rfl, h⟩ := RNL.one r
      obtain ⟨a, xs, rfl, h1, h2⟩ := h
      rw [asInts_eq z] at h2
      rw [RelL.ints h2] at h1
      refine ⟨a, ns, rfl, SqL.of h1, fun ns' p hp hw hn => ?_⟩
      rw [sortI_of hp hw]
      exact q p _ hn RelL.of_ints
  · cases he⟩
def sortedK : List D → Option OR
  | [.dct ks _] => (keyInts ks).map fun ns => .l ((sortI ns).map D.int)
  | _ => none
theorem c_sortedK (hc : X.calm = true) : CallS X (.builtin "sorted") sortedK := ⟨_, cr_srtK hc, fun Hf H ds xs out Q s r he q => by
  unfold sortedK at he
  split at he
  · rename_i ks es
    cases z : keyInts ks with
    | none => rw [z] at he; cases he
    | some ns =>
      rw [z] at he
      cases he
      obtain ⟨x, rfl, h⟩ := RNL.one r
      obtain ⟨a, kvs, rfl, h1, h2, h3⟩ := h
      refine ⟨a, kvs, ns, rfl, .inl (s _ _ h1), by rw [← keyInts_eq z]; exact h2, fun ns' p hp hw hn => ?_⟩
      rw [sortI_of hp hw]
      exact q p _ hn RelL.of_ints
  · cases he⟩
/-! ## sorted of pairs of ints -/
def pD (p : Int × Int) : D := .tup [.int p.1, .int p.2]
def asPairs : List D → Option (List (Int × Int))
  | [] => some []
  | .tup [.int i, .int j] :: ds => (asPairs ds).map ((i, j) :: ·)
  | _ => none
theorem asPairs_eq : ∀ {ds : List D} {ps : List (Int × Int)}, asPairs ds = some ps → ds = ps.map pD
  | [], ps, h => by cases h; rfl
  | d :: ds, ps, h => by
    unfold asPairs at h
    split at h
    · rename_i e; cases e
    · rename_i i j ds' e
      cases e
      cases z : asPairs ds with
      | none => rw [z] at h; cases h
      | some qs =>
        rw [z] at h
        cases h
        rw [asPairs_eq z]
        rfl
    · cases h
theorem asPairs_map (ps : List (Int × Int)) : asPairs (ps.map pD) = some ps := by
  induction ps with
  | nil => rfl
  | cons p ps ih =>
    rw [List.map_cons]
    show (asPairs (ps.map pD)).map _ = _
    rw [ih]
    rfl
def leP (p q : Int × Int) : Bool := decide (p.1 < q.1 ∨ (p.1 = q.1 ∧ p.2 ≤ q.2))
def sortP (ps : List (Int × Int)) : List (Int × Int) := ps.mergeSort leP
theorem sortP_perm (ps : List (Int × Int)) : (sortP ps).Perm ps := List.mergeSort_perm _ _
theorem sortP_pw (ps : List (Int × Int)) : (sortP ps).Pairwise (fun p q => leP p q = true) :=
  List.pairwise_mergeSort (le := leP) (fun a b c h1 h2 => by unfold leP at *; simp at *; omega) (fun a b => by unfold leP; simp; omega) ps
theorem sortP_of {ns ms : List (Int × Int)} (h : ms.Perm ns) (p : ms.Pairwise (fun p q => leP p q = true)) : ms = sortP ns :=
  List.Perm.eq_of_pairwise (fun a b _ _ h1 h2 => by
    unfold leP at h1 h2
    simp at h1 h2
    exact Prod.ext (by omega) (by omega)) p (sortP_pw ns) (h.trans (sortP_perm ns).symm)
def rSortedQ (K : PySem.W.Frag) : List V → Hp → VK → Prop := fun vs H Q => ∃ (a : Addr) (xs : List V), vs = [V.ref a] ∧ SqL K H a xs ∧ (∀ x ∈ xs, ∃ t i j, x = V.ref t ∧ SqT K H t [.int i, .int j]) ∧
  ∀ (k : V → Int × Int) (ys : List V) (p : Addr), (∀ x ∈ xs, ∀ t i j, x = V.ref t → SqT K H t [.int i, .int j] → k x = (i, j)) → SrtO.Srtd (ltP k) ys → ys.Perm xs → H p = none → Q (.ref p) (upd H p (.lst ys))
open Classical in
theorem cr_sortedQ : CallR X (.builtin "sorted") (rSortedQ X.K) := by
  intro pins s σ H vs us Q I r h
  obtain ⟨a, xs, rfl, hs, hx, q⟩ := h
  obtain ⟨its, rv, hl, hz⟩ := I.list hs
  obtain ⟨u, rfl, ru⟩ := vals1 r
  obtain rfl : u = Value.ref a := ru
  obtain ⟨e1, e2⟩ := refs_back rv fun x m => by
    obtain ⟨t, _, _, e, _⟩ := hx x m
    exact ⟨t, e⟩
  let k : V → Int × Int := fun x => if h : ∃ p : Int × Int, ∃ t, x = V.ref t ∧ SqT X.K H t [.int p.1, .int p.2] then h.choose else (0, 0)
  have hk : ∀ x ∈ xs, ∀ t i j, x = V.ref t → SqT X.K H t [.int i, .int j] → k x = (i, j) := fun x _ t i j e h => by
    have ex : ∃ p : Int × Int, ∃ t, x = V.ref t ∧ SqT X.K H t [.int p.1, .int p.2] := ⟨(i, j), t, e, h⟩
    have ek : k x = ex.choose := dif_pos ex
    obtain ⟨t', e', h'⟩ := ex.choose_spec
    rw [e] at e'
    cases e'
    have := I.tuple_inj h h'
    simp only [List.cons.injEq, V.int.injEq, and_true] at this
    rw [ek]
    exact Prod.ext this.1.symm this.2.symm
  refine SrtO.sorted_pairsO (k := fun u => k (backV u)) hl.isList (by rw [← rv.length]; exact hz) (fun v hv => ?_) fun h' d out h1 h2 kp hd hn => ?_
  · obtain ⟨t, rfl⟩ := e2 v hv
    have hm : V.ref t ∈ xs := by rw [e1]; exact List.mem_map.mpr ⟨_, hv, rfl⟩
    obtain ⟨t', i, j, e, ht⟩ := hx _ hm
    cases e
    have ek := hk _ hm t i j rfl ht
    obtain ⟨its2, r2, ⟨o, ho, hc, n, hd⟩, _⟩ := I.tuple ht
    obtain ⟨u1, u2, rfl, ri, rj⟩ := vals2 r2
    obtain ⟨t1, rfl⟩ := ri
    obtain ⟨t2, rfl⟩ := rj
    show Srt.IsPair s.heap (Value.ref t) (k (V.ref t)).1 (k (V.ref t)).2
    rw [ek]
    exact ⟨t, o, t1, t2, n, rfl, ho, hc, hd⟩
  · have h3 : ∀ u ∈ out, ∃ a, u = Value.ref a := fun u hu => e2 u (h2.perm.mem_iff.mp hu)
    obtain ⟨n, hn⟩ := hn
    have hb : (out.map backV).Perm xs := by
      rw [e1]
      exact h2.perm.map backV
    refine ⟨.ref d, upd H d (.lst (out.map backV)), I.laid (t' := s.toks) kp hd ⟨?_, out, n, vals_back h3, hn⟩, rfl, q k _ d hk (SrtO.srtd_map h1) hb (I.hok.fresh hd)⟩
    rw [hb.length_eq]
    exact hz
def sortedP : List D → Option OR
  | [.lst ds] => (asPairs ds).map fun ps => .l ((sortP ps).map pD)
  | _ => none
theorem RelL.pairs {K : PySem.W.Frag} {H : Hp} : ∀ {ps : List (Int × Int)} {xs : List V}, RelL K H (ps.map pD) xs → ∀ x ∈ xs, ∃ t i j, x = V.ref t ∧ SqT K H t [.int i, .int j]
  | [], xs, h => by
    have : xs = [] := by simpa [RelL] using h
    subst this
    intro x hx
    cases hx
  | p :: ps, xs, h => by
    rw [List.map_cons] at h
    unfold RelL at h
    obtain ⟨x, r, rfl, h1, h2⟩ := h
    intro y hy
    rcases List.mem_cons.mp hy with rfl | hy
    · obtain ⟨t, zs, e, q1, q2⟩ := (show ∃ a ys, y = .ref a ∧ SqT K H a ys ∧ RelL K H [.int p.1, .int p.2] ys by simpa [pD, Rel] using h1)
      have := RelL.ints (ns := [p.1, p.2]) q2
      subst this
      exact ⟨t, _, _, e, q1⟩
    · exact RelL.pairs h2 y hy
theorem RelL.keyed {K : PySem.W.Frag} {H : Hp} {k : V → Int × Int} : ∀ {ps : List (Int × Int)} {xs : List V}, RelL K H (ps.map pD) xs → (∀ x ∈ xs, ∀ t i j, x = V.ref t → SqT K H t [.int i, .int j] → k x = (i, j)) → xs.map k = ps
  | [], xs, h, _ => by
    have : xs = [] := by simpa [RelL] using h
    subst this
    rfl
  | p :: ps, xs, h, hk => by
    rw [List.map_cons] at h
    unfold RelL at h
    obtain ⟨x, r, rfl, h1, h2⟩ := h
    rw [List.map_cons, RelL.keyed h2 fun y hy => hk y (List.mem_cons_of_mem _ hy)]
    obtain ⟨t, zs, e, q1, q2⟩ := (show ∃ a ys, x = .ref a ∧ SqT K H a ys ∧ RelL K H [.int p.1, .int p.2] ys by simpa [pD, Rel] using h1)
    have := RelL.ints (ns := [p.1, p.2]) q2
    subst this
    rw [hk x List.mem_cons_self t p.1 p.2 e q1]
theorem RelL.of_pairs {K : PySem.W.Frag} {H : Hp} {k : V → Int × Int} : ∀ {ys : List V}, (∀ y ∈ ys, ∃ t, y = V.ref t ∧ SqT K H t [.int (k y).1, .int (k y).2]) → RelL K H ((ys.map k).map pD) ys
  | [], _ => RelL.nil
  | y :: ys, h => by
    obtain ⟨t, e, q⟩ := h y List.mem_cons_self
    refine RelL.cons ?_ (RelL.of_pairs fun z hz => h z (List.mem_cons_of_mem _ hz))
    show Rel K H (.tup [.int (k y).1, .int (k y).2]) y
    unfold Rel
    exact ⟨t, _, e, q, RelL.of_ints (ns := [(k y).1, (k y).2])⟩
theorem c_sortedP : CallS X (.builtin "sorted") sortedP := ⟨_, cr_sortedQ, fun Hf H ds xs out Q s r he q => by
  unfold sortedP at he
  split at he
  · rename_i es
    cases z : asPairs es with
    | none => rw [z] at he; cases he
    | some ps =>
      rw [z] at he
      cases he
      obtain ⟨x, rfl, h⟩ := RNL.one r
      obtain ⟨a, xs, rfl, h1, h2⟩ := h
      rw [asPairs_eq z] at h2
      have h3 := RelL.pairs h2
      refine ⟨a, xs, rfl, SqL.of h1, fun x hx => ?_, fun k ys p hk hs hp hn => ?_⟩
      · obtain ⟨t, i, j, e, hq⟩ := h3 x hx
        exact ⟨t, i, j, e, Same.sqt s hq⟩
      · have hk' : ∀ x ∈ xs, ∀ t i j, x = V.ref t → SqT X.K Hf t [.int i, .int j] → k x = (i, j) := fun x hx t i j e hq => hk x hx t i j e (Same.sqt s hq)
        have em : xs.map k = ps := RelL.keyed h2 hk'
        have hy : ys.map k = sortP ps := by
          refine sortP_of (by rw [← em]; exact hp.map k) (List.pairwise_map.mpr (hs.imp fun {a b} h => ?_))
          have := SrtO.lexB_no.mp h
          unfold leP
          simp only [decide_eq_true_eq]
          omega
        refine q p ys hn ?_
        rw [← hy]
        refine RelL.of_pairs fun y hyy => ?_
        obtain ⟨t, i, j, e, hq⟩ := h3 y (hp.mem_iff.mp hyy)
        rw [hk' y (hp.mem_iff.mp hyy) t i j e hq]
        exact ⟨t, e, hq⟩
  · cases he⟩
def sortedD : List D → Option OR
  | [.lst ds] => match asInts ds with
    | some ns => some (.l ((sortI ns).map D.int))
    | none => sortedP [.lst ds]
  | [.dct ks ds] => sortedK [.dct ks ds]
  | _ => none
theorem c_sorted (hc : X.calm = true) : CallS X (.builtin "sorted") sortedD := by
  obtain ⟨r1, a1, b1⟩ := c_sortedL (X := X)
  obtain ⟨r2, a2, b2⟩ := c_sortedK hc
  obtain ⟨r3, a3, b3⟩ := c_sortedP (X := X)
  refine ⟨_, (a1.or a2).or a3, fun Hf H ds xs out Q s r he q => ?_⟩
  unfold sortedD at he
  split at he
  · split at he
    · rename_i ns z
      exact .inl (.inl (b1 Hf H _ xs out Q s r (by show (asInts _).map _ = _; rw [z]; exact he) q))
    · exact .inr (b3 Hf H _ xs out Q s r he q)
  · exact .inl (.inr (b2 Hf H _ xs out Q s r he q))
  · cases he

/-! ## range with a step -/
def stepR (lo c : Int) (n : Nat) : List D := (List.range n).map fun i => D.int (lo + (i : Nat) * c)
theorem Walk.rangeC {K : PySem.W.Frag} {Hf : Hp} {lo c : Int} {n : Nat} : Walk K (Itc lo c n) Hf (stepR lo c n) where
  go := fun i H s hi => by
    show i < n
    simpa [stepR] using hi
  stop := fun H s => by show n ≤ _; simp [stepR]
  yld := fun i d H x H' s hd ⟨e, y⟩ => by
    refine .inl ⟨e, ?_⟩
    simp only [stepR, List.getElem?_map] at hd
    cases h : (List.range n)[i]? with
    | none => rw [h] at hd; cases hd
    | some j =>
      rw [h] at hd
      have : j = i := by
        obtain ⟨h1, h2⟩ := List.getElem?_eq_some_iff.mp h
        simpa using h2.symm
      subst this
      cases hd
      exact y
def fR3 : List D → Option (List D)
  | [.int i, .int j, .int c] => if c ≠ 0 ∧ c.natAbs < 1073741824 ∧ Builtin.Range.small i j c = true ∧ 0 ≤ Builtin.Range.rangeSize i j c then some (stepR i c (Builtin.Range.rangeSize i j c).toNat) else none
  | _ => none
theorem di_R3 {e tg : Expr} {ad : AD} (h : PI X tg e (iRng3 (rdA X.K X.mg W ad))) : DI X W tg e (itArgs ad fR3) := h.imp fun σ H R q => rd_args q fun ds its vs Hf H s r e k => by
  unfold fR3 at e
  split at e
  · rename_i i j c
    split at e
    · rename_i hb
      cases e
      simp only [RelL, Rel] at r
      obtain ⟨_, _, rfl, rfl, _, _, rfl, rfl, _, _, rfl, rfl, rfl⟩ := r
      exact ⟨i, j, c, _, rfl, ⟨hb.1, hb.2.1, hb.2.2.1, by omega⟩, k _ Walk.rangeC⟩
    · cases e
  · cases e

/-! ## {} -/
def eDct0 : ED := fun δ => some (.ok (.fz (.dct [] [])) δ)
theorem de_dct0 {pos : Pos} : DE X W (.Dict [] [] pos) eDct0 := pe_dnewK.imp fun σ H Q ⟨G, Hf, δ, I, q⟩ p hp => by
  refine q _ _ _ (Same.new (I.fnone hp)) (I.alloc hp (.dK [])) ?_
  show Rel X.K _ (.dct [] []) _
  unfold Rel
  exact ⟨p, [], rfl, upd_same, rfl, RelL.nil⟩

/-! ## xs.extend(ys) -/
def extTo (δ : List Sl) (i : Nat) (es : List D) : Option (List Sl) := match δ[i]? with
  | some (.own ds) => if ds.length + es.length ≤ 16777216 then some (δ.set i (.own (ds ++ es))) else none
  | some (.io ds) => if ds.length + es.length ≤ 16777216 then some (δ.set i (.io (ds ++ es))) else none
  | _ => none
def extK3 (i : Nat) (o : Option (List D × List Sl)) : Option Out := match o with
  | some ([.lst es], δ3) => match extTo δ3 i es with
    | some δ4 => some (.nx δ4)
    | none => none
  | _ => none
def extK2 (i : Nat) (o : Option AR) : Option Out := match o with
  | some (.ok rs δ2) => extK3 i (settleL rs δ2)
  | some (.er y δ2) => some (.er y δ2)
  | _ => none
def extK (a : AD) (o : Option ER) : Option Out := match o with
  | some (.ok (.slot i) δ1) => if isOwnAt δ1 i then extK2 i (a δ1) else none
  | _ => none
def sExt (x : ED) (a : AD) : SD := fun δ => extK a (x δ)
theorem IV.extTo {K : PySem.W.Frag} {C : Cst} {G : Gh C} {Hf : Hp} {σ : L2.St} {H : Hp} {δ δ' : List Sl} {o : V} {es : List D} {ys : List V} (I : IV K G Hf σ H δ) {i : Nat} (hv : σ[i]? = some (some o)) (r : RelL K Hf es ys) (e : extTo δ i es = some δ') :
    ∃ p xs, o = .ref p ∧ H p = some (.lst xs) ∧ xs.length + ys.length ≤ sizeLine ∧ IV K G Hf σ (upd H p (.lst (xs ++ ys))) δ' := by
  unfold Dn.extTo at e
  have go : ∀ (s : Sl) (ds : List D), δ[i]? = some s → (s = .own ds ∨ s = .io ds) → ds.length + es.length ≤ 16777216 → δ' = δ.set i (s.put (ds ++ es)) → ∃ p xs, o = .ref p ∧ H p = some (.lst xs) ∧ xs.length + ys.length ≤ sizeLine ∧ IV K G Hf σ (upd H p (.lst (xs ++ ys))) δ' := fun s ds hs hk hz he => by
    have hown : s.isOwn = true := by rcases hk with rfl | rfl <;> rfl
    obtain ⟨p, vs, ds', e1, h1, h2, h3, h4⟩ := I.own_some hs hown
    rw [hv] at e1
    cases e1
    have hds : ds' = ds := by
      rcases h4 with ⟨z, _⟩ | ⟨z, _⟩ <;> rcases hk with y | y <;> rw [y] at z <;> cases z <;> rfl
    subst hds
    subst he
    exact ⟨p, vs, rfl, h1, by rw [h2.length, r.length, ← szl]; exact hz, I.write hs hown hv (RelL.append h2 r)⟩
  split at e
  · rename_i ds hd
    split at e
    · rename_i hz; cases e; exact go _ ds hd (.inl rfl) hz rfl
    · cases e
  · rename_i ds hd
    split at e
    · rename_i hz; cases e; exact go _ ds hd (.inr rfl) hz rfl
    · cases e
  · cases e
theorem s_extend {st : Stmt} {ex : ED} {ad : AD} (h : PS X st (tDrop (tBM X.K "list" rExtend (rdE X.K X.mg W ex) (rdA X.K X.mg W ad)))) : DS X W st (sExt ex ad) := h.imp fun En σ H ⟨G, Hf, δ, I, q⟩ => by
  refine ⟨G, Hf, δ, I, ?_⟩
  unfold sExt extK at q
  split at q
  · rename_i i δ1 h1
    rw [h1]
    intro Hf1 H1 v s1 I1 hv
    have hv : σ[i]? = some (some v) := hv
    split at q
    · rename_i ho
      have ty : tyV X.K "list" v H1 := by
        unfold isOwnAt at ho
        split at ho
        · rename_i s hs
          obtain ⟨p, vs, ds', e1, h1, _⟩ := I1.own_some hs ho
          rw [hv] at e1; cases e1
          exact .inl ⟨rfl, vs, SqL.of h1⟩
        · cases ho
      refine ⟨ty, G, Hf1, δ1, I1, ?_⟩
      unfold extK2 at q
      revert q
      cases ad δ1 with
      | none => exact fun q => q.elim
      | some o =>
        cases o with
        | er y δ2 => exact fun q Hf' H' cls d a b c => q Hf' σ H' cls d (s1.trans a) b c
        | ok rs δ2 =>
          intro q Hf2 H2 vs s2 I2 hl pl
          dsimp only at q
          unfold extK3 at q
          split at q
          · rename_i es δ3 h3
            obtain ⟨Hf3, s3, I3, r3⟩ := I2.settleL hl pl h3
            unfold RelL at r3
            obtain ⟨x, xs, rfl, r3, r4⟩ := r3
            unfold RelL at r4
            subst r4
            unfold Rel at r3
            obtain ⟨b, ys, rfl, k1, k2⟩ := r3
            split at q
            · rename_i δ4 h4
              obtain ⟨p, zs, rfl, k3, k4, k5⟩ := I3.extTo hv k2 h4
              exact ⟨p, b, zs, ys, rfl, rfl, k3, I3.sub _ _ k1, k4, q Hf3 σ _ ((s1.trans s2).trans s3) k5⟩
            · exact q.elim
          · exact q.elim
    · exact q.elim
  · exact q.elim
end
end Dn

namespace Dn
open PySem PySem.Spec L2

/-! ## reckoning by simp: each combinator at its slots -/
section
variable {δ δ' : List Sl} {d e : D} {ds : List D} {i : Nat} {r r2 : Rs} {x : Ex} {b c : Bool}
def rdSl (i : Nat) (o : Option Sl) (δ : List Sl) : Option ER := match o with
  | some (.fz d) => some (.ok (.fz d) δ)
  | some (.own _) => some (.ok (.slot i) δ)
  | some (.io _) => some (.ok (.slot i) δ)
  | _ => none
theorem ev_var : eVar i δ = rdSl i δ[i]? δ := (rfl)
theorem rdSl_fz : rdSl i (some (.fz d)) δ = some (.ok (.fz d) δ) := (rfl)
theorem rdSl_own : rdSl i (some (.own ds)) δ = some (.ok (.slot i) δ) := (rfl)
theorem rdSl_io : rdSl i (some (.io ds)) δ = some (.ok (.slot i) δ) := (rfl)
theorem ev_c : eC d δ = some (.ok (.fz d) δ) := (rfl)
theorem bind_ok {k : Rs → List Sl → Option ER} : ER.bind (some (.ok r δ)) k = k r δ := (rfl)
theorem bind_er {k : Rs → List Sl → Option ER} : ER.bind (some (.er x δ)) k = some (.er x δ) := (rfl)
def slD (o : Option Sl) : Option D := match o with
  | some (.fz d) => some d
  | some (.own ds) => some (.lst ds)
  | some (.io ds) => some (.lst ds)
  | _ => none
theorem data_fz : (Rs.fz d).data δ = some d := (rfl)
theorem data_fresh : (Rs.fresh ds).data δ = some (.lst ds) := (rfl)
theorem data_slot : (Rs.slot i).data δ = slD δ[i]? := (rfl)
theorem slD_fz : slD (some (.fz d)) = some d := (rfl)
theorem slD_own : slD (some (.own ds)) = some (.lst ds) := (rfl)
theorem slD_io : slD (some (.io ds)) = some (.lst ds) := (rfl)
def slS (i : Nat) (o : Option Sl) (δ : List Sl) : Option (D × List Sl) := match o with
  | some (.fz d) => some (d, δ)
  | some (.own ds) => some (.lst ds, δ.set i (.fz (.lst ds)))
  | _ => none
theorem settle_fz : (Rs.fz d).settle δ = some (d, δ) := (rfl)
theorem settle_fresh : (Rs.fresh ds).settle δ = some (.lst ds, δ) := (rfl)
theorem settle_slot : (Rs.slot i).settle δ = slS i δ[i]? δ := (rfl)
theorem slS_fz : slS i (some (.fz d)) δ = some (d, δ) := (rfl)
theorem slS_own : slS i (some (.own ds)) δ = some (.lst ds, δ.set i (.fz (.lst ds))) := (rfl)
def opO (o : Option OR) (δ : List Sl) : Option ER := match o with
  | some o => some (.ok o.rs δ)
  | none => none
theorem opO_v : opO (some (.v d)) δ = some (.ok (.fz d) δ) := (rfl)
theorem opO_l : opO (some (.l ds)) δ = some (.ok (.fresh ds) δ) := (rfl)
theorem opO_t : opO (some (.t ds)) δ = some (.ok (.fz (.tup ds)) δ) := (rfl)
def opD (sem : D → D → Option OR) (o p : Option D) (δ : List Sl) : Option ER := match o, p with
  | some d, some e => opO (sem d e) δ
  | _, _ => none
theorem opD_ok {sem : D → D → Option OR} : opD sem (some d) (some e) δ = opO (sem d e) δ := (rfl)
theorem ev_opRs {sem : D → D → Option OR} : opRs sem r r2 δ = opD sem (r.data δ) (r2.data δ) δ := by
  unfold opRs opD opO
  cases r.data δ <;> cases r2.data δ <;> rfl
def binK2 (sem : D → D → Option OR) (r : Rs) (o : Option ER) : Option ER := match o with
  | none => none
  | some (.er x δ) => some (.er x δ)
  | some (.ok r2 δ) => opRs sem r r2 δ
def binK (sem : D → D → Option OR) (b : ED) (o : Option ER) : Option ER := match o with
  | none => none
  | some (.er x δ) => some (.er x δ)
  | some (.ok r δ) => binK2 sem r (b δ)
theorem ev_bin {sem : D → D → Option OR} {a b : ED} : eBin sem a b δ = binK sem b (a δ) := (rfl)
theorem binK_ok {sem : D → D → Option OR} {b : ED} : binK sem b (some (.ok r δ)) = binK2 sem r (b δ) := (rfl)
theorem binK_er {sem : D → D → Option OR} {b : ED} : binK sem b (some (.er x δ)) = some (.er x δ) := (rfl)
theorem binK2_ok {sem : D → D → Option OR} : binK2 sem r (some (.ok r2 δ)) = opRs sem r r2 δ := (rfl)
theorem binK2_er {sem : D → D → Option OR} : binK2 sem r (some (.er x δ)) = some (.er x δ) := (rfl)
def opD1 (sem : D → Option OR) (o : Option D) (δ : List Sl) : Option ER := match o with
  | some d => opO (sem d) δ
  | _ => none
theorem opD1_ok {sem : D → Option OR} : opD1 sem (some d) δ = opO (sem d) δ := (rfl)
theorem ev_opRs1 {sem : D → Option OR} : opRs1 sem r δ = opD1 sem (r.data δ) δ := by
  unfold opRs1 opD1 opO
  cases r.data δ <;> rfl
theorem ev_un {sem : D → Option OR} {a : ED} : eUn sem a δ = ER.bind (a δ) (opRs1 sem) := (rfl)
def chK2 (s2 : D → D → Option OR) (c : ED) (r2 : Rs) (δ : List Sl) : Option ER := match r2 with
  | .fz d2 => ER.bind (c δ) fun r4 δ4 => opRs s2 (.fz d2) r4 δ4
  | _ => none
def chK (s2 : D → D → Option OR) (c : ED) (r2 r3 : Rs) (δ : List Sl) : Option ER := match r3 with
  | .fz (.bl true) => chK2 s2 c r2 δ
  | .fz (.bl false) => some (.ok (.fz (.bl false)) δ)
  | _ => none
def ch3 (s1 s2 : D → D → Option OR) (c : ED) (r : Rs) (r2 : Rs) (δ : List Sl) : Option ER := ER.bind (opRs s1 r r2 δ) (chK s2 c r2)
def ch2 (s1 s2 : D → D → Option OR) (b c : ED) (r : Rs) (δ : List Sl) : Option ER := ER.bind (b δ) (ch3 s1 s2 c r)
theorem ev_chain {s1 s2 : D → D → Option OR} {a b c : ED} : eChain s1 s2 a b c δ = ER.bind (a δ) (ch2 s1 s2 b c) := by
  unfold eChain ch2 ch3 chK chK2
  rfl
theorem ev_ch2 {s1 s2 : D → D → Option OR} {b c : ED} : ch2 s1 s2 b c r δ = ER.bind (b δ) (ch3 s1 s2 c r) := (rfl)
theorem ev_ch3 {s1 s2 : D → D → Option OR} {c : ED} : ch3 s1 s2 c r r2 δ = ER.bind (opRs s1 r r2 δ) (chK s2 c r2) := (rfl)
theorem chK_bl {s2 : D → D → Option OR} {c : ED} : chK s2 c r2 (.fz (.bl b)) δ = if b then chK2 s2 c r2 δ else some (.ok (.fz (.bl false)) δ) := by cases b <;> rfl
theorem chK2_ok {s2 : D → D → Option OR} {c : ED} : chK2 s2 c (.fz d) δ = ER.bind (c δ) (opRs s2 (.fz d)) := (rfl)
def andK (e : ED) (r : Rs) (δ : List Sl) : Option ER := match r with
  | .fz (.bl true) => e δ
  | .fz (.bl false) => some (.ok (.fz (.bl false)) δ)
  | _ => none
theorem ev_and {a b : ED} : eAnd a b δ = ER.bind (a δ) (andK b) := (rfl)
theorem andK_bl {e : ED} : andK e (.fz (.bl b)) δ = if b then e δ else some (.ok (.fz (.bl false)) δ) := by cases b <;> rfl
def orK (e : ED) (r : Rs) (δ : List Sl) : Option ER := match r with
  | .fz (.bl false) => e δ
  | .fz (.bl true) => some (.ok (.fz (.bl true)) δ)
  | _ => none
theorem ev_or {a b : ED} : eOr a b δ = ER.bind (a δ) (orK b) := (rfl)
theorem orK_bl {e : ED} : orK e (.fz (.bl b)) δ = if b then some (.ok (.fz (.bl true)) δ) else e δ := by cases b <;> rfl
def notK (r : Rs) (δ : List Sl) : Option ER := match r with
  | .fz (.bl b) => some (.ok (.fz (.bl (!b))) δ)
  | _ => none
theorem ev_not {a : ED} : eNot a δ = ER.bind (a δ) notK := (rfl)
theorem notK_bl : notK (.fz (.bl b)) δ = some (.ok (.fz (.bl (!b))) δ) := (rfl)
def ifK (o : Option TR) (a b : ED) : Option ER := match o with
  | none => none
  | some (.er x δ1) => some (.er x δ1)
  | some (.ok c δ1) => if c then a δ1 else b δ1
theorem ev_if {t : TD} {a b : ED} : eIf t a b δ = ifK (t δ) a b := (rfl)
theorem ifK_ok {a e : ED} : ifK (some (.ok b δ)) a e = if b then a δ else e δ := (rfl)
theorem ev_anil : aNil δ = some (.ok [] δ) := (rfl)
def aK2 (r : Rs) (o : Option AR) : Option AR := match o with
  | none => none
  | some (.er x δ2) => some (.er x δ2)
  | some (.ok rs δ2) => some (.ok (r :: rs) δ2)
def aK (o : Option ER) (es : AD) : Option AR := match o with
  | none => none
  | some (.er x δ1) => some (.er x δ1)
  | some (.ok r δ1) => aK2 r (es δ1)
theorem ev_acons {e : ED} {es : AD} : aCons e es δ = aK (e δ) es := (rfl)
theorem aK_ok {es : AD} : aK (some (.ok r δ)) es = aK2 r (es δ) := (rfl)
theorem aK_er {es : AD} : aK (some (.er x δ)) es = some (.er x δ) := (rfl)
theorem aK2_ok {rs : List Rs} : aK2 r (some (.ok rs δ)) = some (.ok (r :: rs) δ) := (rfl)
theorem aK2_er : aK2 r (some (.er x δ)) = some (.er x δ) := (rfl)
def stK2 (d : D) (o : Option (List D × List Sl)) : Option (List D × List Sl) := match o with
  | none => none
  | some (ds, δ2) => some (d :: ds, δ2)
def stK (o : Option (D × List Sl)) (rs : List Rs) : Option (List D × List Sl) := match o with
  | none => none
  | some (d, δ1) => stK2 d (settleL rs δ1)
theorem settleL_nil : settleL [] δ = some ([], δ) := (rfl)
theorem settleL_cons {rs : List Rs} : settleL (r :: rs) δ = stK (r.settle δ) rs := (rfl)
theorem stK_ok {rs : List Rs} : stK (some (d, δ)) rs = stK2 d (settleL rs δ) := (rfl)
theorem stK2_ok : stK2 d (some (ds, δ)) = some (d :: ds, δ) := (rfl)
def daK2 (d : D) (o : Option (List D)) : Option (List D) := match o with
  | none => none
  | some ds => some (d :: ds)
def daK (o : Option D) (rs : List Rs) (δ : List Sl) : Option (List D) := match o with
  | none => none
  | some d => daK2 d (dataL δ rs)
theorem dataL_nil : dataL δ [] = some [] := (rfl)
theorem dataL_cons {rs : List Rs} : dataL δ (r :: rs) = daK (r.data δ) rs δ := (rfl)
theorem daK_ok {rs : List Rs} : daK (some d) rs δ = daK2 d (dataL δ rs) := (rfl)
theorem daK2_ok : daK2 d (some ds) = some (d :: ds) := (rfl)
def tupK2 (o : Option (List D × List Sl)) : Option ER := match o with
  | none => none
  | some (ds, δ2) => if ds.length ≤ 16777216 then some (.ok (.fz (.tup ds)) δ2) else none
def tupK (o : Option AR) : Option ER := match o with
  | none => none
  | some (.er x δ1) => some (.er x δ1)
  | some (.ok rs δ1) => tupK2 (settleL rs δ1)
theorem ev_tup {a : AD} : eTup a δ = tupK (a δ) := (rfl)
theorem tupK_ok {rs : List Rs} : tupK (some (.ok rs δ)) = tupK2 (settleL rs δ) := (rfl)
theorem tupK_er : tupK (some (.er x δ)) = some (.er x δ) := (rfl)
theorem tupK2_ok : tupK2 (some (ds, δ)) = if ds.length ≤ 16777216 then some (.ok (.fz (.tup ds)) δ) else none := (rfl)
def lstK2 (o : Option (List D × List Sl)) : Option ER := match o with
  | none => none
  | some (ds, δ2) => if ds.length ≤ 16777216 then some (.ok (.fresh ds) δ2) else none
def lstK (o : Option AR) : Option ER := match o with
  | none => none
  | some (.er x δ1) => some (.er x δ1)
  | some (.ok rs δ1) => lstK2 (settleL rs δ1)
theorem ev_lst {a : AD} : eLst a δ = lstK (a δ) := (rfl)
theorem lstK_ok {rs : List Rs} : lstK (some (.ok rs δ)) = lstK2 (settleL rs δ) := (rfl)
theorem lstK_er : lstK (some (.er x δ)) = some (.er x δ) := (rfl)
theorem lstK2_ok : lstK2 (some (ds, δ)) = if ds.length ≤ 16777216 then some (.ok (.fresh ds) δ) else none := (rfl)
def bK2 (o : Option (List D)) (sem : List D → Option OR) (δ : List Sl) : Option ER := match o with
  | none => none
  | some ds => opO (sem ds) δ
def bK (sem : List D → Option OR) (o : Option AR) : Option ER := match o with
  | none => none
  | some (.er x δ1) => some (.er x δ1)
  | some (.ok rs δ1) => bK2 (dataL δ1 rs) sem δ1
theorem ev_b {sem : List D → Option OR} {a : AD} : eB sem a δ = bK sem (a δ) := by
  unfold eB bK bK2 opO
  cases a δ with
  | none => rfl
  | some o =>
    cases o with
    | er x δ => rfl
    | ok rs δ =>
      dsimp only
      cases dataL δ rs with
      | none => rfl
      | some ds => dsimp only; cases sem ds <;> rfl
theorem bK_ok {sem : List D → Option OR} {rs : List Rs} : bK sem (some (.ok rs δ)) = bK2 (dataL δ rs) sem δ := (rfl)
theorem bK_er {sem : List D → Option OR} : bK sem (some (.er x δ)) = some (.er x δ) := (rfl)
theorem bK2_ok {sem : List D → Option OR} : bK2 (some ds) sem δ = opO (sem ds) δ := (rfl)
theorem erof_ret : ERofF (some (.ret d)) δ = some (.ok (.fz d) δ) := (rfl)
theorem erof_retL : ERofF (some (.retL ds)) δ = some (.ok (.fresh ds) δ) := (rfl)
theorem erof_er : ERofF (some (.er x)) δ = some (.er x δ) := (rfl)
def callK2 (sem : FS) (o : Option (List D × List Sl)) : Option ER := match o with
  | none => none
  | some (ds, δ2) => ERofF (sem ds) δ2
def callK (sem : FS) (o : Option AR) : Option ER := match o with
  | none => none
  | some (.er x δ1) => some (.er x δ1)
  | some (.ok rs δ1) => callK2 sem (settleL rs δ1)
theorem ev_call {sem : FS} {a : AD} : eCall sem a δ = callK sem (a δ) := (rfl)
theorem callK_ok {sem : FS} {rs : List Rs} : callK sem (some (.ok rs δ)) = callK2 sem (settleL rs δ) := (rfl)
theorem callK_er {sem : FS} : callK sem (some (.er x δ)) = some (.er x δ) := (rfl)
theorem callK2_ok {sem : FS} : callK2 sem (some (ds, δ)) = ERofF (sem ds) δ := (rfl)
def ioK3 (o : Option (FO × List D)) (i : Nat) (F : List D → Sl) (δ : List Sl) : Option ER := match o with
  | none => none
  | some (o, dh') => ERofF (some o) (δ.set i (F dh'))
def ioK2 (sem : FSio) (i : Nat) (o : Option Sl) (ds : List D) (δ : List Sl) : Option ER := match o with
  | some (.own dh) => ioK3 (sem (.lst dh :: ds)) i .own δ
  | some (.io dh) => ioK3 (sem (.lst dh :: ds)) i .io δ
  | _ => none
def ioK1 (sem : FSio) (i : Nat) (o : Option (List D × List Sl)) : Option ER := match o with
  | none => none
  | some (ds, δ2) => ioK2 sem i δ2[i]? ds δ2
def ioK (sem : FSio) (o : Option AR) : Option ER := match o with
  | none => none
  | some (.er x δ1) => some (.er x δ1)
  | some (.ok (.slot i :: rs) δ1) => ioK1 sem i (settleL rs δ1)
  | _ => none
theorem ev_io {sem : FSio} {a : AD} : eCallIo sem a δ = ioK sem (a δ) := by
  unfold eCallIo ioK ioK1 ioK2 ioK3
  rfl
theorem ioK_ok {sem : FSio} {rs : List Rs} : ioK sem (some (.ok (.slot i :: rs) δ)) = ioK1 sem i (settleL rs δ) := (rfl)
theorem ioK1_ok {sem : FSio} : ioK1 sem i (some (ds, δ)) = ioK2 sem i δ[i]? ds δ := (rfl)
theorem ioK2_own {sem : FSio} {dh : List D} : ioK2 sem i (some (.own dh)) ds δ = ioK3 (sem (.lst dh :: ds)) i .own δ := (rfl)
theorem ioK2_io {sem : FSio} {dh : List D} : ioK2 sem i (some (.io dh)) ds δ = ioK3 (sem (.lst dh :: ds)) i .io δ := (rfl)
theorem ioK3_ok {o : FO} {dh : List D} {F : List D → Sl} : ioK3 (some (o, dh)) i F δ = ERofF (some o) (δ.set i (F dh)) := (rfl)
theorem ev_call0 {sem : FS} : eCall0 sem δ = (match sem [] with
  | some (.ret d) => some (.ok (.fz d) δ)
  | some (.retL ds) => some (.ok (.fresh ds) δ)
  | _ => none) := (rfl)
def slcK (o : Option D) (l h : Option Int) (δ : List Sl) : Option ER := match o with
  | some d => opO (sliceD d l h) δ
  | none => none
def prK2 (r : Rs) (l : Option Int) (o : Option (Option (Option Int) × List Sl)) : Option ER := match o with
  | some (some h, δ3) => slcK (r.data δ3) l h δ3
  | _ => none
def prK (r : Rs) (hi : Option ED) (o : Option (Option (Option Int) × List Sl)) : Option ER := match o with
  | some (some l, δ2) => prK2 r l (PR hi δ2)
  | _ => none
def prI (o : Option ER) : Option (Option (Option Int) × List Sl) := match o with
  | some (.ok (.fz (.int i)) δ') => some (some (some i), δ')
  | _ => none
def slK (lo hi : Option ED) (r : Rs) (δ : List Sl) : Option ER := prK r hi (PR lo δ)
theorem ev_slice {a : ED} {lo hi : Option ED} : eSlice a lo hi δ = ER.bind (a δ) (slK lo hi) := by
  unfold eSlice slK prK prK2 slcK opO
  rfl
theorem ev_slK {lo hi : Option ED} : slK lo hi r δ = prK r hi (PR lo δ) := (rfl)
theorem pr_none : PR none δ = some (some none, δ) := (rfl)
theorem pr_some {e : ED} : PR (some e) δ = prI (e δ) := (rfl)
theorem prI_ok {k : Int} : prI (some (.ok (.fz (.int k)) δ)) = some (some (some k), δ) := (rfl)
theorem prK_ok {hi : Option ED} {l : Option Int} : prK r hi (some (some l, δ)) = prK2 r l (PR hi δ) := (rfl)
theorem prK2_ok {l h : Option Int} : prK2 r l (some (some h, δ)) = slcK (r.data δ) l h δ := (rfl)
theorem slcK_ok {l h : Option Int} : slcK (some d) l h δ = opO (sliceD d l h) δ := (rfl)
def revK (o : Option D) (δ : List Sl) : Option ER := match o with
  | some (.lst ds) => some (.ok (.fresh ds.reverse) δ)
  | some (.scr ds) => some (.ok (.fresh ds.reverse) δ)
  | some (.tup ds) => some (.ok (.fz (.tup ds.reverse)) δ)
  | _ => none
def rvK (r : Rs) (δ : List Sl) : Option ER := revK (r.data δ) δ
theorem ev_rev {a : ED} : eRev a δ = ER.bind (a δ) rvK := (rfl)
theorem ev_rvK : rvK r δ = revK (r.data δ) δ := (rfl)
theorem revK_tup : revK (some (.tup ds)) δ = some (.ok (.fz (.tup ds.reverse)) δ) := (rfl)
theorem revK_lst : revK (some (.lst ds)) δ = some (.ok (.fresh ds.reverse) δ) := (rfl)
/-! tests -/
def tvK (o : Option ER) : Option TR := match o with
  | some (.ok (.fz (.bl b)) δ') => some (.ok b δ')
  | some (.er x δ') => some (.er x δ')
  | _ => none
theorem ev_tv {e : ED} : tVal e δ = tvK (e δ) := (rfl)
theorem tvK_ok : tvK (some (.ok (.fz (.bl b)) δ)) = some (.ok b δ) := (rfl)
theorem tvK_er : tvK (some (.er x δ)) = some (.er x δ) := (rfl)
def ttK3 (o : Option Bool) (δ : List Sl) : Option TR := match o with
  | some b => some (.ok b δ)
  | none => none
def ttK2 (o : Option D) (δ : List Sl) : Option TR := match o with
  | some d => ttK3 (truth d) δ
  | none => none
def ttK (o : Option ER) : Option TR := match o with
  | some (.ok r δ') => ttK2 (r.data δ') δ'
  | some (.er x δ') => some (.er x δ')
  | _ => none
theorem ev_tt {e : ED} : tTru e δ = ttK (e δ) := by
  unfold tTru ttK ttK2 ttK3
  rfl
theorem ttK_ok : ttK (some (.ok r δ)) = ttK2 (r.data δ) δ := (rfl)
theorem ttK_er : ttK (some (.er x δ)) = some (.er x δ) := (rfl)
theorem ttK2_ok : ttK2 (some d) δ = ttK3 (truth d) δ := (rfl)
theorem ttK3_ok : ttK3 (some b) δ = some (.ok b δ) := (rfl)
theorem truth_bl : truth (.bl b) = some b := (rfl)
theorem truth_int {k : Int} : truth (.int k) = some (k != 0) := (rfl)
theorem truth_lst : truth (.lst ds) = some (!ds.isEmpty) := (rfl)
theorem truth_tup : truth (.tup ds) = some (!ds.isEmpty) := (rfl)
theorem truth_non : truth .non = some false := (rfl)
theorem tbind_ok {k : Bool → List Sl → Option TR} : TR.bind (some (.ok b δ)) k = k b δ := (rfl)
theorem tbind_er {k : Bool → List Sl → Option TR} : TR.bind (some (.er x δ)) k = some (.er x δ) := (rfl)
def taK (t : TD) (c : Bool) (δ : List Sl) : Option TR := if c then t δ else some (.ok false δ)
def toK (t : TD) (c : Bool) (δ : List Sl) : Option TR := if c then some (.ok true δ) else t δ
def tnK (c : Bool) (δ : List Sl) : Option TR := some (.ok (!c) δ)
theorem ev_tand {s t : TD} : tAndD s t δ = TR.bind (s δ) (taK t) := (rfl)
theorem ev_tor {s t : TD} : tOrD s t δ = TR.bind (s δ) (toK t) := (rfl)
theorem ev_tnot {s : TD} : tNotD s δ = TR.bind (s δ) tnK := (rfl)
theorem ev_taK {t : TD} : taK t b δ = if b then t δ else some (.ok false δ) := (rfl)
theorem ev_toK {t : TD} : toK t b δ = if b then some (.ok true δ) else t δ := (rfl)
theorem ev_tnK : tnK b δ = some (.ok (!b) δ) := (rfl)
theorem ev_ttrue : tTrue δ = some (.ok true δ) := (rfl)
theorem ev_isi2 {a b : String} {e : ED} : eIsi2 a b e δ = ER.bind (e δ) (isiR a b) := (rfl)
theorem ev_isiR {a b : String} : isiR a b r δ = isi2K a b (r.data δ) δ := (rfl)
theorem isi2_int {k : Int} : isi2K "tuple" "list" (some (.int k)) δ = some (.ok (.fz (.bl false)) δ) := (rfl)
theorem isi2_bl : isi2K "tuple" "list" (some (.bl b)) δ = some (.ok (.fz (.bl false)) δ) := (rfl)
theorem isi2_non : isi2K "tuple" "list" (some .non) δ = some (.ok (.fz (.bl false)) δ) := (rfl)
theorem isi2_str {y : Str} : isi2K "tuple" "list" (some (.str y)) δ = some (.ok (.fz (.bl false)) δ) := (rfl)
theorem isi2_tup : isi2K "tuple" "list" (some (.tup ds)) δ = some (.ok (.fz (.bl true)) δ) := (rfl)
theorem isi2_lst : isi2K "tuple" "list" (some (.lst ds)) δ = some (.ok (.fz (.bl true)) δ) := (rfl)
/-! statements -/
theorem ev_nil : sNil δ = some (.nx δ) := (rfl)
theorem ev_bk : sBk δ = some (.bk δ) := (rfl)
theorem ev_ct : sCt δ = some (.ct δ) := (rfl)
theorem ev_seq {a b : SD} : sSeq a b δ = Out.then (a δ) b := (rfl)
theorem then_nx {k : SD} : Out.then (some (.nx δ)) k = k δ := (rfl)
theorem then_rt {k : SD} : Out.then (some (.rt r δ)) k = some (.rt r δ) := (rfl)
theorem then_bk {k : SD} : Out.then (some (.bk δ)) k = some (.bk δ) := (rfl)
theorem then_ct {k : SD} : Out.then (some (.ct δ)) k = some (.ct δ) := (rfl)
theorem then_er {k : SD} : Out.then (some (.er x δ)) k = some (.er x δ) := (rfl)
theorem with_ok {k : Rs → SD} : Out.with (some (.ok r δ)) k = k r δ := (rfl)
theorem with_er {k : Rs → SD} : Out.with (some (.er x δ)) k = some (.er x δ) := (rfl)
def exK (_ : Rs) (δ : List Sl) : Option Out := some (.nx δ)
def reK (r : Rs) (δ : List Sl) : Option Out := some (.rt r δ)
theorem ev_expr {e : ED} : sExpr e δ = Out.with (e δ) exK := (rfl)
theorem ev_ret {e : ED} : sRet e δ = Out.with (e δ) reK := (rfl)
theorem ev_exK : exK r δ = some (.nx δ) := (rfl)
theorem ev_reK : reK r δ = some (.rt r δ) := (rfl)
theorem ev_retN : sRetN δ = some (.rt (.fz .non) δ) := (rfl)
def sifK (o : Option TR) (a b : SD) : Option Out := match o with
  | none => none
  | some (.er x δ1) => some (.er x δ1)
  | some (.ok c δ1) => if c then a δ1 else b δ1
theorem ev_sif {t : TD} {a b : SD} : sIf t a b δ = sifK (t δ) a b := (rfl)
theorem sifK_ok {a e : SD} : sifK (some (.ok b δ)) a e = if b then a δ else e δ := (rfl)
theorem sifK_er {a e : SD} : sifK (some (.er x δ)) a e = some (.er x δ) := (rfl)
def asgK (o : Option (List Sl)) : Option Out := match o with
  | none => none
  | some δ2 => some (.nx δ2)
def agK (g : GD) (r : Rs) (δ : List Sl) : Option Out := asgK (g r δ)
theorem ev_asg {g : GD} {e : ED} : sAsg g e δ = Out.with (e δ) (agK g) := (rfl)
theorem ev_agK {g : GD} : agK g r δ = asgK (g r δ) := (rfl)
theorem asgK_ok : asgK (some δ) = some (.nx δ) := (rfl)
def gnK (i : Nat) (r : Rs) (o : Option Sl) (δ : List Sl) : Option (List Sl) := match o with
  | some (.io _) => none
  | none => none
  | some _ => gN0 i r δ
theorem ev_gN : gN i r δ = gnK i r δ[i]? δ := (rfl)
theorem gnK_no : gnK i r (some .no) δ = gN0 i r δ := (rfl)
theorem gnK_fz : gnK i r (some (.fz d)) δ = gN0 i r δ := (rfl)
theorem gnK_own : gnK i r (some (.own ds)) δ = gN0 i r δ := (rfl)
/-- a slot that holds no lent list -/
def Sl.pl : Sl → Bool
  | .io _ => false
  | _ => true
theorem pl_fz : (Sl.fz d).pl = true := (rfl)
theorem pl_no : Sl.no.pl = true := (rfl)
theorem pl_own : (Sl.own ds).pl = true := (rfl)
theorem gnK_pl {s : Sl} (h : s.pl = true) : gnK i r (some s) δ = gN0 i r δ := by cases s <;> first | rfl | cases h
theorem gN0_fresh : gN0 i (.fresh ds) δ = some (δ.set i (.own ds)) := (rfl)
theorem gN0_fz : gN0 i (.fz d) δ = some (δ.set i (.fz d)) := (rfl)
def gnS (i : Nat) (o : Option (D × List Sl)) : Option (List Sl) := match o with
  | none => none
  | some (d, δ1) => some (δ1.set i (.fz d))
theorem gN0_slot {j : Nat} : gN0 i (.slot j) δ = gnS i ((Rs.slot j).settle δ) := (rfl)
theorem gnS_ok : gnS i (some (d, δ)) = some (δ.set i (.fz d)) := (rfl)
def gtK (is : List Nat) (o : Option D) (δ : List Sl) : Option (List Sl) := match o with
  | some (.tup ds) => gNs is ds δ
  | _ => none
theorem ev_gT {is : List Nat} : gT is r δ = gtK is (r.data δ) δ := (rfl)
theorem gtK_ok {is : List Nat} : gtK is (some (.tup ds)) δ = gNs is ds δ := (rfl)
def gnsK (o : Option (List Sl)) (is : List Nat) (ds : List D) : Option (List Sl) := match o with
  | none => none
  | some δ1 => gNs is ds δ1
theorem gNs_nil : gNs [] [] δ = some δ := (rfl)
theorem gNs_cons {is : List Nat} : gNs (i :: is) (d :: ds) δ = gnsK (gN i (.fz d) δ) is ds := (rfl)
theorem gnsK_ok {is : List Nat} : gnsK (some δ) is ds = gNs is ds δ := (rfl)
def glK (is : List Nat) (o : Option (D × List Sl)) : Option (List Sl) := match o with
  | some (.lst ds, δ1) => gNs is ds δ1
  | _ => none
theorem ev_gL {is : List Nat} : gL is r δ = glK is (r.settle δ) := (rfl)
theorem glK_ok {is : List Nat} : glK is (some (.lst ds, δ)) = gNs is ds δ := (rfl)
def gixK3 (j : Nat) (k : Int) (o : Option (D × List Sl)) : Option (List Sl) := match o with
  | some (d, δ3) => putAt j k d δ3
  | none => none
def gixK2 (r : Rs) (j : Nat) (o : Option ER) : Option (List Sl) := match o with
  | some (.ok (.fz (.int k)) δ2) => gixK3 j k (r.settle δ2)
  | _ => none
def gixK (r : Rs) (ii : ED) (o : Option ER) : Option (List Sl) := match o with
  | some (.ok (.slot j) δ1) => gixK2 r j (ii δ1)
  | _ => none
theorem ev_gIx {a b : ED} : gIx a b r δ = gixK r b (a δ) := by
  unfold gIx gixK gixK2 gixK3
  rfl
theorem gixK_ok {j : Nat} {b : ED} : gixK r b (some (.ok (.slot j) δ)) = gixK2 r j (b δ) := (rfl)
theorem gixK2_ok {j : Nat} {k : Int} : gixK2 r j (some (.ok (.fz (.int k)) δ)) = gixK3 j k (r.settle δ) := (rfl)
theorem gixK3_ok {j : Nat} {k : Int} : gixK3 j k (some (d, δ)) = putAt j k d δ := (rfl)
def putK (j : Nat) (k : Int) (d : D) (o : Option Sl) (δ : List Sl) : Option (List Sl) := match o with
  | some (.own ds) => (ixN ds.length k).map fun m => δ.set j (.own (ds.set m d))
  | some (.io ds) => (ixN ds.length k).map fun m => δ.set j (.io (ds.set m d))
  | _ => none
theorem ev_putAt {j : Nat} {k : Int} : putAt j k d δ = putK j k d δ[j]? δ := by
  unfold putAt putK
  cases δ[j]? with
  | none => rfl
  | some s =>
    cases s with
    | own ds => dsimp only; cases ixN ds.length k <;> rfl
    | io ds => dsimp only; cases ixN ds.length k <;> rfl
    | _ => rfl
theorem putK_own {j : Nat} {k : Int} : putK j k d (some (.own ds)) δ = (ixN ds.length k).map fun m => δ.set j (.own (ds.set m d)) := (rfl)
theorem putK_io {j : Nat} {k : Int} : putK j k d (some (.io ds)) δ = (ixN ds.length k).map fun m => δ.set j (.io (ds.set m d)) := (rfl)
def parK3 (o : Option (List Sl)) : Option Out := match o with
  | none => none
  | some δ3 => some (.nx δ3)
def parK2 (is : List Nat) (o : Option (List Rs × List Sl)) : Option Out := match o with
  | none => none
  | some (rs', δ2) => parK3 (gRs is rs' δ2)
def parK (is : List Nat) (o : Option AR) : Option Out := match o with
  | none => none
  | some (.er x δ1) => some (.er x δ1)
  | some (.ok rs δ1) => if rs.length ≤ 1000 then parK2 is (settleS rs δ1) else none
theorem ev_par {is : List Nat} {a : AD} : sPar is a δ = parK is (a δ) := (rfl)
theorem parK_ok {is : List Nat} {rs : List Rs} : parK is (some (.ok rs δ)) = if rs.length ≤ 1000 then parK2 is (settleS rs δ) else none := (rfl)
theorem parK_er {is : List Nat} : parK is (some (.er x δ)) = some (.er x δ) := (rfl)
theorem parK2_ok {is : List Nat} {rs : List Rs} : parK2 is (some (rs, δ)) = parK3 (gRs is rs δ) := (rfl)
theorem parK3_ok : parK3 (some δ) = some (.nx δ) := (rfl)
def ssK2 (r : Rs) (o : Option (List Rs × List Sl)) : Option (List Rs × List Sl) := match o with
  | none => none
  | some (rs', δ2) => some (r :: rs', δ2)
def ssK (o : Option (D × List Sl)) (rs : List Rs) : Option (List Rs × List Sl) := match o with
  | none => none
  | some (d, δ1) => ssK2 (.fz d) (settleS rs δ1)
theorem settleS_nil : settleS [] δ = some ([], δ) := (rfl)
theorem settleS_fz {rs : List Rs} : settleS (.fz d :: rs) δ = ssK2 (.fz d) (settleS rs δ) := (rfl)
theorem settleS_fresh {rs : List Rs} : settleS (.fresh ds :: rs) δ = ssK2 (.fresh ds) (settleS rs δ) := (rfl)
theorem settleS_slot {rs : List Rs} : settleS (.slot i :: rs) δ = ssK ((Rs.slot i).settle δ) rs := (rfl)
theorem ssK_ok {rs : List Rs} : ssK (some (d, δ)) rs = ssK2 (.fz d) (settleS rs δ) := (rfl)
theorem ssK2_ok {rs : List Rs} : ssK2 r (some (rs, δ)) = some (r :: rs, δ) := (rfl)
def grK (is : List Nat) (rs : List Rs) (o : Option (List Sl)) : Option (List Sl) := match o with
  | none => none
  | some δ1 => gRs is rs δ1
theorem gRs_nil : gRs [] [] δ = some δ := (rfl)
theorem gRs_fz {is : List Nat} {rs : List Rs} : gRs (i :: is) (.fz d :: rs) δ = grK is rs (gN i (.fz d) δ) := (rfl)
theorem gRs_fresh {is : List Nat} {rs : List Rs} : gRs (i :: is) (.fresh ds :: rs) δ = grK is rs (gN i (.fresh ds) δ) := (rfl)
theorem grK_ok {is : List Nat} {rs : List Rs} : grK is rs (some δ) = gRs is rs δ := (rfl)
def augK3 (i : Nat) (o : Option OR) (δ : List Sl) : Option Out := match o with
  | none => none
  | some o => asgK (gN i o.rs δ)
def augK2 (sem : D → D → Option OR) (i : Nat) (d : D) (o : Option D) (δ : List Sl) : Option Out := match o with
  | none => none
  | some d2 => augK3 i (sem d d2) δ
def auK (sem : D → D → Option OR) (i : Nat) (d : D) (r : Rs) (δ : List Sl) : Option Out := augK2 sem i d (r.data δ) δ
def augK (sem : D → D → Option OR) (i : Nat) (e : ED) (o : Option Sl) (δ : List Sl) : Option Out := match o with
  | some (.fz d) => Out.with (e δ) (auK sem i d)
  | _ => none
theorem ev_aug {sem : D → D → Option OR} {e : ED} : sAug sem i e δ = augK sem i e δ[i]? δ := by
  unfold sAug augK auK augK2 augK3 asgK
  rfl
theorem augK_ok {sem : D → D → Option OR} {e : ED} : augK sem i e (some (.fz d)) δ = Out.with (e δ) (auK sem i d) := (rfl)
theorem ev_auK {sem : D → D → Option OR} : auK sem i d r δ = augK2 sem i d (r.data δ) δ := (rfl)
theorem augK2_ok {sem : D → D → Option OR} : augK2 sem i d (some e) δ = augK3 i (sem d e) δ := (rfl)
theorem augK3_v : augK3 i (some (.v d)) δ = asgK (gN i (.fz d) δ) := (rfl)
theorem ev_raise {y : Str} : sRaise y δ = some (.er ⟨y, none⟩ δ) := (rfl)
def appK4 (o : Option (List Sl)) : Option Out := match o with
  | some δ4 => some (.nx δ4)
  | none => none
def appK3 (i : Nat) (o : Option (List D × List Sl)) : Option Out := match o with
  | some ([d], δ3) => appK4 (appTo δ3 i d)
  | _ => none
def appK2 (i : Nat) (o : Option AR) : Option Out := match o with
  | some (.ok rs δ2) => appK3 i (settleL rs δ2)
  | some (.er y δ2) => some (.er y δ2)
  | _ => none
def appK (a : AD) (o : Option ER) : Option Out := match o with
  | some (.ok (.slot i) δ1) => if isOwnAt δ1 i then appK2 i (a δ1) else none
  | _ => none
theorem ev_app {e : ED} {a : AD} : sApp e a δ = appK a (e δ) := by
  unfold sApp appK appK2 appK3 appK4
  rfl
theorem appK_ok {a : AD} : appK a (some (.ok (.slot i) δ)) = if isOwnAt δ i then appK2 i (a δ) else none := (rfl)
theorem appK2_ok {rs : List Rs} : appK2 i (some (.ok rs δ)) = appK3 i (settleL rs δ) := (rfl)
theorem appK3_ok : appK3 i (some ([d], δ)) = appK4 (appTo δ i d) := (rfl)
theorem appK4_ok : appK4 (some δ) = some (.nx δ) := (rfl)
def ioaK (o : Option Sl) : Bool := match o with
  | some s => s.isOwn
  | none => false
theorem ev_isOwnAt : isOwnAt δ i = ioaK δ[i]? := (rfl)
theorem ioaK_own : ioaK (some (.own ds)) = true := (rfl)
theorem ioaK_io : ioaK (some (.io ds)) = true := (rfl)
def apK (o : Option Sl) (i : Nat) (d : D) (δ : List Sl) : Option (List Sl) := match o with
  | some (.own ds) => if ds.length < 16777216 then some (δ.set i (.own (ds ++ [d]))) else none
  | some (.io ds) => if ds.length < 16777216 then some (δ.set i (.io (ds ++ [d]))) else none
  | _ => none
theorem ev_appTo : appTo δ i d = apK δ[i]? i d δ := (rfl)
theorem apK_own : apK (some (.own ds)) i d δ = if ds.length < 16777216 then some (δ.set i (.own (ds ++ [d]))) else none := (rfl)
/-! walks -/
def seqK2 (o : Option (D × List Sl)) : Option IR := match o with
  | some (.lst ds, δ2) => some (.ok ds δ2)
  | some (.tup ds, δ2) => some (.ok ds δ2)
  | some (.scr ds, δ2) => some (.ok ds δ2)
  | _ => none
def seqK (o : Option ER) : Option IR := match o with
  | none => none
  | some (.er x δ1) => some (.er x δ1)
  | some (.ok r δ1) => seqK2 (r.settle δ1)
theorem ev_itSeq {e : ED} : itSeq e δ = seqK (e δ) := (rfl)
theorem seqK_ok : seqK (some (.ok r δ)) = seqK2 (r.settle δ) := (rfl)
theorem seqK_er : seqK (some (.er x δ)) = some (.er x δ) := (rfl)
theorem seqK2_lst : seqK2 (some (.lst ds, δ)) = some (.ok ds δ) := (rfl)
theorem seqK2_tup : seqK2 (some (.tup ds, δ)) = some (.ok ds δ) := (rfl)
theorem seqK2_scr : seqK2 (some (.scr ds, δ)) = some (.ok ds δ) := (rfl)
def argK3 (o : Option (List D)) (δ : List Sl) : Option IR := match o with
  | none => none
  | some its => some (.ok its δ)
def argK2 (f : List D → Option (List D)) (o : Option (List D × List Sl)) : Option IR := match o with
  | none => none
  | some (ds, δ2) => argK3 (f ds) δ2
def argK (f : List D → Option (List D)) (o : Option AR) : Option IR := match o with
  | none => none
  | some (.er x δ1) => some (.er x δ1)
  | some (.ok rs δ1) => argK2 f (settleL rs δ1)
theorem ev_itArgs {a : AD} {f : List D → Option (List D)} : itArgs a f δ = argK f (a δ) := (rfl)
theorem argK_ok {f : List D → Option (List D)} {rs : List Rs} : argK f (some (.ok rs δ)) = argK2 f (settleL rs δ) := (rfl)
theorem argK_er {f : List D → Option (List D)} : argK f (some (.er x δ)) = some (.er x δ) := (rfl)
theorem argK2_ok {f : List D → Option (List D)} : argK2 f (some (ds, δ)) = argK3 (f ds) δ := (rfl)
theorem argK3_ok : argK3 (some ds) δ = some (.ok ds δ) := (rfl)
theorem fR1_ok {j : Int} (h : -4611686018427387904 ≤ j ∧ j < 4611686018427387904) : fR1 [.int j] = some (rangeD 0 j.toNat) := if_pos h
theorem fR2_ok {k j : Int} (h : -4611686018427387904 ≤ k ∧ k < 4611686018427387904 ∧ -4611686018427387904 ≤ j ∧ j < 4611686018427387904) : fR2 [.int k, .int j] = some (rangeD k (j - k).toNat) := if_pos h
theorem fEnum_ok : fEnum [.lst ds] = some (enumD ds) := (rfl)
theorem fEnumA_lst : fEnumA [.lst ds] = some (enumD ds) := (rfl)
theorem fEnumA_tup : fEnumA [.tup ds] = some (enumD ds) := (rfl)
theorem fZip_lst {es : List D} : fZip [.lst ds, .lst es] = some (zipD ds es) := (rfl)
theorem fZip_tup {es : List D} : fZip [.tup ds, .tup es] = some (zipD ds es) := (rfl)
def lcK2 (δ1 : List Sl) (vs : List Nat) (o : Option (List D × List Sl)) : Option ER := match o with
  | none => none
  | some (acc, δ2) => some (.ok (.fresh acc) (restS δ1 δ2 vs))
def lcK (g : GD) (t : TD) (e : ED) (vs : List Nat) (o : Option IR) : Option ER := match o with
  | none => none
  | some (.er x δ1) => some (.er x δ1)
  | some (.ok items δ1) => if canWipe δ1 vs then lcK2 δ1 vs (lcL g t e vs items (wipeS δ1 vs) []) else none
theorem ev_lc {it : ID} {g : GD} {t : TD} {e : ED} {vs : List Nat} : eLc it g t e vs δ = lcK g t e vs (it δ) := (rfl)
theorem lcK_ok {g : GD} {t : TD} {e : ED} {vs : List Nat} : lcK g t e vs (some (.ok ds δ)) = if canWipe δ vs then lcK2 δ vs (lcL g t e vs ds (wipeS δ vs) []) else none := (rfl)
theorem lcK_er {g : GD} {t : TD} {e : ED} {vs : List Nat} : lcK g t e vs (some (.er x δ)) = some (.er x δ) := (rfl)
theorem lcK2_ok {vs : List Nat} {acc : List D} : lcK2 δ vs (some (acc, δ')) = some (.ok (.fresh acc) (restS δ δ' vs)) := (rfl)
def cwK (o : Option Sl) : Bool := match o with
  | some s => !s.isOwn
  | none => true
theorem cw_nil : canWipe δ [] = true := (rfl)
theorem cw_cons {vs : List Nat} : canWipe δ (i :: vs) = (cwK δ[i]? && canWipe δ vs) := by
  unfold canWipe cwK
  rw [List.all_cons]
  all_goals rfl
theorem cwK_no : cwK (some .no) = true := (rfl)
theorem cwK_fz : cwK (some (.fz d)) = true := (rfl)
theorem wipeS_nil : wipeS δ [] = δ := (rfl)
theorem wipeS_cons {vs : List Nat} : wipeS δ (i :: vs) = (wipeS δ vs).set i .no := (rfl)
def rsK (o : Option Sl) (i : Nat) (δ : List Sl) : List Sl := match o with
  | some s => δ.set i s
  | none => δ
theorem restS_nil : restS δ δ' [] = δ' := (rfl)
theorem restS_cons {vs : List Nat} : restS δ δ' (i :: vs) = rsK δ[i]? i (restS δ δ' vs) := by
  unfold rsK
  rw [restS]
  all_goals (cases δ[i]? <;> rfl)
theorem rsK_some {s : Sl} : rsK (some s) i δ = δ.set i s := (rfl)
def forK (g : GD) (b : SD) (o : Option IR) : Option Out := match o with
  | none => none
  | some (.er x δ1) => some (.er x δ1)
  | some (.ok items δ1) => forL g b items δ1
theorem ev_for {it : ID} {g : GD} {s : SD} : sFor it g s δ = forK g s (it δ) := (rfl)
theorem forK_ok {g : GD} {s : SD} : forK g s (some (.ok ds δ)) = forL g s ds δ := (rfl)
/-! a def's outcome -/
def rtO (r : Rs) (δ : List Sl) : Option FO := match r with
  | .fz d => some (.ret d)
  | .fresh ds => some (.retL ds)
  | .slot i => match δ[i]? with
    | some (.own ds) => some (.retL ds)
    | some (.fz d) => some (.ret d)
    | _ => none
def semFO (o : Option Out) : Option FO := match o with
  | some (.nx _) => some (.ret .non)
  | some (.rt r δ) => rtO r δ
  | some (.er x _) => some (.er x)
  | _ => none
def rtS (o : Option Sl) : Option FO := match o with
  | some (.own ds) => some (.retL ds)
  | some (.fz d) => some (.ret d)
  | _ => none
def prO (o : Option FO) (dh : List D) : Option (FO × List D) := match o with
  | some f => some (f, dh)
  | none => none
def semIoO (o : Option Out) : Option (FO × List D) := match o with
  | some (.nx (.io dh' :: _)) => some (.ret .non, dh')
  | some (.rt r (.io dh' :: δ)) => prO (rtO r (.io dh' :: δ)) dh'
  | some (.er x (.io dh' :: _)) => some (.er x, dh')
  | _ => none
theorem semFO_nx : semFO (some (.nx δ)) = some (.ret .non) := (rfl)
theorem semFO_rt : semFO (some (.rt r δ)) = rtO r δ := (rfl)
theorem semFO_er : semFO (some (.er x δ)) = some (.er x) := (rfl)
theorem rtO_fz : rtO (.fz d) δ = some (.ret d) := (rfl)
theorem rtO_fresh : rtO (.fresh ds) δ = some (.retL ds) := (rfl)
theorem rtO_slot : rtO (.slot i) δ = rtS δ[i]? := by
  unfold rtO rtS
  rfl
theorem rtS_own : rtS (some (.own ds)) = some (.retL ds) := (rfl)
theorem rtS_fz : rtS (some (.fz d)) = some (.ret d) := (rfl)
theorem semIoO_nx {dh : List D} : semIoO (some (.nx (.io dh :: δ))) = some (.ret .non, dh) := (rfl)
theorem semIoO_rt {dh : List D} : semIoO (some (.rt r (.io dh :: δ))) = prO (rtO r (.io dh :: δ)) dh := (rfl)
theorem semIoO_er {dh : List D} : semIoO (some (.er x (.io dh :: δ))) = some (.er x, dh) := (rfl)
theorem prO_ok {f : FO} {dh : List D} : prO (some f) dh = some (f, dh) := (rfl)
theorem semF_q {m n : Nat} {sd : SD} (h : ds.length = n) : semF m n sd ds = semFO (sd (ds.map Sl.fz ++ List.replicate (m - n) Sl.no)) := by
  unfold semF semFO rtO
  rw [if_pos h]
  all_goals
    generalize sd (ds.map Sl.fz ++ List.replicate (m - n) Sl.no) = o
    cases o with
    | none => rfl
    | some o =>
      cases o with
      | rt r δ =>
        cases r with
        | slot i =>
          dsimp only
          cases δ[i]? with
          | none => rfl
          | some s => cases s <;> rfl
        | _ => rfl
      | _ => rfl
theorem semIo_q {m n : Nat} {sd : SD} {dh : List D} (h : ds.length + 1 = n) : semIo m n sd (.lst dh :: ds) = semIoO (sd (.io dh :: (ds.map Sl.fz ++ List.replicate (m - n) Sl.no))) := by
  unfold semIo semIoO rtO prO
  dsimp only
  rw [if_pos h]
  all_goals
    generalize sd (.io dh :: (ds.map Sl.fz ++ List.replicate (m - n) Sl.no)) = o
    cases o with
    | none => rfl
    | some o =>
      cases o with
      | nx δ => cases δ with
        | nil => rfl
        | cons s δ => cases s <;> rfl
      | bk δ => rfl
      | ct δ => rfl
      | er x δ => cases δ with
        | nil => rfl
        | cons s δ => cases s <;> rfl
      | rt r δ => cases δ with
        | nil => rfl
        | cons s δ =>
          cases s with
          | io dh' =>
            cases r with
            | fz d => rfl
            | fresh ds => rfl
            | slot i =>
              dsimp only
              cases (Sl.io dh' :: δ)[i]? with
              | none => rfl
              | some s => cases s <;> rfl
          | _ => rfl
end
/-! ## values -/
section
variable {i j k : Int} {ds es : List D} {d e : D} {b c : Bool}
theorem add_int : addD (.int i) (.int j) = some (.v (.int (i + j))) := by unfold addD; rfl
theorem sub_int : subD (.int i) (.int j) = some (.v (.int (i - j))) := (rfl)
theorem iadd_int : iaddD (.int i) (.int j) = some (.v (.int (i + j))) := (rfl)
theorem mulC_l (h : -18446744073709551616 < i ∧ i < 18446744073709551616) : mulC i j = true := by
  unfold mulC
  simp [h]
theorem mulC_r (h : -18446744073709551616 < j ∧ j < 18446744073709551616) : mulC i j = true := by
  unfold mulC
  simp [h]
theorem mul_c (h : mulC i j = true) : mulD (.int i) (.int j) = some (.v (.int (i * j))) := by
  unfold mulD
  simp only
  unfold iicD
  dsimp only
  rw [if_pos h]
theorem mul_l (h : -18446744073709551616 < i ∧ i < 18446744073709551616) : mulD (.int i) (.int j) = some (.v (.int (i * j))) := mul_c (mulC_l h)
theorem mul_r (h : -18446744073709551616 < j ∧ j < 18446744073709551616) : mulD (.int i) (.int j) = some (.v (.int (i * j))) := mul_c (mulC_r h)
theorem div_int (h : 0 < j ∧ j < 18446744073709551616) : divD (.int i) (.int j) = some (.v (.int (i / j))) := by
  unfold divD
  dsimp only
  refine if_pos ?_
  unfold divC
  rw [Bool.and_eq_true, decide_eq_true_eq, decide_eq_true_eq]
  refine ⟨h.1, ?_⟩
  have h1 : j.natAbs < 2 ^ 64 := by omega
  have h2 : j.natAbs ≠ 0 := by omega
  have := (Nat.log2_lt h2).mpr h1
  omega
theorem mod_int (h : 0 < j) : modD (.int i) (.int j) = some (.v (.int (i % j))) := by
  unfold modD
  dsimp only
  exact if_pos (decide_eq_true h)
theorem pow_int (h : 0 ≤ j ∧ j ≤ 1000000) (h2 : -18446744073709551616 < i ∧ i < 18446744073709551616) : powD (.int i) (.int j) = some (.v (.int (i ^ j.toNat))) := by
  unfold powD iicD
  dsimp only
  refine if_pos ?_
  unfold powC
  have h3 : i.natAbs < 2 ^ 64 := by omega
  simp only [Bool.and_eq_true, decide_eq_true_eq]
  exact ⟨⟨h.1, h.2⟩, h3⟩
theorem neg_int : negD (.int i) = some (.v (.int (-i))) := (rfl)
theorem lt_int : ltD (.int i) (.int j) = some (.v (.bl (decide (i < j)))) := (rfl)
theorem le_int : leD (.int i) (.int j) = some (.v (.bl (decide (i ≤ j)))) := (rfl)
theorem gt_int : gtD (.int i) (.int j) = some (.v (.bl (decide (j < i)))) := (rfl)
theorem ge_int : geD (.int i) (.int j) = some (.v (.bl (decide (j ≤ i)))) := (rfl)
theorem eq_int : eqX false (.int i) (.int j) = some (.v (.bl (decide (i = j)))) := by
  unfold eqX eqD
  by_cases h : i = j <;> simp [okEq, eqB, h]
theorem ne_int : eqX true (.int i) (.int j) = some (.v (.bl (decide (i ≠ j)))) := by
  unfold eqX eqD
  by_cases h : i = j <;> simp [okEq, eqB, h]
theorem eq_str {x y : Str} : eqX false (.str x) (.str y) = some (.v (.bl (x == y))) := by
  show some (OR.v (D.bl (false != (x == y)))) = _
  cases (x == y) <;> rfl
theorem ne_str {x y : Str} : eqX true (.str x) (.str y) = some (.v (.bl (!(x == y)))) := by
  show some (OR.v (D.bl (true != (x == y)))) = _
  cases (x == y) <;> rfl
theorem int_bl : intD [.bl b] = some (.v (.int (if b then 1 else 0))) := (rfl)
theorem int_int : intD [.int i] = some (.v (.int i)) := (rfl)
theorem abs_int : absD [.int i] = some (.v (.int (if i < 0 then -i else i))) := (rfl)
theorem len_lst : lenD [.lst ds] = some (.v (.int ds.length)) := (rfl)
theorem len_tup : lenD [.tup ds] = some (.v (.int ds.length)) := (rfl)
theorem len_scr : lenD [.scr ds] = some (.v (.int ds.length)) := (rfl)
theorem max2_int : max2D [.int i, .int j] = some (.v (.int (if j > i then j else i))) := (rfl)
theorem min2_int : min2D [.int i, .int j] = some (.v (.int (if j < i then j else i))) := (rfl)
theorem ix_lst (h : atI ds i = some d) : ixD (.lst ds) (.int i) = some (.v d) := by
  show (atI ds i).map OR.v = _
  rw [h]; rfl
theorem ix_tup (h : atI ds i = some d) : ixD (.tup ds) (.int i) = some (.v d) := by
  show (atI ds i).map OR.v = _
  rw [h]; rfl
theorem ixk {j : Nat} (h : ds[j]? = some d) : atI ds (j : Int) = some d := by
  have h1 := (List.getElem?_eq_some_iff.mp h).1
  unfold atI ixN
  rw [if_pos (by omega), if_pos (by omega)]
  exact h
section
variable {a0 a1 a2 a3 a4 a5 a6 : D}
theorem ix_l0 : ixD (.lst (a0 :: ds)) (.int 0) = some (.v a0) := ix_lst (ixk (j := 0) rfl)
theorem ix_l1 : ixD (.lst (a0 :: a1 :: ds)) (.int 1) = some (.v a1) := ix_lst (ixk (j := 1) rfl)
theorem ix_l2 : ixD (.lst (a0 :: a1 :: a2 :: ds)) (.int 2) = some (.v a2) := ix_lst (ixk (j := 2) rfl)
theorem ix_l3 : ixD (.lst (a0 :: a1 :: a2 :: a3 :: ds)) (.int 3) = some (.v a3) := ix_lst (ixk (j := 3) rfl)
theorem ix_l4 : ixD (.lst (a0 :: a1 :: a2 :: a3 :: a4 :: ds)) (.int 4) = some (.v a4) := ix_lst (ixk (j := 4) rfl)
theorem ix_l5 : ixD (.lst (a0 :: a1 :: a2 :: a3 :: a4 :: a5 :: ds)) (.int 5) = some (.v a5) := ix_lst (ixk (j := 5) rfl)
theorem ix_l6 : ixD (.lst (a0 :: a1 :: a2 :: a3 :: a4 :: a5 :: a6 :: ds)) (.int 6) = some (.v a6) := ix_lst (ixk (j := 6) rfl)
theorem ix_t0 : ixD (.tup (a0 :: ds)) (.int 0) = some (.v a0) := ix_tup (ixk (j := 0) rfl)
theorem ix_t1 : ixD (.tup (a0 :: a1 :: ds)) (.int 1) = some (.v a1) := ix_tup (ixk (j := 1) rfl)
theorem ix_t2 : ixD (.tup (a0 :: a1 :: a2 :: ds)) (.int 2) = some (.v a2) := ix_tup (ixk (j := 2) rfl)
theorem ix_t3 : ixD (.tup (a0 :: a1 :: a2 :: a3 :: ds)) (.int 3) = some (.v a3) := ix_tup (ixk (j := 3) rfl)
theorem ix_t4 : ixD (.tup (a0 :: a1 :: a2 :: a3 :: a4 :: ds)) (.int 4) = some (.v a4) := ix_tup (ixk (j := 4) rfl)
theorem ix_t5 : ixD (.tup (a0 :: a1 :: a2 :: a3 :: a4 :: a5 :: ds)) (.int 5) = some (.v a5) := ix_tup (ixk (j := 5) rfl)
end
theorem atI_pos (h0 : 0 ≤ i) (h1 : i < ds.length) : atI ds i = some (ds[i.toNat]'(by omega)) := by
  unfold atI ixN
  rw [if_pos h0, if_pos h1]
  show ds[i.toNat]? = _
  rw [List.getElem?_eq_getElem]
theorem atI_get? (h0 : 0 ≤ i) (h : ds[i.toNat]? = some d) : atI ds i = some d := by
  have h1 := (List.getElem?_eq_some_iff.mp h).1
  unfold atI ixN
  rw [if_pos h0, if_pos (by omega)]
  exact h
theorem slice_lst {lo hi : Option Int} : sliceD (.lst ds) lo hi = some (.l (cutD ds lo hi)) := (rfl)
theorem slice_scr {lo hi : Option Int} : sliceD (.scr ds) lo hi = some (.l (cutD ds lo hi)) := (rfl)
theorem cut_take {n : Int} (h : 0 ≤ n) : cutD ds none (some n) = ds.take n.toNat := by
  unfold cutD
  have e1 : HT.sIx ds.length 0 none = 0 := (rfl)
  have e2 : HT.sIx ds.length ds.length (some n) = min n.toNat ds.length := by
    unfold HT.sIx
    exact if_neg (by omega)
  rw [e1, e2, List.drop_zero, Nat.sub_zero]
  by_cases hn : n.toNat ≤ ds.length
  · rw [Nat.min_eq_left hn]
  · rw [Nat.min_eq_right (by omega), List.take_of_length_le (Nat.le_refl _), List.take_of_length_le (by omega)]
theorem cut_drop {n : Int} (h : 0 ≤ n) : cutD ds (some n) none = ds.drop n.toNat := by
  unfold cutD
  have e1 : HT.sIx ds.length 0 (some n) = min n.toNat ds.length := by
    unfold HT.sIx
    exact if_neg (by omega)
  have e2 : HT.sIx ds.length ds.length none = ds.length := (rfl)
  rw [e1, e2]
  by_cases hn : n.toNat ≤ ds.length
  · rw [Nat.min_eq_left hn, List.take_of_length_le (by simp)]
  · rw [Nat.min_eq_right (by omega), Nat.sub_self, List.take_zero, List.drop_eq_nil_of_le (by omega)]
theorem sum_ints {ns : List Int} : sumD [.lst (ns.map D.int)] = some (.v (.int ns.sum)) := by
  unfold sumD
  simp only [asInts_map]
  rfl
theorem all_bls {ns : List Bool} : allD [.lst (ns.map D.bl)] = some (.v (.bl (ns.all id))) := by
  unfold allD
  simp only [asBls_map]
  rfl
theorem any_bls {ns : List Bool} : anyD [.lst (ns.map D.bl)] = some (.v (.bl (ns.any id))) := by
  unfold anyD
  simp only [asBls_map]
  rfl
theorem isi_int_int : isiD [.int i, .ty "int"] = some (.v (.bl true)) := (rfl)
theorem isi_int_bool : isiD [.int i, .ty "bool"] = some (.v (.bl false)) := (rfl)
theorem isi_int_tuple : isiD [.int i, .ty "tuple"] = some (.v (.bl false)) := (rfl)
theorem isi_int_list : isiD [.int i, .ty "list"] = some (.v (.bl false)) := (rfl)
theorem isi_int_str : isiD [.int i, .ty "str"] = some (.v (.bl false)) := (rfl)
theorem isi_tup_tuple : isiD [.tup ds, .ty "tuple"] = some (.v (.bl true)) := (rfl)
theorem isi_tup_int : isiD [.tup ds, .ty "int"] = some (.v (.bl false)) := (rfl)
theorem isi_tup_bool : isiD [.tup ds, .ty "bool"] = some (.v (.bl false)) := (rfl)
theorem isi_lst_list : isiD [.lst ds, .ty "list"] = some (.v (.bl true)) := (rfl)
theorem isi_lst_tuple : isiD [.lst ds, .ty "tuple"] = some (.v (.bl false)) := (rfl)
theorem isi_non_int : isiD [.non, .ty "int"] = some (.v (.bl false)) := (rfl)
theorem isi_str_str {x : Str} : isiD [.str x, .ty "str"] = some (.v (.bl true)) := (rfl)
theorem isi_bl_bool : isiD [.bl b, .ty "bool"] = some (.v (.bl true)) := (rfl)
theorem isi_bl_int : isiD [.bl b, .ty "int"] = some (.v (.bl true)) := (rfl)
theorem repr_ok {n : Nat} (h : shSz d 64 = some n) (hn : n ≤ 16777216) : reprD [d] = some (.v (.str (shw d))) := by
  unfold reprD
  simp only [h, hn, if_true]
theorem any_ints {ns : List Int} : (ns.map D.int).any (fun d => eqB d (.int i)) = decide (i ∈ ns) := by
  induction ns with
  | nil => simp
  | cons n ns ih =>
    rw [List.map_cons, List.any_cons, ih]
    by_cases h : n = i
    · subst h; simp [eqB]
    · have h' : ¬ i = n := fun z => h z.symm
      simp [eqB, h, h']
theorem flat_ints {ns : List Int} : (ns.map D.int).all flatD = true := by simp [flatD]
theorem in_tup {ns : List Int} : inD false (.int i) (.tup (ns.map D.int)) = some (.v (.bl (decide (i ∈ ns)))) := by
  show (if flatD (D.int i) && (ns.map D.int).all flatD then some (OR.v (.bl (false != (ns.map D.int).any fun c => eqB c (.int i)))) else none) = _
  rw [any_ints, flat_ints]
  by_cases h : i ∈ ns <;> simp [flatD, h]
theorem in_lst {ns : List Int} : inD false (.int i) (.lst (ns.map D.int)) = some (.v (.bl (decide (i ∈ ns)))) := by
  show (if flatD (D.int i) && (ns.map D.int).all flatD then some (OR.v (.bl (false != (ns.map D.int).any fun c => eqB c (.int i)))) else none) = _
  rw [any_ints, flat_ints]
  by_cases h : i ∈ ns <;> simp [flatD, h]
theorem nin_tup {ns : List Int} : inD true (.int i) (.tup (ns.map D.int)) = some (.v (.bl (decide (i ∉ ns)))) := by
  show (if flatD (D.int i) && (ns.map D.int).all flatD then some (OR.v (.bl (true != (ns.map D.int).any fun c => eqB c (.int i)))) else none) = _
  rw [any_ints, flat_ints]
  by_cases h : i ∈ ns <;> simp [flatD, h]
theorem nin_lst {ns : List Int} : inD true (.int i) (.lst (ns.map D.int)) = some (.v (.bl (decide (i ∉ ns)))) := by
  show (if flatD (D.int i) && (ns.map D.int).all flatD then some (OR.v (.bl (true != (ns.map D.int).any fun c => eqB c (.int i)))) else none) = _
  rw [any_ints, flat_ints]
  by_cases h : i ∈ ns <;> simp [flatD, h]
theorem eqBL_ints : ∀ {ns ms : List Int}, eqBL (ns.map D.int) (ms.map D.int) = decide (ns = ms)
  | [], [] => rfl
  | [], _ :: _ => by simp [eqBL]
  | _ :: _, [] => by simp [eqBL]
  | n :: ns, m :: ms => by
    rw [List.map_cons, List.map_cons]
    unfold eqBL
    rw [eqBL_ints]
    by_cases h : n = m <;> by_cases h2 : ns = ms <;> simp [eqB, h, h2]
theorem okEqL_ints {k : Nat} : ∀ {ns : List Int}, okEqL (ns.map D.int) k = true
  | [] => by simp [okEqL]
  | n :: ns => by
    rw [List.map_cons]
    unfold okEqL
    rw [okEqL_ints]
    simp [okEq]
theorem eq_tints {ns ms : List Int} : eqX false (.tup (ns.map D.int)) (.tup (ms.map D.int)) = some (.v (.bl (decide (ns = ms)))) := by
  unfold eqX eqD
  simp only [okEq, okEqL_ints, eqB, eqBL_ints]
  by_cases h : ns = ms <;> simp [h]
theorem ne_tints {ns ms : List Int} : eqX true (.tup (ns.map D.int)) (.tup (ms.map D.int)) = some (.v (.bl (decide (ns ≠ ms)))) := by
  unfold eqX eqD
  simp only [okEq, okEqL_ints, eqB, eqBL_ints]
  by_cases h : ns = ms <;> simp [h]
theorem eq_lints {ns ms : List Int} : eqX false (.lst (ns.map D.int)) (.lst (ms.map D.int)) = some (.v (.bl (decide (ns = ms)))) := by
  unfold eqX eqD
  simp only [okEq, okEqL_ints, eqB, eqBL_ints]
  by_cases h : ns = ms <;> simp [h]
theorem ne_lints {ns ms : List Int} : eqX true (.lst (ns.map D.int)) (.lst (ms.map D.int)) = some (.v (.bl (decide (ns ≠ ms)))) := by
  unfold eqX eqD
  simp only [okEq, okEqL_ints, eqB, eqBL_ints]
  by_cases h : ns = ms <;> simp [h]
theorem tuple_lst : tupleD [.lst ds] = some (.t ds) := (rfl)
theorem tuple_tup : tupleD [.tup ds] = some (.v (.tup ds)) := (rfl)
mutual
theorem eqB_self : ∀ (d : D) (n : Nat), okEq d n = true → eqB d d = true
  | .non, _, _ => by simp [eqB]
  | .bl b, _, _ => by simp [eqB]
  | .int i, _, _ => by simp [eqB]
  | .str x, _, _ => by simp [eqB]
  | .lst ds, 0, h => by simp [okEq] at h
  | .lst ds, n + 1, h => by
    simp only [okEq] at h
    simpa [eqB] using eqBL_self ds n h
  | .tup ds, 0, h => by simp [okEq] at h
  | .tup ds, n + 1, h => by
    simp only [okEq] at h
    simpa [eqB] using eqBL_self ds n h
  | .scr _, n, h => by simp [okEq] at h
  | .dct _ _, n, h => by simp [okEq] at h
  | .fn _ _, n, h => by simp [okEq] at h
  | .ty _, n, h => by simp [okEq] at h
theorem eqBL_self : ∀ (ds : List D) (n : Nat), okEqL ds n = true → eqBL ds ds = true
  | [], _, _ => by simp [eqBL]
  | d :: ds, n, h => by
    unfold okEqL at h
    rw [Bool.and_eq_true] at h
    simp [eqBL, eqB_self d n h.1, eqBL_self ds n h.2]
end
theorem eq_self (h : okEq d 64 = true) : eqX false d d = some (.v (.bl true)) := by
  unfold eqX
  split
  · simp
  · unfold eqD
    simp [h, eqB_self d 64 h]
theorem ne_self (h : okEq d 64 = true) : eqX true d d = some (.v (.bl false)) := by
  unfold eqX
  split
  · simp
  · unfold eqD
    simp [h, eqB_self d 64 h]
theorem slice_tup_take {n : Int} (h : 0 ≤ n) : sliceD (.tup ds) none (some n) = some (.v (.tup (ds.take n.toNat))) ∨ sliceD (.tup ds) none (some n) = some (.t (ds.take n.toNat)) := by
  have e := cut_take (ds := ds) h
  unfold sliceD
  dsimp only
  split
  · rename_i hw
    left
    have h2 := hw.2
    have e2 : HT.sIx ds.length ds.length (some n) = min n.toNat ds.length := by
      unfold HT.sIx
      exact if_neg (by omega)
    rw [e2] at h2
    rw [List.take_of_length_le (by omega)]
  · right
    rw [e]
theorem slT_take {n : Int} (h : 0 ≤ n) {δ : List Sl} : opO (sliceD (.tup ds) none (some n)) δ = some (.ok (.fz (.tup (ds.take n.toNat))) δ) := by
  rcases slice_tup_take (ds := ds) h with e | e <;> rw [e] <;> rfl
theorem add_lst (h : ds.length + es.length ≤ 16777216) : addD (.lst ds) (.lst es) = some (.l (ds ++ es)) := by
  show addL (.lst ds) (.lst es) = _
  unfold addL
  exact if_pos h
theorem eq_bl : eqX false (.bl b) (.bl c) = some (.v (.bl (b == c))) := by cases b <;> cases c <;> rfl
theorem ne_bl : eqX true (.bl b) (.bl c) = some (.v (.bl (b != c))) := by cases b <;> cases c <;> rfl
theorem eq_t2 {a b c d : Int} : eqX false (.tup [.int a, .int b]) (.tup [.int c, .int d]) = some (.v (.bl (decide (a = c ∧ b = d)))) := by
  have := eq_tints (ns := [a, b]) (ms := [c, d])
  simpa using this
theorem ne_t2 {a b c d : Int} : eqX true (.tup [.int a, .int b]) (.tup [.int c, .int d]) = some (.v (.bl (decide (¬ (a = c ∧ b = d))))) := by
  have := ne_tints (ns := [a, b]) (ms := [c, d])
  simpa using this
theorem eq_t3 {a b c d e f : Int} : eqX false (.tup [.int a, .int b, .int c]) (.tup [.int d, .int e, .int f]) = some (.v (.bl (decide (a = d ∧ b = e ∧ c = f)))) := by
  have := eq_tints (ns := [a, b, c]) (ms := [d, e, f])
  simpa using this
theorem ne_t3 {a b c d e f : Int} : eqX true (.tup [.int a, .int b, .int c]) (.tup [.int d, .int e, .int f]) = some (.v (.bl (decide (¬ (a = d ∧ b = e ∧ c = f))))) := by
  have := ne_tints (ns := [a, b, c]) (ms := [d, e, f])
  simpa using this
end
end Dn

namespace Dn
open PySem PySem.Spec L2
/-! ## reckoning by simp: what DnA adds -/
section
variable {δ : List Sl} {d e : D} {ds es : List D} {i j : Nat} {k : Int} {r : Rs} {x : Ex} {sem : D → D → Option OR} {me : D → List D → Option OR} {a : AD} {rs : List Rs}
theorem ev_augIx {o ix ed : ED} : sAugIx sem o ix ed δ = sAugIx1 sem ix ed (o δ) := (rfl)
theorem augIx1_ok {ix ed : ED} : sAugIx1 sem ix ed (some (.ok (.slot j) δ)) = sAugIx2 sem j ed (ix δ) := (rfl)
def augIxK (sem : D → D → Option OR) (j : Nat) (k : Int) (ed : ED) (o : Option D) (δ : List Sl) : Option Out := match o with
  | some d => sAugIx3 sem j k d (ed δ)
  | none => none
theorem augIx2_ok {ed : ED} : sAugIx2 sem j ed (some (.ok (.fz (.int k)) δ)) = augIxK sem j k ed (itemOf δ j k) δ := by
  unfold sAugIx2 augIxK
  rfl
def itemK (o : Option Sl) (k : Int) : Option D := match o with
  | some (.own ds) => atI ds k
  | some (.io ds) => atI ds k
  | _ => none
theorem ev_itemOf : itemOf δ j k = itemK δ[j]? k := (rfl)
theorem itemK_own : itemK (some (.own ds)) k = atI ds k := (rfl)
theorem itemK_io : itemK (some (.io ds)) k = atI ds k := (rfl)
theorem augIxK_ok {ed : ED} : augIxK sem j k ed (some d) δ = sAugIx3 sem j k d (ed δ) := (rfl)
def augIx3K (sem : D → D → Option OR) (j : Nat) (k : Int) (d : D) (o : Option D) (δ : List Sl) : Option Out := match o with
  | some d2 => sAugIx4 j k (sem d d2) δ
  | none => none
theorem augIx3_ok : sAugIx3 sem j k d (some (.ok r δ)) = augIx3K sem j k d (r.data δ) δ := by
  unfold sAugIx3 augIx3K
  rfl
theorem augIx3K_ok : augIx3K sem j k d (some e) δ = sAugIx4 j k (sem d e) δ := (rfl)
theorem augIx4_v : sAugIx4 j k (some (.v d)) δ = asgK (putAt j k d δ) := by
  unfold sAugIx4 asgK
  dsimp only
  cases putAt j k d δ <;> rfl
theorem ev_meth {ed : ED} : eMeth me ed a δ = ER.bind (ed δ) (eMeth1 me a) := (rfl)
theorem ev_meth1 : eMeth1 me a r δ = if isLstD (r.data δ) then eMeth2 me r (a δ) else none := (rfl)
theorem isLstD_lst : isLstD (some (.lst ds)) = true := (rfl)
theorem meth2_ok : eMeth2 me r (some (.ok rs δ)) = eMeth3 me r rs δ := (rfl)
def meth3K (me : D → List D → Option OR) (o : Option D) (p : Option (List D)) (δ : List Sl) : Option ER := match o, p with
  | some d, some ds => opO (me d ds) δ
  | _, _ => none
theorem ev_meth3 : eMeth3 me r rs δ = meth3K me (r.data δ) (dataL δ rs) δ := by
  unfold eMeth3 meth3K opO
  cases r.data δ <;> cases dataL δ rs <;> first | rfl | (dsimp only; rename_i d ds; cases me d ds <;> rfl)
theorem meth3K_ok : meth3K me (some d) (some ds) δ = opO (me d ds) δ := (rfl)
theorem ev_ext {ex : ED} : sExt ex a δ = extK a (ex δ) := (rfl)
theorem extK_ok : extK a (some (.ok (.slot i) δ)) = if isOwnAt δ i then extK2 i (a δ) else none := (rfl)
theorem extK2_ok : extK2 i (some (.ok rs δ)) = extK3 i (settleL rs δ) := (rfl)
theorem extK3_ok : extK3 i (some ([.lst es], δ)) = asgK (extTo δ i es) := by
  unfold extK3 asgK
  dsimp only
  cases extTo δ i es <;> rfl
def extT (o : Option Sl) (i : Nat) (es : List D) (δ : List Sl) : Option (List Sl) := match o with
  | some (.own ds) => if ds.length + es.length ≤ 16777216 then some (δ.set i (.own (ds ++ es))) else none
  | some (.io ds) => if ds.length + es.length ≤ 16777216 then some (δ.set i (.io (ds ++ es))) else none
  | _ => none
theorem ev_extTo : extTo δ i es = extT δ[i]? i es δ := (rfl)
theorem extT_own : extT (some (.own ds)) i es δ = if ds.length + es.length ≤ 16777216 then some (δ.set i (.own (ds ++ es))) else none := (rfl)
theorem ev_dct1 {q : Key} : eDct1 q i δ = dct1K q δ[i]? δ := (rfl)
theorem dct1K_fz {q : Key} : dct1K q (some (.fz d)) δ = some (.ok (.fz (.dct [q] [d])) δ) := (rfl)
theorem ev_dct0 : eDct0 δ = some (.ok (.fz (.dct [] [])) δ) := (rfl)
theorem max3_int {a b c : Int} : max3D [.int a, .int b, .int c] = some (.v (.int (max (max a b) c))) := (rfl)
def dcK2 (δ1 : List Sl) (vs : List Nat) (o : Option (List (Key × D) × List Sl)) : Option ER := match o with
  | none => none
  | some (acc, δ2) => some (.ok (.fz (.dct (acc.map Prod.fst) (acc.map Prod.snd))) (restS δ1 δ2 vs))
def dcK (g : GD) (t : TD) (ek ed : ED) (vs : List Nat) (o : Option IR) : Option ER := match o with
  | none => none
  | some (.er x δ1) => some (.er x δ1)
  | some (.ok items δ1) => if canWipe δ1 vs then dcK2 δ1 vs (dcL g t ek ed vs items (wipeS δ1 vs) []) else none
theorem ev_dc {it : ID} {g : GD} {t : TD} {ek el : ED} {vs : List Nat} : eDc it g t ek el vs δ = dcK g t ek el vs (it δ) := by
  unfold eDc dcK dcK2
  cases it δ with
  | none => rfl
  | some o => cases o <;> rfl
theorem dcK_ok {g : GD} {t : TD} {ek el : ED} {vs : List Nat} : dcK g t ek el vs (some (.ok ds δ)) = if canWipe δ vs then dcK2 δ vs (dcL g t ek el vs ds (wipeS δ vs) []) else none := (rfl)
theorem dcK2_ok {δ' : List Sl} {vs : List Nat} {acc : List (Key × D)} : dcK2 δ vs (some (acc, δ')) = some (.ok (.fz (.dct (acc.map Prod.fst) (acc.map Prod.snd))) (restS δ δ' vs)) := (rfl)
theorem forL_nil {g : GD} {b : SD} : forL g b [] δ = some (.nx δ) := (rfl)
def forB (g : GD) (b : SD) (ds : List D) (o : Option Out) : Option Out := match o with
  | some (.nx δ2) => forL g b ds δ2
  | some (.ct δ2) => forL g b ds δ2
  | some (.bk δ2) => some (.nx δ2)
  | o => o
def forG (g : GD) (b : SD) (ds : List D) (o : Option (List Sl)) : Option Out := match o with
  | none => none
  | some δ1 => forB g b ds (b δ1)
theorem forL_cons {g : GD} {b : SD} : forL g b (d :: ds) δ = forG g b ds (g (.fz d) δ) := by
  conv => lhs; unfold forL
  unfold forG forB
  cases g (.fz d) δ <;> rfl
theorem forG_ok {g : GD} {b : SD} : forG g b ds (some δ) = forB g b ds (b δ) := (rfl)
theorem forB_nx {g : GD} {b : SD} : forB g b ds (some (.nx δ)) = forL g b ds δ := (rfl)
theorem forB_ct {g : GD} {b : SD} : forB g b ds (some (.ct δ)) = forL g b ds δ := (rfl)
theorem forB_bk {g : GD} {b : SD} : forB g b ds (some (.bk δ)) = some (.nx δ) := (rfl)
theorem forB_rt {g : GD} {b : SD} : forB g b ds (some (.rt r δ)) = some (.rt r δ) := (rfl)
theorem forB_er {g : GD} {b : SD} : forB g b ds (some (.er x δ)) = some (.er x δ) := (rfl)
theorem pow10_2 : powD (.int 10) (.int 2) = some (.v (.int 100)) := (rfl)
theorem pow10_3 : powD (.int 10) (.int 3) = some (.v (.int 1000)) := (rfl)
theorem pow10_4 : powD (.int 10) (.int 4) = some (.v (.int 10000)) := (rfl)
theorem pow10_6 : powD (.int 10) (.int 6) = some (.v (.int 1000000)) := (rfl)
theorem pow10_7 : powD (.int 10) (.int 7) = some (.v (.int 10000000)) := (rfl)
theorem pow10_8 : powD (.int 10) (.int 8) = some (.v (.int 100000000)) := (rfl)
theorem pow10_9 : powD (.int 10) (.int 9) = some (.v (.int 1000000000)) := (rfl)
theorem pow10_10 : powD (.int 10) (.int 10) = some (.v (.int 10000000000)) := (rfl)
theorem pow10_12 : powD (.int 10) (.int 12) = some (.v (.int 1000000000000)) := (rfl)
theorem pow10_15 : powD (.int 10) (.int 15) = some (.v (.int 1000000000000000)) := (rfl)
theorem pow10_17 : powD (.int 10) (.int 17) = some (.v (.int 100000000000000000)) := (rfl)
theorem pow10_18 : powD (.int 10) (.int 18) = some (.v (.int 1000000000000000000)) := (rfl)
theorem pow10_20 : powD (.int 10) (.int 20) = some (.v (.int 100000000000000000000)) := (rfl)
theorem pow10_30 : powD (.int 10) (.int 30) = some (.v (.int 1000000000000000000000000000000)) := (rfl)
theorem pow10_40 : powD (.int 10) (.int 40) = some (.v (.int 10000000000000000000000000000000000000000)) := (rfl)
theorem pow10_60 : powD (.int 10) (.int 60) = some (.v (.int 1000000000000000000000000000000000000000000000000000000000000)) := (rfl)
theorem is_bls {b c : Bool} : isND false (.bl b) (.bl c) = some (.v (.bl (b == c))) := by cases b <;> cases c <;> rfl
theorem isnot_bls {b c : Bool} : isND true (.bl b) (.bl c) = some (.v (.bl (b != c))) := by cases b <;> cases c <;> rfl
def cvK2 (o : Option FS) (a : AD) (δ : List Sl) : Option ER := match o with
  | some sem => eCall sem a δ
  | none => none
def cvK (fa : Str → Addr) (tb : Str → Option FS) (a : AD) (o : Option Sl) (δ : List Sl) : Option ER := match o with
  | some (.fz (.fn x b)) => if b = fa x then cvK2 (tb x) a δ else none
  | _ => none
theorem ev_callV {fa : Str → Addr} {tb : Str → Option FS} : eCallV fa tb i a δ = cvK fa tb a δ[i]? δ := by
  unfold eCallV cvK cvK2
  rfl
theorem cvK_fn {fa : Str → Addr} {tb : Str → Option FS} {y : Str} : cvK fa tb a (some (.fz (.fn y (fa y)))) δ = cvK2 (tb y) a δ := by
  unfold cvK
  dsimp only
  rw [if_pos rfl]
theorem cvK2_ok {se : FS} : cvK2 (some se) a δ = eCall se a δ := (rfl)
def wordK (hs : Option Ex → Option FO) (o : Option ER) : Option ER := match o with
  | none => none
  | some (.ok _ δ1) => wOut (hs none) δ1
  | some (.er x δ1) => wOut (hs (some x)) δ1
/-- what the word def makes of how a def ends -/
def wordF (hs : Option Ex → Option FO) (o : Option FO) : Option FO := match o with
  | some (.er x) => hs (some x)
  | some (.ret _) => hs none
  | some (.retL _) => hs none
  | none => none
theorem ev_word {hs : Option Ex → Option FO} {ed : ED} : eWord hs ed δ = wordK hs (ed δ) := (rfl)
theorem word_erof {hs : Option Ex → Option FO} {o : Option FO} : wordK hs (ERofF o δ) = wOut (wordF hs o) δ := by
  cases o with
  | none => rfl
  | some o => cases o <;> rfl
theorem wOut_ret : wOut (some (.ret d)) δ = some (.ok (.fz d) δ) := (rfl)
theorem eqX_ss {s : Str} : eqX false (.str s) (.str s) = some (.v (.bl true)) := by
  show some (OR.v (.bl (false != (s == s)))) = _
  simp
theorem neX_ss {s : Str} : eqX true (.str s) (.str s) = some (.v (.bl false)) := by
  show some (OR.v (.bl (true != (s == s)))) = _
  simp
theorem in_dctI {i : Int} {ks : List Key} {ds : List D} : inDct false (.int i) (.dct ks ds) = some (.v (.bl (getL ks ds (.inl i)).isSome)) := by
  unfold inDct keyD
  simp
theorem nin_dctI {i : Int} {ks : List Key} {ds : List D} : inDct true (.int i) (.dct ks ds) = some (.v (.bl (!(getL ks ds (.inl i)).isSome))) := by
  unfold inDct keyD
  simp
theorem ix_dctI {i : Int} {ks : List Key} {ds : List D} : ixDct (.dct ks ds) (.int i) = (getL ks ds (.inl i)).map .v := (rfl)
end
/-! ## values; with conditions -/
section
variable {ns : List Int} {i : Int}
theorem mulC_big {i j : Int} (hi : i.natAbs < 2 ^ 400000) (hj : j.natAbs < 2 ^ 400000) : mulC i j = true := by
  unfold mulC
  have l : ∀ n : Nat, n < 2 ^ 400000 → n.log2 < 400000 := fun n h => by
    by_cases h0 : n = 0
    · rw [h0]; decide
    · exact (Nat.log2_lt h0).mpr h
  have h1 := l _ hi
  have h2 := l _ hj
  have : i.natAbs.log2 + j.natAbs.log2 < 1000000 := by omega
  simp [this]
theorem mul_big {i j : Int} (hi : i.natAbs < 2 ^ 400000) (hj : j.natAbs < 2 ^ 400000) : mulD (.int i) (.int j) = some (.v (.int (i * j))) := mul_c (mulC_big hi hj)
theorem sorted_ints : sortedD [.lst (ns.map D.int)] = some (.l ((sortI ns).map D.int)) := by
  unfold sortedD
  simp only [asInts_map]
theorem sorted_pairs {ps : List (Int × Int)} : sortedD [.lst (ps.map pD)] = some (.l ((sortP ps).map pD)) := by
  cases ps with
  | nil => unfold sortedD sortP; simp [asInts, sortI]
  | cons p ps =>
    show sortedP [.lst ((p :: ps).map pD)] = _
    unfold sortedP
    simp only [asPairs_map]
    rfl
theorem sortP_id {ps : List (Int × Int)} (h : ps.Pairwise (fun p q => leP p q = true)) : sortP ps = ps := (sortP_of (List.Perm.refl _) h).symm
theorem okEqL_pairs : ∀ ps : List (Int × Int), okEqL (ps.map pD) 60 = true
  | [] => by simp [okEqL]
  | p :: ps => by
    rw [List.map_cons]
    unfold okEqL
    rw [okEqL_pairs ps]
    simp [pD, okEq, okEqL]
theorem inP_pairs {neg : Bool} {c e : Int} {ps : List (Int × Int)} : inP neg (.tup [.int c, .int e]) (.tup (ps.map pD)) = some (.v (.bl (neg != decide ((c, e) ∈ ps)))) := by
  have h1 : okEq (.tup [.int c, .int e]) 60 = true := by simp [okEq, okEqL]
  have h2 : (ps.map pD).any (fun d => eqB d (.tup [.int c, .int e])) = decide ((c, e) ∈ ps) := by
    induction ps with
    | nil => simp
    | cons p ps ih =>
      rw [List.map_cons, List.any_cons, ih]
      obtain ⟨i, j⟩ := p
      by_cases h : (c, e) = (i, j)
      · cases h; simp [pD, eqB, eqBL]
      · have h' : ¬ (i = c ∧ j = e) := fun z => h (by rw [z.1, z.2])
        have hd : eqB (pD (i, j)) (.tup [.int c, .int e]) = false := by
          simp only [pD, eqB, eqBL, Bool.and_true]
          by_cases hi : i = c <;> by_cases hj : j = e <;> simp_all
        rw [hd]
        simp only [Bool.false_or, List.mem_cons, h, false_or]
  show (if okEq _ 60 && okEqL _ 60 then _ else _) = _
  rw [h1, okEqL_pairs, h2]
  rfl
theorem flat_ints' : (ns.map D.int).all flatD = true := by simp [flatD]
theorem count_ints : countD (.lst (ns.map D.int)) [.int i] = some (.v (.int (ns.count i : Nat))) := by
  show (if flatD (D.int i) && (ns.map D.int).all flatD then some (OR.v (.int (((ns.map D.int).countP fun d => eqB d (.int i) : Nat) : Int))) else none) = _
  rw [flat_ints', if_pos (show (flatD (D.int i) && true) = true from rfl)]
  rw [List.countP_map, List.count]
  rfl
theorem maxL_ints (h : ns ≠ []) : maxLD [.lst (ns.map D.int)] = some (.v (.int (lmax ns))) := by
  unfold maxLD
  simp only [asInts_map]
  cases ns with
  | nil => exact absurd rfl h
  | cons n ns => rfl
theorem minL_ints (h : ns ≠ []) : minLD [.lst (ns.map D.int)] = some (.v (.int (lmin ns))) := by
  unfold minLD
  simp only [asInts_map]
  cases ns with
  | nil => exact absurd rfl h
  | cons n ns => rfl
theorem fR3_ok {lo hi c : Int} (hc : 0 < c ∧ c < 1000000000) (h1 : -1000000000000000000 ≤ lo ∧ lo ≤ 1000000000000000000) (h2 : -1000000000000000000 ≤ hi ∧ hi ≤ 1000000000000000000) : fR3 [.int lo, .int hi, .int c] = some (stepR lo c (if lo < hi then (hi - lo - 1) / c + 1 else 0).toNat) := by
  have e : Builtin.Range.rangeSize lo hi c = if lo < hi then (hi - lo - 1) / c + 1 else 0 := by
    unfold Builtin.Range.rangeSize
    rw [if_pos (show c > 0 by omega)]
  have b : lo < hi → 0 ≤ (hi - lo - 1) / c ∧ (hi - lo - 1) / c ≤ hi - lo - 1 := fun h => ⟨Int.ediv_nonneg (by omega) (by omega), Int.ediv_le_self _ (by omega)⟩
  have hs : Builtin.Range.small lo hi c = true := by
    unfold Builtin.Range.small
    rw [e]
    simp only [Builtin.Range.rangeFitsLong, Bool.and_eq_true, Bool.or_eq_true, decide_eq_true_eq, beq_iff_eq, show c > 0 by omega, if_true]
    by_cases h : lo < hi
    · have := b h
      simp only [h, if_true]
      omega
    · simp only [h, if_false]
      omega
  have h0 : 0 ≤ Builtin.Range.rangeSize lo hi c := by
    rw [e]
    by_cases h : lo < hi
    · have := b h
      rw [if_pos h]
      omega
    · rw [if_neg h]
      omega
  show (if c ≠ 0 ∧ c.natAbs < 1073741824 ∧ Builtin.Range.small lo hi c = true ∧ 0 ≤ Builtin.Range.rangeSize lo hi c then some (stepR lo c (Builtin.Range.rangeSize lo hi c).toNat) else none) = _
  rw [if_pos ⟨by omega, by omega, hs, h0⟩, e]
end
end Dn

namespace Dn
open PySem PySem.Spec L2

/-! ## loops -/
def LoopQ (P : List Sl → Prop) (Q : Out → Prop) : Out → Prop
  | .nx δ => P δ
  | .ct δ => P δ
  | .bk δ => Q (.nx δ)
  | .rt r δ => Q (.rt r δ)
  | .er x δ => Q (.er x δ)
theorem forL_rule {g : GD} {b : SD} {Q : Out → Prop} : ∀ (items : List D) {P : Nat → List Sl → Prop} {δ : List Sl}, P 0 δ →
    (∀ i (hi : i < items.length) δ, P i δ → ∃ δ1 o, g (.fz items[i]) δ = some δ1 ∧ b δ1 = some o ∧ LoopQ (P (i + 1)) Q o) → (∀ δ, P items.length δ → Q (.nx δ)) → ∃ o, forL g b items δ = some o ∧ Q o
  | [], P, δ, h0, _, he => ⟨_, rfl, he δ h0⟩
  | d :: ds, P, δ, h0, st, he => by
    obtain ⟨δ1, o, e1, e2, q⟩ := st 0 (by simp) δ h0
    have go : ∀ δ2, P 1 δ2 → ∃ o, forL g b ds δ2 = some o ∧ Q o := fun δ2 h1 => forL_rule ds (P := fun i => P (i + 1)) h1 (fun i hi δ hp => by
      have := st (i + 1) (by simpa using hi) δ hp
      simpa using this) (fun δ hp => he δ (by simpa using hp))
    have e1 : g (.fz d) δ = some δ1 := e1
    unfold forL
    rw [e1]
    dsimp only
    rw [e2]
    cases o with
    | nx δ2 => exact go δ2 q
    | ct δ2 => exact go δ2 q
    | bk δ2 => exact ⟨_, rfl, q⟩
    | rt r δ2 => exact ⟨_, rfl, q⟩
    | er x δ2 => exact ⟨_, rfl, q⟩
theorem forL_plain {g : GD} {b : SD} {items : List D} {P : Nat → List Sl → Prop} {δ : List Sl} (h0 : P 0 δ)
    (st : ∀ i (hi : i < items.length) δ, P i δ → ∃ δ1 δ2, g (.fz items[i]) δ = some δ1 ∧ b δ1 = some (.nx δ2) ∧ P (i + 1) δ2) : ∃ δ', forL g b items δ = some (.nx δ') ∧ P items.length δ' := by
  obtain ⟨o, e, δ', rfl, h⟩ := forL_rule (Q := fun o => ∃ δ', o = .nx δ' ∧ P items.length δ') items h0 (fun i hi δ hp => by
    obtain ⟨δ1, δ2, e1, e2, q⟩ := st i hi δ hp
    exact ⟨δ1, _, e1, e2, q⟩) (fun δ hp => ⟨δ, rfl, hp⟩)
  exact ⟨δ', e, h⟩
theorem for_plain {it : ID} {g : GD} {b : SD} {items : List D} {P : Nat → List Sl → Prop} {δ δ0 : List Sl} (hit : it δ = some (.ok items δ0)) (h0 : P 0 δ0)
    (st : ∀ i (hi : i < items.length) δ, P i δ → ∃ δ1 δ2, g (.fz items[i]) δ = some δ1 ∧ b δ1 = some (.nx δ2) ∧ P (i + 1) δ2) : ∃ δ', sFor it g b δ = some (.nx δ') ∧ P items.length δ' := by
  rw [ev_for, hit, forK_ok]
  exact forL_plain h0 st
theorem for_rule {it : ID} {g : GD} {b : SD} {Q : Out → Prop} {items : List D} {P : Nat → List Sl → Prop} {δ δ0 : List Sl} (hit : it δ = some (.ok items δ0)) (h0 : P 0 δ0)
    (st : ∀ i (hi : i < items.length) δ, P i δ → ∃ δ1 o, g (.fz items[i]) δ = some δ1 ∧ b δ1 = some o ∧ LoopQ (P (i + 1)) Q o) (he : ∀ δ, P items.length δ → Q (.nx δ)) : ∃ o, sFor it g b δ = some o ∧ Q o := by
  rw [ev_for, hit, forK_ok]
  exact forL_rule items h0 st he
/-- over a range -/
theorem forR_plain {g : GD} {b : SD} {lo : Int} {n : Nat} {P : Nat → List Sl → Prop} {δ : List Sl} (h0 : P 0 δ)
    (st : ∀ i, i < n → ∀ δ, P i δ → ∃ δ1 δ2, g (.fz (.int (lo + (i : Nat)))) δ = some δ1 ∧ b δ1 = some (.nx δ2) ∧ P (i + 1) δ2) : ∃ δ', forL g b (rangeD lo n) δ = some (.nx δ') ∧ P n δ' := by
  have hl : (rangeD lo n).length = n := by simp [rangeD]
  obtain ⟨δ', e, h⟩ := forL_plain (g := g) (b := b) (items := rangeD lo n) (P := P) h0 (fun i hi δ hp => by
    obtain ⟨δ1, δ2, e1, e2, q⟩ := st i (by omega) δ hp
    exact ⟨δ1, δ2, by simpa [rangeD] using e1, e2, q⟩)
  exact ⟨δ', e, hl ▸ h⟩
theorem forR_rule {g : GD} {b : SD} {Q : Out → Prop} {lo : Int} {n : Nat} {P : Nat → List Sl → Prop} {δ : List Sl} (h0 : P 0 δ)
    (st : ∀ i, i < n → ∀ δ, P i δ → ∃ δ1 o, g (.fz (.int (lo + (i : Nat)))) δ = some δ1 ∧ b δ1 = some o ∧ LoopQ (P (i + 1)) Q o) (he : ∀ δ, P n δ → Q (.nx δ)) : ∃ o, forL g b (rangeD lo n) δ = some o ∧ Q o := by
  have hl : (rangeD lo n).length = n := by simp [rangeD]
  exact forL_rule (rangeD lo n) h0 (fun i hi δ hp => by
    obtain ⟨δ1, δ2, e1, e2, q⟩ := st i (by omega) δ hp
    exact ⟨δ1, δ2, by simpa [rangeD] using e1, e2, q⟩) (fun δ hp => he δ (hl ▸ hp))
theorem whileN_rule {t : TD} {b : SD} {Q : Out → Prop} {P : Nat → List Sl → Prop}
    (st : ∀ m δ, P m δ → (∃ δ1, t δ = some (.ok false δ1) ∧ Q (.nx δ1)) ∨ (∃ δ1 o, t δ = some (.ok true δ1) ∧ b δ1 = some o ∧ LoopQ (fun δ2 => ∃ m', m' < m ∧ P m' δ2) Q o)) :
    ∀ (n m : Nat) (δ : List Sl), m < n → P m δ → ∃ o, whileN t b n δ = some o ∧ Q o
  | 0, m, δ, h, _ => absurd h (Nat.not_lt_zero m)
  | n + 1, m, δ, hm, hp => by
    unfold whileN
    rcases st m δ hp with ⟨δ1, e, q⟩ | ⟨δ1, o, e, e2, q⟩
    · rw [e]
      exact ⟨_, rfl, q⟩
    · rw [e]
      dsimp only
      rw [if_pos rfl, e2]
      have go : ∀ δ2, (∃ m', m' < m ∧ P m' δ2) → ∃ o, whileN t b n δ2 = some o ∧ Q o := fun δ2 ⟨m', h1, h2⟩ => whileN_rule st n m' δ2 (by omega) h2
      cases o with
      | nx δ2 => exact go δ2 q
      | ct δ2 => exact go δ2 q
      | bk δ2 => exact ⟨_, rfl, q⟩
      | rt r δ2 => exact ⟨_, rfl, q⟩
      | er x δ2 => exact ⟨_, rfl, q⟩
theorem while_rule {t : TD} {b : SD} {Q : Out → Prop} {P : Nat → List Sl → Prop} {m : Nat} {δ : List Sl} (h0 : P m δ) (hm : m < 4611686018427387904)
    (st : ∀ m δ, P m δ → (∃ δ1, t δ = some (.ok false δ1) ∧ Q (.nx δ1)) ∨ (∃ δ1 o, t δ = some (.ok true δ1) ∧ b δ1 = some o ∧ LoopQ (fun δ2 => ∃ m', m' < m ∧ P m' δ2) Q o)) : ∃ o, sWhile t b δ = some o ∧ Q o :=
  whileN_rule st FUEL m δ hm h0
theorem while_plain {t : TD} {b : SD} {Q : List Sl → Prop} {P : Nat → List Sl → Prop} {m : Nat} {δ : List Sl} (h0 : P m δ) (hm : m < 4611686018427387904)
    (st : ∀ m δ, P m δ → (∃ δ1, t δ = some (.ok false δ1) ∧ Q δ1) ∨ (∃ δ1 δ2 m', t δ = some (.ok true δ1) ∧ b δ1 = some (.nx δ2) ∧ m' < m ∧ P m' δ2)) : ∃ δ', sWhile t b δ = some (.nx δ') ∧ Q δ' := by
  obtain ⟨o, e, δ', rfl, h⟩ := while_rule (t := t) (b := b) (Q := fun o => ∃ δ', o = .nx δ' ∧ Q δ') (P := P) h0 hm (fun m δ hp => by
    rcases st m δ hp with ⟨δ1, e, q⟩ | ⟨δ1, δ2, m', e, e2, h1, h2⟩
    · exact .inl ⟨δ1, e, δ1, rfl, q⟩
    · exact .inr ⟨δ1, _, e, e2, m', h1, h2⟩)
  exact ⟨δ', e, h⟩
/-! one turn of a dict comprehension -/
def dc1C (vs : List Nat) (k : Key) (o : Option (D × List Sl)) : Option (Option (Key × D) × List Sl) := match o with
  | some (d', δ5) => if canWipe δ5 vs then some (some (k, d'), wipeS δ5 vs) else none
  | none => none
def dc1B (vs : List Nat) (k : Key) (o : Option ER) : Option (Option (Key × D) × List Sl) := match o with
  | some (.ok r δ4) => dc1C vs k (r.settle δ4)
  | _ => none
def dc1D (el : ED) (vs : List Nat) (δ : List Sl) (o : Option Key) : Option (Option (Key × D) × List Sl) := match o with
  | some k => dc1B vs k (el δ)
  | none => none
def dc1E (el : ED) (vs : List Nat) (o : Option ER) : Option (Option (Key × D) × List Sl) := match o with
  | some (.ok (.fz kd) δ3) => dc1D el vs δ3 (keyD kd)
  | _ => none
def dc1A (ek el : ED) (vs : List Nat) (o : Option TR) : Option (Option (Key × D) × List Sl) := match o with
  | some (.ok c δ2) => if c then dc1E el vs (ek δ2) else if canWipe δ2 vs then some (none, wipeS δ2 vs) else none
  | _ => none
def dc1G (t : TD) (ek el : ED) (vs : List Nat) (o : Option (List Sl)) : Option (Option (Key × D) × List Sl) := match o with
  | some δ1 => dc1A ek el vs (t δ1)
  | none => none
def dcOne (g : GD) (t : TD) (ek el : ED) (vs : List Nat) (d : D) (δ : List Sl) : Option (Option (Key × D) × List Sl) := dc1G t ek el vs (g (.fz d) δ)
theorem ev_dcOne {g : GD} {t : TD} {ek el : ED} {vs : List Nat} {d : D} {δ : List Sl} : dcOne g t ek el vs d δ = dc1G t ek el vs (g (.fz d) δ) := (rfl)
theorem dc1G_ok {t : TD} {ek el : ED} {vs : List Nat} {δ : List Sl} : dc1G t ek el vs (some δ) = dc1A ek el vs (t δ) := (rfl)
theorem dc1A_ok {ek el : ED} {vs : List Nat} {δ : List Sl} {c : Bool} : dc1A ek el vs (some (.ok c δ)) = if c then dc1E el vs (ek δ) else if canWipe δ vs then some (none, wipeS δ vs) else none := (rfl)
theorem dc1E_int {el : ED} {vs : List Nat} {δ : List Sl} {n : Int} : dc1E el vs (some (.ok (.fz (.int n)) δ)) = dc1B vs (.inl n) (el δ) := (rfl)
theorem dc1E_str {el : ED} {vs : List Nat} {δ : List Sl} {x : Str} : dc1E el vs (some (.ok (.fz (.str x)) δ)) = dc1B vs (.inr x) (el δ) := (rfl)
theorem dc1B_ok {vs : List Nat} {k : Key} {δ : List Sl} {r : Rs} : dc1B vs k (some (.ok r δ)) = dc1C vs k (r.settle δ) := (rfl)
theorem dc1C_ok {vs : List Nat} {k : Key} {δ : List Sl} {d : D} : dc1C vs k (some (d, δ)) = if canWipe δ vs then some (some (k, d), wipeS δ vs) else none := (rfl)
/-! comprehensions -/
def lc1C (vs : List Nat) (o : Option (D × List Sl)) : Option (Option D × List Sl) := match o with
  | some (d', δ4) => if canWipe δ4 vs then some (some d', wipeS δ4 vs) else none
  | none => none
def lc1B (vs : List Nat) (o : Option ER) : Option (Option D × List Sl) := match o with
  | some (.ok r δ3) => lc1C vs (r.settle δ3)
  | _ => none
def lc1A (e : ED) (vs : List Nat) (o : Option TR) : Option (Option D × List Sl) := match o with
  | some (.ok c δ2) => if c then lc1B vs (e δ2) else if canWipe δ2 vs then some (none, wipeS δ2 vs) else none
  | _ => none
def lc1G (t : TD) (e : ED) (vs : List Nat) (o : Option (List Sl)) : Option (Option D × List Sl) := match o with
  | some δ1 => lc1A e vs (t δ1)
  | none => none
/-- one turn of a comprehension -/
def lcOne (g : GD) (t : TD) (e : ED) (vs : List Nat) (d : D) (δ : List Sl) : Option (Option D × List Sl) := lc1G t e vs (g (.fz d) δ)
theorem ev_lcOne {g : GD} {t : TD} {e : ED} {vs : List Nat} {d : D} {δ : List Sl} : lcOne g t e vs d δ = lc1G t e vs (g (.fz d) δ) := (rfl)
theorem lc1G_ok {t : TD} {e : ED} {vs : List Nat} {δ : List Sl} : lc1G t e vs (some δ) = lc1A e vs (t δ) := (rfl)
theorem lc1A_ok {e : ED} {vs : List Nat} {δ : List Sl} {c : Bool} : lc1A e vs (some (.ok c δ)) = if c then lc1B vs (e δ) else if canWipe δ vs then some (none, wipeS δ vs) else none := (rfl)
theorem lc1B_ok {vs : List Nat} {δ : List Sl} {r : Rs} : lc1B vs (some (.ok r δ)) = lc1C vs (r.settle δ) := (rfl)
theorem lc1C_ok {vs : List Nat} {δ : List Sl} {d : D} : lc1C vs (some (d, δ)) = if canWipe δ vs then some (some d, wipeS δ vs) else none := (rfl)
def accP (acc : List D) (o : Option D) : List D := match o with
  | some d => acc ++ [d]
  | none => acc
theorem lcL_one {g : GD} {t : TD} {e : ED} {vs : List Nat} {d : D} {ds : List D} {δ δ' : List Sl} {o : Option D} {acc : List D} (h : lcOne g t e vs d δ = some (o, δ')) (hl : acc.length < 16777216) :
    lcL g t e vs (d :: ds) δ acc = lcL g t e vs ds δ' (accP acc o) := by
  conv => lhs; unfold lcL
  unfold lcOne at h
  revert h
  cases hg : g (.fz d) δ with
  | none => exact fun h => nomatch h
  | some δ1 =>
    rw [lc1G_ok]
    dsimp only
    cases ht : t δ1 with
    | none => exact fun h => nomatch h
    | some o1 =>
      cases o1 with
      | er x δ2 => exact fun h => nomatch h
      | ok c δ2 =>
        rw [lc1A_ok]
        dsimp only
        cases c with
        | true =>
          rw [if_pos rfl, if_pos rfl]
          cases he : e δ2 with
          | none => exact fun h => nomatch h
          | some o2 =>
            cases o2 with
            | er x δ3 => exact fun h => nomatch h
            | ok r δ3 =>
              rw [lc1B_ok]
              dsimp only
              cases hs : r.settle δ3 with
              | none => exact fun h => nomatch h
              | some z =>
                obtain ⟨d', δ4⟩ := z
                rw [lc1C_ok]
                dsimp only
                intro h
                by_cases hw : canWipe δ4 vs = true
                · rw [if_pos hw] at h
                  cases h
                  rw [if_pos (by rw [hw, decide_eq_true hl]; rfl)]
                  rfl
                · rw [if_neg hw] at h
                  cases h
        | false =>
          rw [if_neg Bool.false_ne_true, if_neg Bool.false_ne_true]
          intro h
          by_cases hw : canWipe δ2 vs = true
          · rw [if_pos hw] at h
            cases h
            rw [if_pos hw]
            rfl
          · rw [if_neg hw] at h
            cases h
/-- with a state -/
theorem lcL_rule {g : GD} {t : TD} {e : ED} {vs : List Nat} : ∀ (items : List D) {P : Nat → List D → List Sl → Prop} {acc : List D} {δ : List Sl}, P 0 acc δ → acc.length + items.length ≤ 16777216 →
    (∀ i (hi : i < items.length) acc δ, P i acc δ → ∃ o δ', lcOne g t e vs items[i] δ = some (o, δ') ∧ P (i + 1) (accP acc o) δ') → ∃ acc' δ', lcL g t e vs items δ acc = some (acc', δ') ∧ P items.length acc' δ'
  | [], P, acc, δ, h0, _, _ => ⟨acc, δ, rfl, h0⟩
  | d :: ds, P, acc, δ, h0, hl, st => by
    rw [List.length_cons] at hl
    obtain ⟨o, δ1, e1, p1⟩ := st 0 (by simp) acc δ h0
    have e1 : lcOne g t e vs d δ = some (o, δ1) := e1
    rw [lcL_one e1 (by omega)]
    have ha : (accP acc o).length ≤ acc.length + 1 := by cases o <;> simp [accP]
    obtain ⟨acc', δ', e2, p2⟩ := lcL_rule ds (P := fun i => P (i + 1)) p1 (by omega) (fun i hi acc δ hp => by
      have := st (i + 1) (by simpa using hi) acc δ hp
      simpa using this)
    exact ⟨acc', δ', e2, by simpa using p2⟩
theorem lcL_map {g : GD} {t : TD} {e : ED} {vs : List Nat} {δ : List Sl} (f : D → D) : ∀ (items acc : List D), acc.length + items.length ≤ 16777216 → (∀ d ∈ items, lcOne g t e vs d δ = some (some (f d), δ)) → lcL g t e vs items δ acc = some (acc ++ items.map f, δ)
  | [], acc, _, _ => by simp [lcL]
  | d :: ds, acc, hl, h => by
    rw [List.length_cons] at hl
    rw [lcL_one (h d (by simp)) (by omega), lcL_map f ds _ (by simp [accP]; omega) fun d hd => h d (by simp [hd])]
    simp [accP]
theorem lcL_fmap {g : GD} {t : TD} {e : ED} {vs : List Nat} {δ : List Sl} (f : D → Option D) : ∀ (items acc : List D), acc.length + items.length ≤ 16777216 → (∀ d ∈ items, lcOne g t e vs d δ = some (f d, δ)) → lcL g t e vs items δ acc = some (acc ++ items.filterMap f, δ)
  | [], acc, _, _ => by simp [lcL]
  | d :: ds, acc, hl, h => by
    rw [List.length_cons] at hl
    have ha : (accP acc (f d)).length ≤ acc.length + 1 := by cases f d <;> simp [accP]
    rw [lcL_one (h d (by simp)) (by omega), lcL_fmap f ds _ (by omega) fun d hd => h d (by simp [hd])]
    cases hf : f d <;> simp [accP, hf]
/-- over ints -/
theorem lcL_ints {α : Type} {g : GD} {t : TD} {e : ED} {vs : List Nat} {δ : List Sl} (q : α → D) (f : α → D) (ns : List α) (hl : ns.length ≤ 16777216) (h : ∀ n ∈ ns, lcOne g t e vs (q n) δ = some (some (f n), δ)) : lcL g t e vs (ns.map q) δ [] = some (ns.map f, δ) := by
  have := lcL_rule (g := g) (t := t) (e := e) (vs := vs) (ns.map q) (P := fun i acc δ' => acc = (ns.take i).map f ∧ δ' = δ) (acc := []) (δ := δ) ⟨rfl, rfl⟩ (by simpa using hl) (fun i hi acc δ' ⟨h1, h2⟩ => by
    subst h2
    have hi' : i < ns.length := by simpa using hi
    refine ⟨some (f ns[i]), δ', by simpa using h ns[i] (by simp), ?_, rfl⟩
    rw [h1, List.take_succ_eq_append_getElem hi', List.map_append]
    rfl)
  obtain ⟨acc', δ', e1, e2, e3⟩ := this
  rw [e1, e2, e3]
  simp
theorem rangeD_map {n : Nat} {lo : Int} : rangeD lo n = (List.range n).map fun i => D.int (lo + (i : Nat)) := (rfl)
theorem lcL_range {g : GD} {t : TD} {e : ED} {vs : List Nat} {δ : List Sl} {lo : Int} {n : Nat} (f : Nat → D) (hl : n ≤ 16777216) (h : ∀ i, i < n → lcOne g t e vs (.int (lo + (i : Nat))) δ = some (some (f i), δ)) : lcL g t e vs (rangeD lo n) δ [] = some ((List.range n).map f, δ) :=
  lcL_ints _ f (List.range n) (by simpa using hl) fun i hi => h i (by simpa using hi)
theorem ec_map {α : Type} {it : ID} {g : GD} {t : TD} {e : ED} {vs : List Nat} {δ δ1 δ2 : List Sl} (q f : α → D) (ns : List α) (hit : it δ = some (.ok (ns.map q) δ1)) (hl : ns.length ≤ 16777216) (hw : canWipe δ1 vs = true)
    (h : ∀ n ∈ ns, lcOne g t e vs (q n) (wipeS δ1 vs) = some (some (f n), wipeS δ1 vs)) (hr : restS δ1 (wipeS δ1 vs) vs = δ2) : eLc it g t e vs δ = some (.ok (.fresh (ns.map f)) δ2) := by
  rw [ev_lc, hit, lcK_ok, if_pos hw, lcL_ints q f ns hl h, lcK2_ok, hr]
theorem ec_range {it : ID} {g : GD} {t : TD} {e : ED} {vs : List Nat} {δ δ1 δ2 : List Sl} {lo : Int} {n : Nat} (f : Nat → D) (hit : it δ = some (.ok (rangeD lo n) δ1)) (hl : n ≤ 16777216) (hw : canWipe δ1 vs = true)
    (h : ∀ i, i < n → lcOne g t e vs (.int (lo + (i : Nat))) (wipeS δ1 vs) = some (some (f i), wipeS δ1 vs)) (hr : restS δ1 (wipeS δ1 vs) vs = δ2) : eLc it g t e vs δ = some (.ok (.fresh ((List.range n).map f)) δ2) := by
  rw [ev_lc, hit, lcK_ok, if_pos hw, lcL_range f hl h, lcK2_ok, hr]
/-! ## texts -/
theorem shSz_int {i : Int} {k : Nat} (h : i.natAbs < 2 ^ 1920) : shSz (.int i) k = some 2000 := by
  unfold shSz
  refine if_pos ?_
  by_cases h0 : i.natAbs = 0
  · rw [h0]; decide
  · exact (Nat.log2_lt h0).mpr h
theorem shSzL_ints {k : Nat} : ∀ {ns : List Int}, (∀ n ∈ ns, n.natAbs < 2 ^ 1920) → shSzL (ns.map D.int) k = some (ns.length * 2002)
  | [], _ => by simp [shSzL]
  | n :: ns, h => by
    rw [List.map_cons]
    unfold shSzL
    rw [shSz_int (h n (by simp)), shSzL_ints fun m hm => h m (by simp [hm])]
    simp only [List.length_cons, Option.some.injEq]
    omega
theorem repr_int {i : Int} (h : i.natAbs < 2 ^ 1920) : reprD [.int i] = some (.v (.str (shw (.int i)))) := repr_ok (shSz_int h) (by decide)
theorem repr_ints {ns : List Int} (h : ∀ n ∈ ns, n.natAbs < 2 ^ 1920) (hl : ns.length ≤ 8000) : reprD [.lst (ns.map D.int)] = some (.v (.str (shw (.lst (ns.map D.int))))) :=
  repr_ok (n := ns.length * 2002 + 3) (by unfold shSz; dsimp only; rw [shSzL_ints h]; rfl) (by omega)
theorem repr_tints {ns : List Int} (h : ∀ n ∈ ns, n.natAbs < 2 ^ 1920) (hl : ns.length ≤ 8000) : reprD [.tup (ns.map D.int)] = some (.v (.str (shw (.tup (ns.map D.int))))) :=
  repr_ok (n := ns.length * 2002 + 3) (by unfold shSz; dsimp only; rw [shSzL_ints h]; rfl) (by omega)
/-! ## what a law draws from -/
def Hand (h : List D) : Prop := ∃ (cells : List Int) (p b a c : Int), h = [.lst (cells.map D.int), .int p, .int b, .int a, .int c] ∧ 0 ≤ p ∧ 0 ≤ b ∧ ∀ x ∈ cells, 0 ≤ x
abbrev DrawOk (sem : FSio) : Prop := ∀ (h : List D) (m : Int), Hand h → 0 < m → m < 18446744073709551616 → ∃ r h', sem [.lst h, .int m] = some (.ret (.int r), h') ∧ 0 ≤ r ∧ r < m ∧ Hand h'
abbrev HandOk (sem : FS) : Prop := ∀ ns : List Int, ∃ h, sem [.scr (ns.map D.int)] = some (.retL h) ∧ Hand h
abbrev RightOk (sem : FSio) : Prop := ∀ h : List D, Hand h → ∃ h', sem [.lst h] = some (.ret (.bl true), h') ∧ Hand h'
theorem all_hand {semR : FSio} {s : D} {h : List D} {k : Int} (n : Nat) (hk : k = n) (hn : n ≤ 1000) (H : Hand h) (hr : RightOk semR) :
    ∃ h', eLc (itArgs (aCons (eC (.int k)) aNil) fR1) (gN 2) tTrue (eCallIo semR (aCons (eVar 1) aNil)) [2] [.fz s, .own h, .no] = some (.ok (.fresh ((List.replicate n true).map D.bl)) [.fz s, .own h', .no]) ∧ Hand h' := by
  subst hk
  have hl : (rangeD 0 n).length = n := by simp [rangeD]
  obtain ⟨acc, δ', e2, e3, h', H', e4⟩ := lcL_rule (g := gN 2) (t := tTrue) (e := eCallIo semR (aCons (eVar 1) aNil)) (vs := [2]) (rangeD 0 n) (P := fun i acc δ => acc = (List.replicate i true).map D.bl ∧ ∃ h, Hand h ∧ δ = [.fz s, .own h, .no]) (acc := []) (δ := [.fz s, .own h, .no]) ⟨rfl, h, H, rfl⟩ (by simp [rangeD]; omega) (fun i hi acc δ ⟨ha, h, H, hd⟩ => by
    subst hd
    obtain ⟨h', e, H'⟩ := hr h H
    refine ⟨some (.bl true), [.fz s, .own h', .no], ?_, ?_, h', H', rfl⟩
    · simp only [ev_lcOne, ev_var, rdSl_fz, rdSl_own, rdSl_io, ev_c, bind_ok, bind_er, data_fz, data_fresh, data_slot, slD_fz, slD_own, slD_io, settle_fz, settle_fresh, settle_slot, slS_fz, slS_own, opO_v, opO_l, opO_t, opD_ok, ev_opRs, ev_bin, binK_ok, binK_er, binK2_ok, binK2_er, opD1_ok, ev_opRs1, ev_un, ev_chain, ev_ch2, ev_ch3, chK_bl, chK2_ok, ev_and, andK_bl, ev_or, orK_bl, ev_not, notK_bl, ev_if, ifK_ok, ev_anil, ev_acons, aK_ok, aK_er, aK2_ok, aK2_er, settleL_nil, settleL_cons, stK_ok, stK2_ok, dataL_nil, dataL_cons, daK_ok, daK2_ok, ev_tup, tupK_ok, tupK_er, tupK2_ok, ev_lst, lstK_ok, lstK_er, lstK2_ok, ev_b, bK_ok, bK_er, bK2_ok, erof_ret, erof_retL, erof_er, ev_call, callK_ok, callK_er, callK2_ok, ev_io, ioK_ok, ioK1_ok, ioK2_own, ioK2_io, ioK3_ok, ev_call0, ev_slice, ev_slK, pr_none, pr_some, prI_ok, prK_ok, prK2_ok, slcK_ok, ev_rev, ev_rvK, revK_tup, revK_lst, ev_tv, tvK_ok, tvK_er, ev_tt, ttK_ok, ttK_er, ttK2_ok, ttK3_ok, truth_bl, truth_int, truth_lst, truth_tup, truth_non, tbind_ok, tbind_er, ev_tand, ev_tor, ev_tnot, ev_taK, ev_toK, ev_tnK, ev_ttrue, ev_isi2, ev_isiR, isi2_int, isi2_bl, isi2_non, isi2_str, isi2_tup, isi2_lst, ev_nil, ev_bk, ev_ct, ev_seq, then_nx, then_rt, then_bk, then_ct, then_er, with_ok, with_er, ev_expr, ev_ret, ev_exK, ev_reK, ev_retN, ev_sif, sifK_ok, sifK_er, ev_asg, ev_agK, asgK_ok, ev_gN, gnK_no, gnK_fz, gnK_own, pl_fz, pl_no, pl_own, gnK_pl, gN0_fresh, gN0_fz, gN0_slot, gnS_ok, ev_gT, gtK_ok, gNs_nil, gNs_cons, gnsK_ok, ev_gL, glK_ok, ev_gIx, gixK_ok, gixK2_ok, gixK3_ok, ev_putAt, putK_own, putK_io, ev_par, parK_ok, parK_er, parK2_ok, parK3_ok, settleS_nil, settleS_fz, settleS_fresh, settleS_slot, ssK_ok, ssK2_ok, gRs_nil, gRs_fz, gRs_fresh, grK_ok, ev_aug, augK_ok, ev_auK, augK2_ok, augK3_v, ev_raise, ev_app, appK_ok, appK2_ok, appK3_ok, appK4_ok, ev_isOwnAt, ioaK_own, ioaK_io, ev_appTo, apK_own, ev_itSeq, seqK_ok, seqK_er, seqK2_lst, seqK2_tup, seqK2_scr, ev_itArgs, argK_ok, argK_er, argK2_ok, argK3_ok, fR1_ok, fR2_ok, fEnum_ok, fEnumA_lst, fEnumA_tup, fZip_lst, fZip_tup, ev_lc, lcK_ok, lcK_er, lcK2_ok, cw_nil, cw_cons, cwK_no, cwK_fz, wipeS_nil, wipeS_cons, restS_nil, restS_cons, rsK_some, ev_for, forK_ok, semFO_nx, semFO_rt, semFO_er, rtO_fz, rtO_fresh, rtO_slot, rtS_own, rtS_fz, semIoO_nx, semIoO_rt, semIoO_er, prO_ok, ev_augIx, augIx1_ok, augIx2_ok, ev_itemOf, itemK_own, itemK_io, augIxK_ok, augIx3_ok, augIx3K_ok, augIx4_v, ev_meth, ev_meth1, isLstD_lst, meth2_ok, ev_meth3, meth3K_ok, ev_ext, extK_ok, extK2_ok, extK3_ok, ev_extTo, extT_own, ev_dct1, dct1K_fz, ev_dct0, max3_int, ev_dc, dcK_ok, dcK2_ok, forL_nil, forL_cons, forG_ok, forB_nx, forB_ct, forB_bk, forB_rt, forB_er, pow10_2, pow10_3, pow10_4, pow10_6, pow10_7, pow10_8, pow10_9, pow10_10, pow10_12, pow10_15, pow10_17, pow10_18, pow10_20, pow10_30, pow10_40, pow10_60, is_bls, isnot_bls, ev_callV, cvK_fn, cvK2_ok, ev_word, word_erof, wOut_ret, eqX_ss, neX_ss, in_dctI, nin_dctI, ix_dctI, add_int, sub_int, iadd_int, neg_int, lt_int, le_int, gt_int, ge_int, eq_int, ne_int, eq_str, ne_str, int_bl, int_int, abs_int, len_lst, len_tup, len_scr, max2_int, min2_int, ix_l0, ix_l1, ix_l2, ix_l3, ix_l4, ix_l5, ix_l6, ix_t0, ix_t1, ix_t2, ix_t3, ix_t4, ix_t5, slice_lst, slice_scr, isi_int_int, isi_int_bool, isi_int_tuple, isi_int_list, isi_int_str, isi_tup_tuple, isi_tup_int, isi_tup_bool, isi_lst_list, isi_lst_tuple, isi_non_int, isi_str_str, isi_bl_bool, isi_bl_int, tuple_lst, tuple_tup, eq_bl, ne_bl, eq_t2, ne_t2, eq_t3, ne_t3, List.getElem?_cons_zero, List.getElem?_cons_succ, List.set_cons_zero, List.set_cons_succ, List.length_cons, List.length_nil, decide_eq_true_eq, decide_true, ne_eq, not_true_eq_false, not_false_eq_true, decide_false, Bool.not_true, Bool.not_false, Bool.not_eq_true, Bool.not_eq_false, if_true, if_false, ite_true, ite_false, Bool.true_and, Bool.and_true, Bool.false_eq_true, reduceIte, Option.map_some, OR.rs, Nat.reduceAdd, Nat.reduceLeDiff, lc1G_ok, lc1A_ok, lc1B_ok, lc1C_ok, dc1G_ok, dc1A_ok, dc1B_ok, dc1C_ok, dc1E_int, dc1E_str, ixN, Int.reduceLT, Int.reduceLE, Int.reduceToNat, Int.reduceEq, Nat.reduceEqDiff, Nat.add_zero, Int.reducePow, and_true, true_and, and_self, and_false, false_and, or_true, true_or, or_false, false_or, Bool.and_false, Bool.false_and, Bool.or_true, Bool.true_or, Bool.or_false, Bool.false_or, Int.reduceDiv, Int.reduceNeg, Int.reduceSub, Int.reduceAdd, Int.reduceMul, Int.reduceMod, Int.cast_ofNat_Int, List.length_map, e]
    · rw [ha, List.replicate_succ', List.map_append]
      rfl)
  refine ⟨h', ?_, H'⟩
  rw [hl] at e3
  simp (disch := omega) only [ev_var, rdSl_fz, rdSl_own, rdSl_io, ev_c, bind_ok, bind_er, data_fz, data_fresh, data_slot, slD_fz, slD_own, slD_io, settle_fz, settle_fresh, settle_slot, slS_fz, slS_own, opO_v, opO_l, opO_t, opD_ok, ev_opRs, ev_bin, binK_ok, binK_er, binK2_ok, binK2_er, opD1_ok, ev_opRs1, ev_un, ev_chain, ev_ch2, ev_ch3, chK_bl, chK2_ok, ev_and, andK_bl, ev_or, orK_bl, ev_not, notK_bl, ev_if, ifK_ok, ev_anil, ev_acons, aK_ok, aK_er, aK2_ok, aK2_er, settleL_nil, settleL_cons, stK_ok, stK2_ok, dataL_nil, dataL_cons, daK_ok, daK2_ok, ev_tup, tupK_ok, tupK_er, tupK2_ok, ev_lst, lstK_ok, lstK_er, lstK2_ok, ev_b, bK_ok, bK_er, bK2_ok, erof_ret, erof_retL, erof_er, ev_call, callK_ok, callK_er, callK2_ok, ev_io, ioK_ok, ioK1_ok, ioK2_own, ioK2_io, ioK3_ok, ev_call0, ev_slice, ev_slK, pr_none, pr_some, prI_ok, prK_ok, prK2_ok, slcK_ok, ev_rev, ev_rvK, revK_tup, revK_lst, ev_tv, tvK_ok, tvK_er, ev_tt, ttK_ok, ttK_er, ttK2_ok, ttK3_ok, truth_bl, truth_int, truth_lst, truth_tup, truth_non, tbind_ok, tbind_er, ev_tand, ev_tor, ev_tnot, ev_taK, ev_toK, ev_tnK, ev_ttrue, ev_isi2, ev_isiR, isi2_int, isi2_bl, isi2_non, isi2_str, isi2_tup, isi2_lst, ev_nil, ev_bk, ev_ct, ev_seq, then_nx, then_rt, then_bk, then_ct, then_er, with_ok, with_er, ev_expr, ev_ret, ev_exK, ev_reK, ev_retN, ev_sif, sifK_ok, sifK_er, ev_asg, ev_agK, asgK_ok, ev_gN, gnK_no, gnK_fz, gnK_own, pl_fz, pl_no, pl_own, gnK_pl, gN0_fresh, gN0_fz, gN0_slot, gnS_ok, ev_gT, gtK_ok, gNs_nil, gNs_cons, gnsK_ok, ev_gL, glK_ok, ev_gIx, gixK_ok, gixK2_ok, gixK3_ok, ev_putAt, putK_own, putK_io, ev_par, parK_ok, parK_er, parK2_ok, parK3_ok, settleS_nil, settleS_fz, settleS_fresh, settleS_slot, ssK_ok, ssK2_ok, gRs_nil, gRs_fz, gRs_fresh, grK_ok, ev_aug, augK_ok, ev_auK, augK2_ok, augK3_v, ev_raise, ev_app, appK_ok, appK2_ok, appK3_ok, appK4_ok, ev_isOwnAt, ioaK_own, ioaK_io, ev_appTo, apK_own, ev_itSeq, seqK_ok, seqK_er, seqK2_lst, seqK2_tup, seqK2_scr, ev_itArgs, argK_ok, argK_er, argK2_ok, argK3_ok, fR1_ok, fR2_ok, fEnum_ok, fEnumA_lst, fEnumA_tup, fZip_lst, fZip_tup, ev_lc, lcK_ok, lcK_er, lcK2_ok, cw_nil, cw_cons, cwK_no, cwK_fz, wipeS_nil, wipeS_cons, restS_nil, restS_cons, rsK_some, ev_for, forK_ok, semFO_nx, semFO_rt, semFO_er, rtO_fz, rtO_fresh, rtO_slot, rtS_own, rtS_fz, semIoO_nx, semIoO_rt, semIoO_er, prO_ok, ev_augIx, augIx1_ok, augIx2_ok, ev_itemOf, itemK_own, itemK_io, augIxK_ok, augIx3_ok, augIx3K_ok, augIx4_v, ev_meth, ev_meth1, isLstD_lst, meth2_ok, ev_meth3, meth3K_ok, ev_ext, extK_ok, extK2_ok, extK3_ok, ev_extTo, extT_own, ev_dct1, dct1K_fz, ev_dct0, max3_int, ev_dc, dcK_ok, dcK2_ok, forL_nil, forL_cons, forG_ok, forB_nx, forB_ct, forB_bk, forB_rt, forB_er, pow10_2, pow10_3, pow10_4, pow10_6, pow10_7, pow10_8, pow10_9, pow10_10, pow10_12, pow10_15, pow10_17, pow10_18, pow10_20, pow10_30, pow10_40, pow10_60, is_bls, isnot_bls, ev_callV, cvK_fn, cvK2_ok, ev_word, word_erof, wOut_ret, eqX_ss, neX_ss, in_dctI, nin_dctI, ix_dctI, add_int, sub_int, iadd_int, neg_int, lt_int, le_int, gt_int, ge_int, eq_int, ne_int, eq_str, ne_str, int_bl, int_int, abs_int, len_lst, len_tup, len_scr, max2_int, min2_int, ix_l0, ix_l1, ix_l2, ix_l3, ix_l4, ix_l5, ix_l6, ix_t0, ix_t1, ix_t2, ix_t3, ix_t4, ix_t5, slice_lst, slice_scr, isi_int_int, isi_int_bool, isi_int_tuple, isi_int_list, isi_int_str, isi_tup_tuple, isi_tup_int, isi_tup_bool, isi_lst_list, isi_lst_tuple, isi_non_int, isi_str_str, isi_bl_bool, isi_bl_int, tuple_lst, tuple_tup, eq_bl, ne_bl, eq_t2, ne_t2, eq_t3, ne_t3, List.getElem?_cons_zero, List.getElem?_cons_succ, List.set_cons_zero, List.set_cons_succ, List.length_cons, List.length_nil, decide_eq_true_eq, decide_true, ne_eq, not_true_eq_false, not_false_eq_true, decide_false, Bool.not_true, Bool.not_false, Bool.not_eq_true, Bool.not_eq_false, if_true, if_false, ite_true, ite_false, Bool.true_and, Bool.and_true, Bool.false_eq_true, reduceIte, Option.map_some, OR.rs, Nat.reduceAdd, Nat.reduceLeDiff, lc1G_ok, lc1A_ok, lc1B_ok, lc1C_ok, dc1G_ok, dc1A_ok, dc1B_ok, dc1C_ok, dc1E_int, dc1E_str, ixN, Int.reduceLT, Int.reduceLE, Int.reduceToNat, Int.reduceEq, Nat.reduceEqDiff, Nat.add_zero, Int.reducePow, and_true, true_and, and_self, and_false, false_and, or_true, true_or, or_false, false_or, Bool.and_false, Bool.false_and, Bool.or_true, Bool.true_or, Bool.or_false, Bool.false_or, Int.reduceDiv, Int.reduceNeg, Int.reduceSub, Int.reduceAdd, Int.reduceMul, Int.reduceMod, Int.cast_ofNat_Int, List.length_map, fR1_ok, Int.toNat_natCast]
  rw [e2, e4, e3]
  simp only [ev_var, rdSl_fz, rdSl_own, rdSl_io, ev_c, bind_ok, bind_er, data_fz, data_fresh, data_slot, slD_fz, slD_own, slD_io, settle_fz, settle_fresh, settle_slot, slS_fz, slS_own, opO_v, opO_l, opO_t, opD_ok, ev_opRs, ev_bin, binK_ok, binK_er, binK2_ok, binK2_er, opD1_ok, ev_opRs1, ev_un, ev_chain, ev_ch2, ev_ch3, chK_bl, chK2_ok, ev_and, andK_bl, ev_or, orK_bl, ev_not, notK_bl, ev_if, ifK_ok, ev_anil, ev_acons, aK_ok, aK_er, aK2_ok, aK2_er, settleL_nil, settleL_cons, stK_ok, stK2_ok, dataL_nil, dataL_cons, daK_ok, daK2_ok, ev_tup, tupK_ok, tupK_er, tupK2_ok, ev_lst, lstK_ok, lstK_er, lstK2_ok, ev_b, bK_ok, bK_er, bK2_ok, erof_ret, erof_retL, erof_er, ev_call, callK_ok, callK_er, callK2_ok, ev_io, ioK_ok, ioK1_ok, ioK2_own, ioK2_io, ioK3_ok, ev_call0, ev_slice, ev_slK, pr_none, pr_some, prI_ok, prK_ok, prK2_ok, slcK_ok, ev_rev, ev_rvK, revK_tup, revK_lst, ev_tv, tvK_ok, tvK_er, ev_tt, ttK_ok, ttK_er, ttK2_ok, ttK3_ok, truth_bl, truth_int, truth_lst, truth_tup, truth_non, tbind_ok, tbind_er, ev_tand, ev_tor, ev_tnot, ev_taK, ev_toK, ev_tnK, ev_ttrue, ev_isi2, ev_isiR, isi2_int, isi2_bl, isi2_non, isi2_str, isi2_tup, isi2_lst, ev_nil, ev_bk, ev_ct, ev_seq, then_nx, then_rt, then_bk, then_ct, then_er, with_ok, with_er, ev_expr, ev_ret, ev_exK, ev_reK, ev_retN, ev_sif, sifK_ok, sifK_er, ev_asg, ev_agK, asgK_ok, ev_gN, gnK_no, gnK_fz, gnK_own, pl_fz, pl_no, pl_own, gnK_pl, gN0_fresh, gN0_fz, gN0_slot, gnS_ok, ev_gT, gtK_ok, gNs_nil, gNs_cons, gnsK_ok, ev_gL, glK_ok, ev_gIx, gixK_ok, gixK2_ok, gixK3_ok, ev_putAt, putK_own, putK_io, ev_par, parK_ok, parK_er, parK2_ok, parK3_ok, settleS_nil, settleS_fz, settleS_fresh, settleS_slot, ssK_ok, ssK2_ok, gRs_nil, gRs_fz, gRs_fresh, grK_ok, ev_aug, augK_ok, ev_auK, augK2_ok, augK3_v, ev_raise, ev_app, appK_ok, appK2_ok, appK3_ok, appK4_ok, ev_isOwnAt, ioaK_own, ioaK_io, ev_appTo, apK_own, ev_itSeq, seqK_ok, seqK_er, seqK2_lst, seqK2_tup, seqK2_scr, ev_itArgs, argK_ok, argK_er, argK2_ok, argK3_ok, fR1_ok, fR2_ok, fEnum_ok, fEnumA_lst, fEnumA_tup, fZip_lst, fZip_tup, ev_lc, lcK_ok, lcK_er, lcK2_ok, cw_nil, cw_cons, cwK_no, cwK_fz, wipeS_nil, wipeS_cons, restS_nil, restS_cons, rsK_some, ev_for, forK_ok, semFO_nx, semFO_rt, semFO_er, rtO_fz, rtO_fresh, rtO_slot, rtS_own, rtS_fz, semIoO_nx, semIoO_rt, semIoO_er, prO_ok, ev_augIx, augIx1_ok, augIx2_ok, ev_itemOf, itemK_own, itemK_io, augIxK_ok, augIx3_ok, augIx3K_ok, augIx4_v, ev_meth, ev_meth1, isLstD_lst, meth2_ok, ev_meth3, meth3K_ok, ev_ext, extK_ok, extK2_ok, extK3_ok, ev_extTo, extT_own, ev_dct1, dct1K_fz, ev_dct0, max3_int, ev_dc, dcK_ok, dcK2_ok, forL_nil, forL_cons, forG_ok, forB_nx, forB_ct, forB_bk, forB_rt, forB_er, pow10_2, pow10_3, pow10_4, pow10_6, pow10_7, pow10_8, pow10_9, pow10_10, pow10_12, pow10_15, pow10_17, pow10_18, pow10_20, pow10_30, pow10_40, pow10_60, is_bls, isnot_bls, ev_callV, cvK_fn, cvK2_ok, ev_word, word_erof, wOut_ret, eqX_ss, neX_ss, in_dctI, nin_dctI, ix_dctI, add_int, sub_int, iadd_int, neg_int, lt_int, le_int, gt_int, ge_int, eq_int, ne_int, eq_str, ne_str, int_bl, int_int, abs_int, len_lst, len_tup, len_scr, max2_int, min2_int, ix_l0, ix_l1, ix_l2, ix_l3, ix_l4, ix_l5, ix_l6, ix_t0, ix_t1, ix_t2, ix_t3, ix_t4, ix_t5, slice_lst, slice_scr, isi_int_int, isi_int_bool, isi_int_tuple, isi_int_list, isi_int_str, isi_tup_tuple, isi_tup_int, isi_tup_bool, isi_lst_list, isi_lst_tuple, isi_non_int, isi_str_str, isi_bl_bool, isi_bl_int, tuple_lst, tuple_tup, eq_bl, ne_bl, eq_t2, ne_t2, eq_t3, ne_t3, List.getElem?_cons_zero, List.getElem?_cons_succ, List.set_cons_zero, List.set_cons_succ, List.length_cons, List.length_nil, decide_eq_true_eq, decide_true, ne_eq, not_true_eq_false, not_false_eq_true, decide_false, Bool.not_true, Bool.not_false, Bool.not_eq_true, Bool.not_eq_false, if_true, if_false, ite_true, ite_false, Bool.true_and, Bool.and_true, Bool.false_eq_true, reduceIte, Option.map_some, OR.rs, Nat.reduceAdd, Nat.reduceLeDiff, lc1G_ok, lc1A_ok, lc1B_ok, lc1C_ok, dc1G_ok, dc1A_ok, dc1B_ok, dc1C_ok, dc1E_int, dc1E_str, ixN, Int.reduceLT, Int.reduceLE, Int.reduceToNat, Int.reduceEq, Nat.reduceEqDiff, Nat.add_zero, Int.reducePow, and_true, true_and, and_self, and_false, false_and, or_true, true_or, or_false, false_or, Bool.and_false, Bool.false_and, Bool.or_true, Bool.true_or, Bool.or_false, Bool.false_or, Int.reduceDiv, Int.reduceNeg, Int.reduceSub, Int.reduceAdd, Int.reduceMul, Int.reduceMod, Int.cast_ofNat_Int, List.length_map]
/-- .. with any slots -/
theorem all_handG {h : List D} {v : Nat} {it : ID} {e : ED} (mk : List D → List Sl) (n : Nat) (hn : n ≤ 1000) (H : Hand h)
    (hit : it (mk h) = some (.ok (rangeD 0 n) (mk h))) (hw : ∀ h, canWipe (mk h) [v] = true ∧ wipeS (mk h) [v] = mk h) (hre : ∀ h h', restS (mk h) (mk h') [v] = mk h')
    (hr : ∀ h, Hand h → ∀ i, i < n → ∃ h', lcOne (gN v) tTrue e [v] (.int (0 + (i : Nat))) (mk h) = some (some (.bl true), mk h') ∧ Hand h') :
    ∃ h', eLc it (gN v) tTrue e [v] (mk h) = some (.ok (.fresh ((List.replicate n true).map D.bl)) (mk h')) ∧ Hand h' := by
  have hl : (rangeD 0 n).length = n := by simp [rangeD]
  obtain ⟨acc, δ', e2, e3, h', H', e4⟩ := lcL_rule (g := gN v) (t := tTrue) (e := e) (vs := [v]) (rangeD 0 n) (P := fun i acc δ => acc = (List.replicate i true).map D.bl ∧ ∃ h, Hand h ∧ δ = mk h) (acc := []) (δ := mk h) ⟨rfl, h, H, rfl⟩ (by simp [rangeD]; omega) (fun i hi acc δ ⟨ha, h, H, hd⟩ => by
    subst hd
    obtain ⟨h', e, H'⟩ := hr h H i (by omega)
    refine ⟨some (.bl true), mk h', by simpa [rangeD] using e, ?_, h', H', rfl⟩
    rw [ha, List.replicate_succ', List.map_append]
    rfl)
  refine ⟨h', ?_, H'⟩
  rw [hl] at e3
  rw [ev_lc, hit, lcK_ok, if_pos (hw h).1, (hw h).2, e2, lcK2_ok, e4, hre, e3]
/-- draws, one a turn: what the slots hold but for the hand stays -/
theorem lcL_draws {g : GD} {t : TD} {e : ED} {vs : List Nat} (mk : List D → List Sl) (Qd : D → Prop) : ∀ (items acc : List D) {h : List D}, Hand h → acc.length + items.length ≤ 16777216 →
    (∀ d ∈ items, ∀ h, Hand h → ∃ r h', lcOne g t e vs d (mk h) = some (some r, mk h') ∧ Qd r ∧ Hand h') →
    ∃ rs h', lcL g t e vs items (mk h) acc = some (acc ++ rs, mk h') ∧ rs.length = items.length ∧ (∀ r ∈ rs, Qd r) ∧ Hand h'
  | [], acc, h, H, _, _ => ⟨[], h, by simp [lcL], rfl, by simp, H⟩
  | d :: ds, acc, h, H, hl, st => by
    rw [List.length_cons] at hl
    obtain ⟨r, h1, e1, q1, H1⟩ := st d (by simp) h H
    obtain ⟨rs, h2, e2, e3, q2, H2⟩ := lcL_draws mk Qd ds (acc ++ [r]) H1 (by simp; omega) fun d hd => st d (by simp [hd])
    refine ⟨r :: rs, h2, ?_, by simp [e3], fun x hx => ?_, H2⟩
    · rw [lcL_one e1 (by omega)]
      show lcL g t e vs ds (mk h1) (acc ++ [r]) = _
      rw [e2, List.append_assoc]
      rfl
    · rcases List.mem_cons.mp hx with rfl | hx
      · exact q1
      · exact q2 x hx
theorem all_rep (n : Nat) : (List.replicate n true).all id = true := by simp
theorem all_bl_true (n : Nat) : allD [.lst ((List.replicate n true).map D.bl)] = some (.v (.bl true)) := by
  rw [all_bls, all_rep]
theorem all_bl_rs {n : Nat} {rs : List D} (h1 : rs.length = n) (h2 : ∀ d ∈ rs, d = D.bl true) : rs = (List.replicate n true).map D.bl := by
  rw [List.map_replicate]
  exact List.eq_replicate_iff.mpr ⟨h1, h2⟩
/-- for turn in range(n): a step that draws -/
theorem for_hand {g : GD} {b : SD} {lo : Int} {n : Nat} (mk : List D → Sl → List Sl) (hg : ∀ h s d, s.pl = true → g (.fz d) (mk h s) = some (mk h (.fz d)))
    (st : ∀ i, i < n → ∀ h, Hand h → ∃ h', b (mk h (.fz (.int (lo + (i : Nat))))) = some (.nx (mk h' (.fz (.int (lo + (i : Nat)))))) ∧ Hand h') {h : List D} {s : Sl} (H : Hand h) (hs : s.pl = true) :
    ∃ h' s', forL g b (rangeD lo n) (mk h s) = some (.nx (mk h' s')) ∧ s'.pl = true ∧ Hand h' := by
  obtain ⟨δ', e, h', s', H', hs', rfl⟩ := forR_plain (g := g) (b := b) (lo := lo) (n := n) (P := fun _ δ => ∃ h s, Hand h ∧ s.pl = true ∧ δ = mk h s) (δ := mk h s) ⟨h, s, H, hs, rfl⟩ (by
    rintro i hi δ ⟨h, s, H, hs, rfl⟩
    obtain ⟨h', e, H'⟩ := st i hi h H
    exact ⟨_, _, hg h s _ hs, e, h', _, H', rfl, rfl⟩)
  exact ⟨h', s', e, hs', H'⟩
theorem repr_t2 {a b : Int} (ha : a.natAbs < 2 ^ 1920) (hb : b.natAbs < 2 ^ 1920) : reprD [.tup [.int a, .int b]] = some (.v (.str (shw (.tup [.int a, .int b])))) :=
  repr_tints (ns := [a, b]) (by simp [ha, hb]) (by simp)
theorem repr_t3 {a b c : Int} (ha : a.natAbs < 2 ^ 1920) (hb : b.natAbs < 2 ^ 1920) (hc : c.natAbs < 2 ^ 1920) : reprD [.tup [.int a, .int b, .int c]] = some (.v (.str (shw (.tup [.int a, .int b, .int c])))) :=
  repr_tints (ns := [a, b, c]) (by simp [ha, hb, hc]) (by simp)
theorem repr_small {a : Int} (ha : -18446744073709551616 < a ∧ a < 18446744073709551616) : reprD [.int a] = some (.v (.str (shw (.int a)))) :=
  repr_int (Nat.lt_of_lt_of_le (m := 2 ^ 64) (by omega) (Nat.pow_le_pow_right (by decide) (by decide)))
theorem small_1920 {a : Int} (ha : -18446744073709551616 < a ∧ a < 18446744073709551616) : a.natAbs < 2 ^ 1920 := Nat.lt_of_lt_of_le (m := 2 ^ 64) (by omega) (Nat.pow_le_pow_right (by decide) (by decide))
/-- a loop that goes from S n to S r -/
theorem while_S {t : TD} {b : SD} {S : Nat → List Sl} {n r : Nat} (h : n ≤ r) (hr : r - n < 4611686018427387904) (te : t (S r) = some (.ok false (S r)))
    (st : ∀ i, n ≤ i → i < r → t (S i) = some (.ok true (S i)) ∧ b (S i) = some (.nx (S (i + 1)))) : sWhile t b (S n) = some (.nx (S r)) := by
  obtain ⟨δ', e, rfl⟩ := while_plain (t := t) (b := b) (Q := fun δ => δ = S r) (P := fun k δ => ∃ i, k = r - i ∧ n ≤ i ∧ i ≤ r ∧ δ = S i) (m := r - n) (δ := S n) ⟨n, rfl, Nat.le_refl _, h, rfl⟩ hr (by
    rintro k δ ⟨i, rfl, h1, h2, rfl⟩
    by_cases he : i = r
    · subst he
      exact .inl ⟨_, te, rfl⟩
    · obtain ⟨e1, e2⟩ := st i h1 (by omega)
      exact .inr ⟨_, _, r - (i + 1), e1, e2, by omega, i + 1, rfl, by omega, by omega, rfl⟩)
  exact e
/-- for over a range, from S 0 to S n; the slot of its name aside -/
theorem forR_S {g : GD} {b : SD} {lo : Int} {n : Nat} {s : Sl} (S : Nat → Sl → List Sl) (hg : ∀ i s d, s.pl = true → g (.fz d) (S i s) = some (S i (.fz d)))
    (st : ∀ i, i < n → b (S i (.fz (.int (lo + (i : Nat))))) = some (.nx (S (i + 1) (.fz (.int (lo + (i : Nat))))))) (hs : s.pl = true) : ∃ s', forL g b (rangeD lo n) (S 0 s) = some (.nx (S n s')) ∧ s'.pl = true := by
  obtain ⟨δ', e, s', hs', rfl⟩ := forR_plain (g := g) (b := b) (lo := lo) (n := n) (P := fun i δ => ∃ s, s.pl = true ∧ δ = S i s) (δ := S 0 s) ⟨s, hs, rfl⟩ (by
    rintro i hi δ ⟨s, hs, rfl⟩
    exact ⟨_, _, hg i s _ hs, st i hi, _, rfl, rfl⟩)
  exact ⟨s', e, hs'⟩
theorem filterMap_if {α β : Type} (p : α → Bool) (f : α → β) (ns : List α) : (ns.filterMap fun n => if p n then some (f n) else none) = (ns.filter p).map f := by
  induction ns with
  | nil => rfl
  | cons n ns ih =>
    by_cases h : p n = true
    · simp [List.filterMap_cons, List.filter_cons, h, ih]
    · simp [List.filterMap_cons, List.filter_cons, h, ih]
/-- comprehensions with a test -/
theorem lcL_filt {α : Type} {g : GD} {t : TD} {e : ED} {vs : List Nat} {δ : List Sl} (q f : α → D) (p : α → Bool) (ns : List α) (hl : ns.length ≤ 16777216) (h : ∀ n ∈ ns, lcOne g t e vs (q n) δ = some (if p n then some (f n) else none, δ)) : lcL g t e vs (ns.map q) δ [] = some ((ns.filter p).map f, δ) := by
  have := lcL_rule (g := g) (t := t) (e := e) (vs := vs) (ns.map q) (P := fun i acc δ' => acc = ((ns.take i).filter p).map f ∧ δ' = δ) (acc := []) (δ := δ) ⟨rfl, rfl⟩ (by simpa using hl) (fun i hi acc δ' ⟨h1, h2⟩ => by
    subst h2
    have hi' : i < ns.length := by simpa using hi
    refine ⟨if p ns[i] then some (f ns[i]) else none, δ', by simpa using h ns[i] (by simp), ?_, rfl⟩
    rw [h1, List.take_succ_eq_append_getElem hi', List.filter_append, List.map_append]
    by_cases hp : p ns[i] = true
    · simp [accP, hp]
    · simp [accP, hp])
  obtain ⟨acc', δ', e1, e2, e3⟩ := this
  rw [e1, e2, e3]
  simp
theorem ec_filt {α : Type} {it : ID} {g : GD} {t : TD} {e : ED} {vs : List Nat} {δ δ1 δ2 : List Sl} (q f : α → D) (p : α → Bool) (ns : List α) (hit : it δ = some (.ok (ns.map q) δ1)) (hl : ns.length ≤ 16777216) (hw : canWipe δ1 vs = true)
    (h : ∀ n ∈ ns, lcOne g t e vs (q n) (wipeS δ1 vs) = some (if p n then some (f n) else none, wipeS δ1 vs)) (hr : restS δ1 (wipeS δ1 vs) vs = δ2) : eLc it g t e vs δ = some (.ok (.fresh ((ns.filter p).map f)) δ2) := by
  rw [ev_lc, hit, lcK_ok, if_pos hw, lcL_filt q f p ns hl h, lcK2_ok, hr]
theorem ec_filtR {it : ID} {g : GD} {t : TD} {e : ED} {vs : List Nat} {δ δ1 δ2 : List Sl} {lo : Int} {n : Nat} (f : Nat → D) (p : Nat → Bool) (hit : it δ = some (.ok (rangeD lo n) δ1)) (hl : n ≤ 16777216) (hw : canWipe δ1 vs = true)
    (h : ∀ i, i < n → lcOne g t e vs (.int (lo + (i : Nat))) (wipeS δ1 vs) = some (if p i then some (f i) else none, wipeS δ1 vs)) (hr : restS δ1 (wipeS δ1 vs) vs = δ2) : eLc it g t e vs δ = some (.ok (.fresh (((List.range n).filter p).map f)) δ2) :=
  ec_filt (fun i : Nat => D.int (lo + (i : Nat))) f p (List.range n) hit (by simpa using hl) hw (fun i hi => h i (by simpa using hi)) hr
/-! a bound of a text's length -/
def Sh (d : D) (k n : Nat) : Prop := ∃ m, shSz d k = some m ∧ m ≤ n
def ShL (ds : List D) (k n : Nat) : Prop := ∃ m, shSzL ds k = some m ∧ m ≤ n
theorem sh_int {i : Int} {k : Nat} (h : i.natAbs < 2 ^ 1920) : Sh (.int i) k 2000 := ⟨_, shSz_int h, Nat.le_refl _⟩
theorem sh_sml {i : Int} {k : Nat} (h : -18446744073709551616 < i ∧ i < 18446744073709551616) : Sh (.int i) k 2000 := sh_int (small_1920 h)
theorem sh_bl {b : Bool} {k : Nat} : Sh (.bl b) k 5 := ⟨5, by simp only [shSz], Nat.le_refl _⟩
theorem sh_non {k : Nat} : Sh .non k 4 := ⟨4, by simp only [shSz], Nat.le_refl _⟩
theorem sh_str {x : Str} {k n : Nat} (h : x.cps.all (· < 0x110000) = true) (hn : 10 * x.length + 2 ≤ n) : Sh (.str x) k n := ⟨_, by simp only [shSz, h, if_true], hn⟩
theorem shL_nil {k : Nat} : ShL [] k 0 := ⟨0, by simp only [shSzL], Nat.le_refl _⟩
theorem shL_cons {d : D} {ds : List D} {k a b : Nat} (h1 : Sh d k a) (h2 : ShL ds k b) : ShL (d :: ds) k (a + 2 + b) := by
  obtain ⟨m, e1, l1⟩ := h1
  obtain ⟨n, e2, l2⟩ := h2
  exact ⟨m + 2 + n, by simp only [shSzL, e1, e2], by omega⟩
theorem shL_all {k a : Nat} : ∀ {ds : List D}, (∀ d ∈ ds, Sh d k a) → ShL ds k (ds.length * (a + 2))
  | [], _ => by simpa using shL_nil
  | d :: ds, h => by
    obtain ⟨m, e, l⟩ := shL_cons (h d (by simp)) (shL_all (ds := ds) fun x hx => h x (by simp [hx]))
    refine ⟨m, e, ?_⟩
    rw [List.length_cons, Nat.add_mul]
    omega
theorem shL_ints {ns : List Int} {k : Nat} (h : ∀ n ∈ ns, n.natAbs < 2 ^ 1920) : ShL (ns.map D.int) k (ns.length * 2002) := ⟨_, shSzL_ints h, Nat.le_refl _⟩
theorem sh_tup {ds : List D} {k n : Nat} (h : ShL ds k n) : Sh (.tup ds) (k + 1) (n + 3) := by
  obtain ⟨m, e, l⟩ := h
  exact ⟨m + 3, by unfold shSz; simp only [e, Option.map_some], by omega⟩
theorem sh_lst {ds : List D} {k n : Nat} (h : ShL ds k n) : Sh (.lst ds) (k + 1) (n + 3) := by
  obtain ⟨m, e, l⟩ := h
  exact ⟨m + 3, by unfold shSz; simp only [e, Option.map_some], by omega⟩
theorem sh_le {d : D} {k a b : Nat} (h : Sh d k a) (hab : a ≤ b) : Sh d k b := by
  obtain ⟨m, e, l⟩ := h
  exact ⟨m, e, Nat.le_trans l hab⟩
theorem sh_repr {d : D} {n : Nat} (h : Sh d 64 n) (hn : n ≤ 16777216) : reprD [d] = some (.v (.str (shw d))) := by
  obtain ⟨m, e, l⟩ := h
  exact repr_ok e (Nat.le_trans l hn)
theorem for_R {it : ID} {g : GD} {b : SD} {lo : Int} {n : Nat} {P : Nat → List Sl → Prop} {δ δ0 : List Sl} (hit : it δ = some (.ok (rangeD lo n) δ0)) (h0 : P 0 δ0)
    (st : ∀ i, i < n → ∀ δ, P i δ → ∃ δ1 δ2, g (.fz (.int (lo + (i : Nat)))) δ = some δ1 ∧ b δ1 = some (.nx δ2) ∧ P (i + 1) δ2) : ∃ δ', sFor it g b δ = some (.nx δ') ∧ P n δ' := by
  rw [ev_for, hit, forK_ok]
  exact forR_plain h0 st
theorem for_Rrule {it : ID} {g : GD} {b : SD} {Q : Out → Prop} {lo : Int} {n : Nat} {P : Nat → List Sl → Prop} {δ δ0 : List Sl} (hit : it δ = some (.ok (rangeD lo n) δ0)) (h0 : P 0 δ0)
    (st : ∀ i, i < n → ∀ δ, P i δ → ∃ δ1 o, g (.fz (.int (lo + (i : Nat)))) δ = some δ1 ∧ b δ1 = some o ∧ LoopQ (P (i + 1)) Q o) (he : ∀ δ, P n δ → Q (.nx δ)) : ∃ o, sFor it g b δ = some o ∧ Q o := by
  rw [ev_for, hit, forK_ok]
  exact forR_rule h0 st he
theorem cut_mid {ds : List D} {a b : Int} (ha : 0 ≤ a) (hb : 0 ≤ b) : cutD ds (some a) (some b) = (ds.take b.toNat).drop a.toNat := by
  unfold cutD
  have e1 : HT.sIx ds.length 0 (some a) = min a.toNat ds.length := by
    unfold HT.sIx
    exact if_neg (by omega)
  have e2 : HT.sIx ds.length ds.length (some b) = min b.toNat ds.length := by
    unfold HT.sIx
    exact if_neg (by omega)
  rw [e1, e2]
  refine List.ext_getElem (by simp only [List.length_take, List.length_drop]; omega) fun i h1 h2 => ?_
  simp only [List.length_take, List.length_drop] at h1 h2
  simp only [List.getElem_take, List.getElem_drop]
  congr 1
  omega
def putP (acc : List (Key × D)) (o : Option (Key × D)) : List (Key × D) := match o with
  | some (k, d) => putD acc k d
  | none => acc
theorem dcL_one {g : GD} {t : TD} {ek el : ED} {vs : List Nat} {d : D} {ds : List D} {δ δ' : List Sl} {o : Option (Key × D)} {acc : List (Key × D)} (h : dcOne g t ek el vs d δ = some (o, δ')) (hl : acc.length < 16777216) :
    dcL g t ek el vs (d :: ds) δ acc = dcL g t ek el vs ds δ' (putP acc o) := by
  conv => lhs; unfold dcL
  unfold dcOne at h
  revert h
  cases hg : g (.fz d) δ with
  | none => exact fun h => nomatch h
  | some δ1 =>
    rw [dc1G_ok]
    dsimp only
    cases ht : t δ1 with
    | none => exact fun h => nomatch h
    | some o1 =>
      cases o1 with
      | er x δ2 => exact fun h => nomatch h
      | ok c δ2 =>
        rw [dc1A_ok]
        dsimp only
        cases c with
        | true =>
          rw [if_pos rfl, if_pos rfl]
          cases hk : ek δ2 with
          | none => exact fun h => nomatch h
          | some o2 =>
            cases o2 with
            | er x δ3 => exact fun h => nomatch h
            | ok r δ3 =>
              cases r with
              | fresh ds => exact fun h => nomatch h
              | slot i => exact fun h => nomatch h
              | fz kd =>
                show dc1D el vs δ3 (keyD kd) = _ → _
                dsimp only
                cases hq : keyD kd with
                | none => exact fun h => nomatch h
                | some k =>
                  show dc1B vs k (el δ3) = _ → _
                  dsimp only
                  cases he : el δ3 with
                  | none => exact fun h => nomatch h
                  | some o3 =>
                    cases o3 with
                    | er x δ4 => exact fun h => nomatch h
                    | ok r δ4 =>
                      rw [dc1B_ok]
                      dsimp only
                      cases hs : r.settle δ4 with
                      | none => exact fun h => nomatch h
                      | some z =>
                        obtain ⟨d', δ5⟩ := z
                        rw [dc1C_ok]
                        dsimp only
                        intro h
                        by_cases hw : canWipe δ5 vs = true
                        · rw [if_pos hw] at h
                          cases h
                          rw [if_pos (by rw [hw, decide_eq_true hl]; rfl)]
                          rfl
                        · rw [if_neg hw] at h
                          cases h
        | false =>
          rw [if_neg Bool.false_ne_true, if_neg Bool.false_ne_true]
          intro h
          by_cases hw : canWipe δ2 vs = true
          · rw [if_pos hw] at h
            cases h
            rw [if_pos hw]
            rfl
          · rw [if_neg hw] at h
            cases h
theorem putD_len {acc : List (Key × D)} {k : Key} {d : D} : (putD acc k d).length ≤ acc.length + 1 := by
  unfold putD
  split <;> simp
theorem putP_len {acc : List (Key × D)} {o : Option (Key × D)} : (putP acc o).length ≤ acc.length + 1 := by
  cases o with
  | none => simp [putP]
  | some z => exact putD_len
/-- what a dict comprehension gives whose turns leave all as it was -/
theorem dcL_fold {α : Type} {g : GD} {t : TD} {ek el : ED} {vs : List Nat} {δ : List Sl} (q : α → D) (f : α → Option (Key × D)) : ∀ (ns : List α) (acc : List (Key × D)), acc.length + ns.length ≤ 16777216 → (∀ n ∈ ns, dcOne g t ek el vs (q n) δ = some (f n, δ)) →
    dcL g t ek el vs (ns.map q) δ acc = some (ns.foldl (fun a n => putP a (f n)) acc, δ)
  | [], acc, _, _ => rfl
  | n :: ns, acc, hl, h => by
    rw [List.length_cons] at hl
    have := putP_len (acc := acc) (o := f n)
    rw [List.map_cons, dcL_one (h n (by simp)) (by omega), dcL_fold q f ns _ (by omega) fun m hm => h m (by simp [hm])]
    rfl
theorem for_items {α : Type} {it : ID} {g : GD} {b : SD} {δ δ0 : List Sl} (items : List α) (q : α → D) (P : Nat → List Sl → Prop) (hit : it δ = some (.ok (items.map q) δ0)) (h0 : P 0 δ0)
    (st : ∀ i (hi : i < items.length) δ, P i δ → ∃ δ1 δ2, g (.fz (q items[i])) δ = some δ1 ∧ b δ1 = some (.nx δ2) ∧ P (i + 1) δ2) : ∃ δ', sFor it g b δ = some (.nx δ') ∧ P items.length δ' := by
  obtain ⟨δ', e, h⟩ := for_plain (g := g) (b := b) (P := P) hit h0 (fun i hi δ hp => by
    have := st i (by simpa using hi) δ hp
    simpa using this)
  exact ⟨δ', e, by simpa using h⟩
theorem for_rangeI {it : ID} {g : GD} {b : SD} {δ δ0 : List Sl} (n : Nat) (q : Nat → D) (P : Nat → List Sl → Prop) (hit : it δ = some (.ok ((List.range n).map q) δ0)) (h0 : P 0 δ0)
    (st : ∀ i, i < n → ∀ δ, P i δ → ∃ δ1 δ2, g (.fz (q i)) δ = some δ1 ∧ b δ1 = some (.nx δ2) ∧ P (i + 1) δ2) : ∃ δ', sFor it g b δ = some (.nx δ') ∧ P n δ' := by
  obtain ⟨δ', e, h⟩ := for_items (List.range n) q P hit h0 (fun i hi δ hp => by
    have := st i (by simpa using hi) δ hp
    simpa using this)
  exact ⟨δ', e, by simpa using h⟩
/-! one statement, then the rest -/
theorem sqF {a b : SD} {δ : List Sl} {R : Option FO} (δ' : List Sl) (h : a δ = some (.nx δ')) (k : semFO (b δ') = R) : semFO (sSeq a b δ) = R := by
  rw [ev_seq, h]; exact k
theorem sqIo {a b : SD} {δ : List Sl} {R : Option (FO × List D)} (δ' : List Sl) (h : a δ = some (.nx δ')) (k : semIoO (b δ') = R) : semIoO (sSeq a b δ) = R := by
  rw [ev_seq, h]; exact k
theorem sqS {a b : SD} {δ : List Sl} {R : Option Out} (δ' : List Sl) (h : a δ = some (.nx δ')) (k : b δ' = R) : sSeq a b δ = R := by
  rw [ev_seq, h]; exact k
end Dn

namespace Lk57
open PySem PySem.Spec L2 Dn
open PyProof.Rows (envOfC)
def ec__law_hand_1 : ED :=
  eLc (itSeq (eSlice (eVar 0) none (some (eC (.int 63))))) (gN 2) tTrue (eB absD (aCons (eB intD (aCons (eVar 2) aNil)) aNil)) [2]
/-- _law_hand: 0 script, 1 cells, 2 cell -/
def sd__law_hand : SD :=
  (sSeq (sAsg (gN 1) ec__law_hand_1)
  (sRet (eLst (aCons (eVar 1) (aCons (eC (.int 0)) (aCons (eC (.int 0)) (aCons (eBin addD (eC (.int 4615)) (eBin mulD (eC (.int 7)) (eB lenD (aCons (eVar 1) aNil)))) (aCons (eC (.int 0)) aNil))))))))
def sem__law_hand : FS := semF 3 1 (sd__law_hand)
theorem q__law_hand {a0 : D} : sem__law_hand [a0] = semFO (sd__law_hand [.fz a0, .no, .no]) := semF_q rfl
def lp_whole_square_root_1 : SD :=
  sWhile (tVal (eBin gtD (eBin subD (eVar 2) (eVar 1)) (eC (.int 1))))
   (sSeq (sAsg (gN 3) (eBin divD (eBin addD (eVar 1) (eVar 2)) (eC (.int 2))))
   (sAsg (gT [1, 2]) (eIf (tVal (eBin leD (eBin mulD (eVar 3) (eVar 3)) (eVar 0))) (eTup (aCons (eVar 3) (aCons (eVar 2) aNil))) (eTup (aCons (eVar 1) (aCons (eVar 3) aNil))))))
/-- whole_square_root: 0 number, 1 low, 2 high, 3 middle -/
def sd_whole_square_root : SD :=
  (sSeq (sPar [1, 2] (aCons (eC (.int 0)) (aCons (eBin addD (eVar 0) (eC (.int 1))) aNil)))
  (sSeq lp_whole_square_root_1
  (sRet (eVar 1))))
def sem_whole_square_root : FS := semF 4 1 (sd_whole_square_root)
theorem q_whole_square_root {a0 : D} : sem_whole_square_root [a0] = semFO (sd_whole_square_root [.fz a0, .no, .no, .no]) := semF_q rfl
/-- is_integer: 0 thing -/
def sd_is_integer : SD :=
  (sRet (eAnd (eB isiD (aCons (eVar 0) (aCons (eC (.ty "int")) aNil))) (eNot (eB isiD (aCons (eVar 0) (aCons (eC (.ty "bool")) aNil))))))
def sem_is_integer : FS := semF 1 1 (sd_is_integer)
theorem q_is_integer {a0 : D} : sem_is_integer [a0] = semFO (sd_is_integer [.fz a0]) := semF_q rfl
/-- is_within: 0 thing, 1 low, 2 high -/
def sd_is_within : SD :=
  (sRet (eAnd (eCall sem_is_integer (aCons (eVar 0) aNil)) (eChain leD leD (eVar 1) (eVar 0) (eVar 2))))
def sem_is_within : FS := semF 3 3 (sd_is_within)
theorem q_is_within {a0 a1 a2 : D} : sem_is_within [a0, a1, a2] = semFO (sd_is_within [.fz a0, .fz a1, .fz a2]) := semF_q rfl
/-- is_surd: 0 thing, 1 first -/
def sd_is_surd : SD :=
  (sSeq (sIf (tNotD (tTru (eCall sem_is_within (aCons (eVar 0) (aCons (eC (.int 2)) (aCons (eC (.int 10000)) aNil))))))
   (sRet (eC (.bl false)))
   sNil)
  (sSeq (sAsg (gN 1) (eCall sem_whole_square_root (aCons (eVar 0) aNil)))
  (sRet (eBin (eqX true) (eBin mulD (eVar 1) (eVar 1)) (eVar 0)))))
def sem_is_surd : FS := semF 2 1 (sd_is_surd)
theorem q_is_surd {a0 : D} : sem_is_surd [a0] = semFO (sd_is_surd [.fz a0, .no]) := semF_q rfl
/-- check_surd: 0 d -/
def sd_check_surd : SD :=
  (sIf (tNotD (tTru (eCall sem_is_surd (aCons (eVar 0) aNil))))
   (sRaise "NoSurd")
   sNil)
def sem_check_surd : FS := semF 1 1 (sd_check_surd)
theorem q_check_surd {a0 : D} : sem_check_surd [a0] = semFO (sd_check_surd [.fz a0]) := semF_q rfl
/-- check_size: 0 n -/
def sd_check_size : SD :=
  (sIf (tOrD (tNotD (tTru (eCall sem_is_within (aCons (eVar 0) (aCons (eUn negD (eC (.int 1000))) (aCons (eC (.int 1000)) aNil)))))) (tVal (eBin (eqX false) (eVar 0) (eC (.int 0)))))
   (sRaise "NoInteger")
   sNil)
def sem_check_size : FS := semF 1 1 (sd_check_size)
theorem q_check_size {a0 : D} : sem_check_size [a0] = semFO (sd_check_size [.fz a0]) := semF_q rfl
/-- are_alike: 0 d, 1 n, 2 one, 3 other, 4 first -/
def sd_are_alike : SD :=
  (sSeq (sAsg (gN 4) (eBin subD (eBin mulD (eBin ixD (eVar 2) (eC (.int 0))) (eBin ixD (eVar 3) (eC (.int 0)))) (eBin mulD (eBin mulD (eVar 0) (eBin ixD (eVar 2) (eC (.int 1)))) (eBin ixD (eVar 3) (eC (.int 1))))))
  (sRet (eAnd (eBin (eqX false) (eBin modD (eVar 4) (eVar 1)) (eC (.int 0))) (eBin (eqX false) (eBin modD (eBin subD (eBin mulD (eBin ixD (eVar 2) (eC (.int 0))) (eBin ixD (eVar 3) (eC (.int 1)))) (eBin mulD (eBin ixD (eVar 2) (eC (.int 1))) (eBin ixD (eVar 3) (eC (.int 0))))) (eVar 1)) (eC (.int 0))))))
def sem_are_alike : FS := semF 5 4 (sd_are_alike)
theorem q_are_alike {a0 a1 a2 a3 : D} : sem_are_alike [a0, a1, a2, a3] = semFO (sd_are_alike [.fz a0, .fz a1, .fz a2, .fz a3, .no]) := semF_q rfl
def ec_is_way_of_1 : ED :=
  eLc (itSeq (eVar 2)) (gN 3) tTrue (eAnd (eCall sem_is_integer (aCons (eVar 3) aNil)) (eBin ltD (eB absD (aCons (eVar 3) aNil)) (eC (.int 1000000000000000000000000000000000000000000000000000000000000)))) [3]
/-- is_way_of: 0 d, 1 n, 2 thing, 3 one -/
def sd_is_way_of : SD :=
  (sSeq (sIf (tOrD (tNotD (tTru (eB isiD (aCons (eVar 2) (aCons (eC (.ty "tuple")) aNil))))) (tVal (eBin (eqX true) (eB lenD (aCons (eVar 2) aNil)) (eC (.int 2)))))
   (sRet (eC (.bl false)))
   sNil)
  (sSeq (sIf (tNotD (tTru (eB allD (aCons ec_is_way_of_1 aNil))))
   (sRet (eC (.bl false)))
   sNil)
  (sRet (eBin (eqX false) (eBin subD (eBin mulD (eBin ixD (eVar 2) (eC (.int 0))) (eBin ixD (eVar 2) (eC (.int 0)))) (eBin mulD (eBin mulD (eVar 0) (eBin ixD (eVar 2) (eC (.int 1)))) (eBin ixD (eVar 2) (eC (.int 1))))) (eVar 1)))))
def sem_is_way_of : FS := semF 4 3 (sd_is_way_of)
theorem q_is_way_of {a0 a1 a2 : D} : sem_is_way_of [a0, a1, a2] = semFO (sd_is_way_of [.fz a0, .fz a1, .fz a2, .no]) := semF_q rfl
def lp_is_same_class_1 : SD :=
  sFor (itSeq (eTup (aCons (eVar 2) (aCons (eVar 3) aNil)))) (gN 4)
   (sIf (tNotD (tTru (eCall sem_is_way_of (aCons (eVar 0) (aCons (eVar 1) (aCons (eVar 4) aNil))))))
    (sRaise "NoWay")
    sNil)
/-- is_same_class: 0 d, 1 n, 2 one, 3 other, 4 way -/
def sd_is_same_class : SD :=
  (sSeq (sExpr (eCall sem_check_surd (aCons (eVar 0) aNil)))
  (sSeq (sExpr (eCall sem_check_size (aCons (eVar 1) aNil)))
  (sSeq lp_is_same_class_1
  (sRet (eCall sem_are_alike (aCons (eVar 0) (aCons (eVar 1) (aCons (eVar 2) (aCons (eVar 3) aNil)))))))))
def sem_is_same_class : FS := semF 5 4 (sd_is_same_class)
theorem q_is_same_class {a0 a1 a2 a3 : D} : sem_is_same_class [a0, a1, a2, a3] = semFO (sd_is_same_class [.fz a0, .fz a1, .fz a2, .fz a3, .no]) := semF_q rfl
/-- _law_draw: 0 hand, 1 below, 2 number, 3 cell, 4 digit -/
def sd__law_draw : SD :=
  (sSeq (sIf (tAndD (tVal (eBin (eqX false) (eBin ixD (eVar 0) (eC (.int 2))) (eC (.int 0)))) (tVal (eBin ltD (eBin ixD (eVar 0) (eC (.int 1))) (eB lenD (aCons (eBin ixD (eVar 0) (eC (.int 0))) aNil)))))
   (sSeq (sAsg (gN 3) (eBin ixD (eBin ixD (eVar 0) (eC (.int 0))) (eBin ixD (eVar 0) (eC (.int 1)))))
   (sSeq (sAsg (gIx (eVar 0) (eC (.int 1))) (eBin addD (eBin ixD (eVar 0) (eC (.int 1))) (eC (.int 1))))
   (sSeq (sAsg (gIx (eVar 0) (eC (.int 3))) (eBin modD (eB intD (aCons (eBin addD (eBin addD (eBin mulD (eBin ixD (eVar 0) (eC (.int 3))) (eC (.int 69621))) (eBin mulD (eVar 3) (eC (.int 40692)))) (eC (.int 31))) aNil)) (eC (.int 2147483629))))
   (sIf (tVal (eBin geD (eVar 3) (eBin powD (eC (.int 10)) (eC (.int 18)))))
    (sAsg (gIx (eVar 0) (eC (.int 2))) (eVar 3))
    sNil))))
   sNil)
  (sSeq (sIf (tVal (eBin gtD (eBin ixD (eVar 0) (eC (.int 2))) (eC (.int 0))))
   (sSeq (sAsg (gN 4) (eBin modD (eB intD (aCons (eBin ixD (eVar 0) (eC (.int 2))) aNil)) (eVar 1)))
   (sSeq (sAsg (gIx (eVar 0) (eC (.int 2))) (eBin divD (eBin ixD (eVar 0) (eC (.int 2))) (eVar 1)))
   (sRet (eVar 4))))
   sNil)
  (sSeq (sAsg (gIx (eVar 0) (eC (.int 4))) (eBin addD (eBin ixD (eVar 0) (eC (.int 4))) (eC (.int 1))))
  (sSeq (sAsg (gN 2) (eBin modD (eB intD (aCons (eBin mulD (eB intD (aCons (eBin addD (eBin ixD (eVar 0) (eC (.int 3))) (eBin mulD (eC (.int 7919)) (eBin ixD (eVar 0) (eC (.int 4))))) aNil)) (eC (.int 48271))) aNil)) (eC (.int 2147483647))))
  (sSeq (sAsg (gN 2) (eBin modD (eB intD (aCons (eBin mulD (eVar 2) (eBin addD (eBin divD (eVar 2) (eC (.int 1009))) (eC (.int 69621)))) aNil)) (eC (.int 2147483647))))
  (sSeq (sAsg (gN 2) (eBin modD (eB intD (aCons (eBin mulD (eVar 2) (eBin addD (eBin divD (eVar 2) (eC (.int 2003))) (eC (.int 40014)))) aNil)) (eC (.int 2147483563))))
  (sRet (eBin modD (eB intD (aCons (eBin divD (eVar 2) (eC (.int 16))) aNil)) (eVar 1)))))))))
def sem__law_draw : FSio := semIo 5 2 (sd__law_draw)
theorem q__law_draw {h : List D} {a1 : D} : sem__law_draw [.lst h, a1] = semIoO (sd__law_draw [.io h, .fz a1, .no, .no, .no]) := semIo_q rfl
/-- _law_any: 0 hand, 1 some -/
def sd__law_any : SD :=
  (sRet (eBin ixD (eVar 1) (eCallIo sem__law_draw (aCons (eVar 0) (aCons (eB lenD (aCons (eVar 1) aNil)) aNil)))))
def sem__law_any : FSio := semIo 2 2 (sd__law_any)
theorem q__law_any {h : List D} {a1 : D} : sem__law_any [.lst h, a1] = semIoO (sd__law_any [.io h, .fz a1]) := semIo_q rfl
/-- _law_surd: 0 hand, 1 some -/
def sd__law_surd : SD :=
  (sSeq (sAsg (gN 1) (eLst (aCons (eC (.int 2)) (aCons (eC (.int 3)) (aCons (eC (.int 5)) (aCons (eC (.int 6)) (aCons (eC (.int 7)) (aCons (eC (.int 8)) (aCons (eC (.int 10)) (aCons (eC (.int 11)) (aCons (eC (.int 12)) (aCons (eC (.int 13)) (aCons (eC (.int 14)) (aCons (eC (.int 15)) (aCons (eC (.int 17)) (aCons (eC (.int 18)) (aCons (eC (.int 19)) (aCons (eC (.int 20)) (aCons (eC (.int 21)) (aCons (eC (.int 23)) (aCons (eC (.int 24)) (aCons (eC (.int 26)) (aCons (eC (.int 29)) (aCons (eC (.int 34)) (aCons (eC (.int 37)) (aCons (eC (.int 41)) (aCons (eC (.int 46)) (aCons (eC (.int 53)) aNil))))))))))))))))))))))))))))
  (sRet (eCallIo sem__law_any (aCons (eVar 0) (aCons (eVar 1) aNil)))))
def sem__law_surd : FSio := semIo 2 1 (sd__law_surd)
theorem q__law_surd {h : List D}  : sem__law_surd [.lst h] = semIoO (sd__law_surd [.io h, .no]) := semIo_q rfl
def lp_first_way_1 : SD :=
  sWhile (tTru (eC (.bl true)))
   (sSeq (sAsg (gN 3) (eBin subD (eBin mulD (eVar 4) (eVar 5)) (eVar 3)))
   (sSeq (sAsg (gN 4) (eBin divD (eBin subD (eVar 0) (eBin mulD (eVar 3) (eVar 3))) (eVar 4)))
   (sSeq (sIf (tVal (eBin (eqX false) (eVar 4) (eC (.int 1))))
    (sRet (eTup (aCons (eVar 6) (aCons (eVar 8) (aCons (eVar 2) aNil)))))
    sNil)
   (sSeq (sAsg (gN 5) (eBin divD (eBin addD (eVar 1) (eVar 3)) (eVar 4)))
   (sSeq (sPar [6, 7] (aCons (eBin addD (eBin mulD (eVar 5) (eVar 6)) (eVar 7)) (aCons (eVar 6) aNil)))
   (sSeq (sPar [8, 9] (aCons (eBin addD (eBin mulD (eVar 5) (eVar 8)) (eVar 9)) (aCons (eVar 8) aNil)))
   (sAsg (gN 2) (eUn negD (eVar 2)))))))))
/-- first_way: 0 d, 1 whole, 2 sign, 3 m, 4 bottom, 5 part, 6 x, 7 ahead_x, 8 y, 9 ahead_y -/
def sd_first_way : SD :=
  (sSeq (sAsg (gN 1) (eCall sem_whole_square_root (aCons (eVar 0) aNil)))
  (sSeq (sPar [3, 4, 5] (aCons (eC (.int 0)) (aCons (eC (.int 1)) (aCons (eVar 1) aNil))))
  (sSeq (sPar [6, 7, 8, 9] (aCons (eVar 1) (aCons (eC (.int 1)) (aCons (eC (.int 1)) (aCons (eC (.int 0)) aNil)))))
  (sSeq (sAsg (gN 2) (eC (.int (-1))))
  lp_first_way_1))))
def sem_first_way : FS := semF 10 1 (sd_first_way)
theorem q_first_way {a0 : D} : sem_first_way [a0] = semFO (sd_first_way [.fz a0, .no, .no, .no, .no, .no, .no, .no, .no, .no]) := semF_q rfl
/-- ways_times: 0 d, 1 one, 2 other -/
def sd_ways_times : SD :=
  (sRet (eTup (aCons (eBin addD (eBin mulD (eBin ixD (eVar 1) (eC (.int 0))) (eBin ixD (eVar 2) (eC (.int 0)))) (eBin mulD (eBin mulD (eVar 0) (eBin ixD (eVar 1) (eC (.int 1)))) (eBin ixD (eVar 2) (eC (.int 1))))) (aCons (eBin addD (eBin mulD (eBin ixD (eVar 1) (eC (.int 0))) (eBin ixD (eVar 2) (eC (.int 1)))) (eBin mulD (eBin ixD (eVar 1) (eC (.int 1))) (eBin ixD (eVar 2) (eC (.int 0))))) aNil))))
def sem_ways_times : FS := semF 3 3 (sd_ways_times)
theorem q_ways_times {a0 a1 a2 : D} : sem_ways_times [a0, a1, a2] = semFO (sd_ways_times [.fz a0, .fz a1, .fz a2]) := semF_q rfl
/-- raw_unit: 0 d, 1 x, 2 y, 3 sign -/
def sd_raw_unit : SD :=
  (sSeq (sAsg (gT [1, 2, 3]) (eCall sem_first_way (aCons (eVar 0) aNil)))
  (sRet (eIf (tVal (eBin (eqX false) (eVar 3) (eC (.int 1)))) (eTup (aCons (eVar 1) (aCons (eVar 2) aNil))) (eCall sem_ways_times (aCons (eVar 0) (aCons (eTup (aCons (eVar 1) (aCons (eVar 2) aNil))) (aCons (eTup (aCons (eVar 1) (aCons (eVar 2) aNil))) aNil)))))))
def sem_raw_unit : FS := semF 4 1 (sd_raw_unit)
theorem q_raw_unit {a0 : D} : sem_raw_unit [a0] = semFO (sd_raw_unit [.fz a0, .no, .no, .no]) := semF_q rfl
/-- unit: 0 d -/
def sd_unit : SD :=
  (sSeq (sExpr (eCall sem_check_surd (aCons (eVar 0) aNil)))
  (sRet (eCall sem_raw_unit (aCons (eVar 0) aNil))))
def sem_unit : FS := semF 1 1 (sd_unit)
theorem q_unit {a0 : D} : sem_unit [a0] = semFO (sd_unit [.fz a0]) := semF_q rfl
/-- _law_is_refused: 0 call, 1 error -/
def sdh__law_is_refused (nm : Str) : SD :=
  (sRet (eAnd (eIsE 1 (subc nm "NoWay")) (eIsE 1 true)))
def sdr__law_is_refused : SD :=
  (sRet (eC (.bl false)))
def kn__law_is_refused (y : Str) : Bool := decide (y ∈ (["NoSurd", "NoInteger", "NoWay", "NoNumber"] : List Str))
def hs__law_is_refused : Option Ex → Option FO := wSem 2 1 kn__law_is_refused sdh__law_is_refused (fun δ => δ) sdr__law_is_refused
/-- _law_is_same: 0 d, 1 n, 2 one, 3 other -/
def sd__law_is_same : SD :=
  (sSeq (sIf (tVal (eBin (eqX true) (eBin modD (eB intD (aCons (eBin subD (eBin mulD (eBin ixD (eVar 2) (eC (.int 0))) (eBin ixD (eVar 3) (eC (.int 0)))) (eBin mulD (eBin mulD (eVar 0) (eBin ixD (eVar 2) (eC (.int 1)))) (eBin ixD (eVar 3) (eC (.int 1))))) aNil)) (eB absD (aCons (eVar 1) aNil))) (eC (.int 0))))
   (sRet (eC (.bl false)))
   sNil)
  (sRet (eBin (eqX false) (eBin modD (eB intD (aCons (eBin subD (eBin mulD (eBin ixD (eVar 2) (eC (.int 0))) (eBin ixD (eVar 3) (eC (.int 1)))) (eBin mulD (eBin ixD (eVar 2) (eC (.int 1))) (eBin ixD (eVar 3) (eC (.int 0))))) aNil)) (eB absD (aCons (eVar 1) aNil))) (eC (.int 0)))))
def sem__law_is_same : FS := semF 4 4 (sd__law_is_same)
theorem q__law_is_same {a0 a1 a2 a3 : D} : sem__law_is_same [a0, a1, a2, a3] = semFO (sd__law_is_same [.fz a0, .fz a1, .fz a2, .fz a3]) := semF_q rfl
def lp__law_deep_1 : SD :=
  sFor (itArgs (aCons (eBin addD (eC (.int 1)) (eCallIo sem__law_draw (aCons (eVar 0) (aCons (eC (.int 40)) aNil)))) aNil) fR1) (gN 2)
   (sAsg (gN 1) (eIf (tVal (eBin (eqX false) (eCallIo sem__law_draw (aCons (eVar 0) (aCons (eC (.int 2)) aNil))) (eC (.int 0)))) (eTup (aCons (eVar 1) aNil)) (eLst (aCons (eVar 1) aNil))))
/-- _law_deep: 0 hand, 1 thing, 2 lap_on -/
def sd__law_deep : SD :=
  (sSeq (sAsg (gN 1) (eC .non))
  (sSeq lp__law_deep_1
  (sRet (eVar 1))))
def sem__law_deep : FSio := semIo 3 1 (sd__law_deep)
theorem q__law_deep {h : List D}  : sem__law_deep [.lst h] = semIoO (sd__law_deep [.io h, .no, .no]) := semIo_q rfl
/-- check_number: 0 thing, 1 low, 2 high -/
def sd_check_number : SD :=
  (sIf (tNotD (tTru (eCall sem_is_within (aCons (eVar 0) (aCons (eVar 1) (aCons (eVar 2) aNil))))))
   (sRaise "NoNumber")
   sNil)
def sem_check_number : FS := semF 3 3 (sd_check_number)
theorem q_check_number {a0 a1 a2 : D} : sem_check_number [a0, a1, a2] = semFO (sd_check_number [.fz a0, .fz a1, .fz a2]) := semF_q rfl
/-- x_for: 0 d, 1 n, 2 y, 3 square, 4 x -/
def sd_x_for : SD :=
  (sSeq (sAsg (gN 3) (eBin addD (eVar 1) (eBin mulD (eBin mulD (eVar 0) (eVar 2)) (eVar 2))))
  (sSeq (sIf (tVal (eBin ltD (eVar 3) (eC (.int 0))))
   (sRet (eC .non))
   sNil)
  (sSeq (sAsg (gN 4) (eCall sem_whole_square_root (aCons (eVar 3) aNil)))
  (sRet (eIf (tVal (eBin (eqX false) (eBin mulD (eVar 4) (eVar 4)) (eVar 3))) (eVar 4) (eC .non))))))
def sem_x_for : FS := semF 5 3 (sd_x_for)
theorem q_x_for {a0 a1 a2 : D} : sem_x_for [a0, a1, a2] = semFO (sd_x_for [.fz a0, .fz a1, .fz a2, .no, .no]) := semF_q rfl
def ec_ways_of_1 : ED :=
  eLc (itArgs (aCons (eBin addD (eVar 2) (eC (.int 1))) aNil) fR1) (gN 4) tTrue (eTup (aCons (eCall sem_x_for (aCons (eVar 0) (aCons (eVar 1) (aCons (eVar 4) aNil)))) (aCons (eVar 4) aNil))) [4]
def ec_ways_of_2 : ED :=
  eLc (itSeq (eVar 3)) (gT [5, 4]) (tVal (eBin (isND true) (eVar 5) (eC .non))) (eTup (aCons (eVar 5) (aCons (eVar 4) aNil))) [5, 4]
/-- ways_of: 0 d, 1 n, 2 most, 3 some, 4 y, 5 x -/
def sd_ways_of : SD :=
  (sSeq (sExpr (eCall sem_check_surd (aCons (eVar 0) aNil)))
  (sSeq (sExpr (eCall sem_check_size (aCons (eVar 1) aNil)))
  (sSeq (sExpr (eCall sem_check_number (aCons (eVar 2) (aCons (eC (.int 0)) (aCons (eC (.int 10000)) aNil)))))
  (sSeq (sAsg (gN 3) ec_ways_of_1)
  (sRet (eB tupleD (aCons (eB sortedD (aCons ec_ways_of_2 aNil)) aNil)))))))
def sem_ways_of : FS := semF 6 3 (sd_ways_of)
theorem q_ways_of {a0 a1 a2 : D} : sem_ways_of [a0, a1, a2] = semFO (sd_ways_of [.fz a0, .fz a1, .fz a2, .no, .no, .no]) := semF_q rfl
def lp__law_is_right_1 : SD :=
  sFor (itArgs (aCons (eCallIo sem__law_draw (aCons (eVar 0) (aCons (eC (.int 4)) aNil))) aNil) fR1) (gN 5)
   (sAsg (gN 4) (eTup (aCons (eBin addD (eBin mulD (eBin ixD (eVar 4) (eC (.int 0))) (eVar 9)) (eBin mulD (eBin mulD (eVar 1) (eBin ixD (eVar 4) (eC (.int 1)))) (eVar 10))) (aCons (eBin addD (eBin mulD (eBin ixD (eVar 4) (eC (.int 0))) (eVar 10)) (eBin mulD (eBin ixD (eVar 4) (eC (.int 1))) (eVar 9))) aNil))))
def lp__law_is_right_2 : SD :=
  sFor (itSeq (eVar 6)) (gN 7)
   (sSeq (sAsg (gN 11) (eCall sem__law_is_same (aCons (eVar 1) (aCons (eVar 2) (aCons (eVar 3) (aCons (eVar 7) aNil))))))
   (sIf (tVal (eBin (eqX true) (eB reprD (aCons (eLst (aCons (eCall sem_is_same_class (aCons (eVar 1) (aCons (eVar 2) (aCons (eVar 3) (aCons (eVar 7) aNil))))) (aCons (eCall sem_is_same_class (aCons (eVar 1) (aCons (eVar 2) (aCons (eVar 7) (aCons (eVar 3) aNil))))) aNil))) aNil)) (eB reprD (aCons (eLst (aCons (eVar 11) (aCons (eVar 11) aNil))) aNil))))
    (sRet (eC (.bl false)))
    sNil))
/-- _law_is_right: 0 hand, 1 d, 2 n, 3 one, 4 here, 5 turn, 6 others, 7 other, 8 bad, 9 x, 10 y, 11 flag -/
def sd__law_is_right : SD :=
  (sSeq (sAsg (gT [9, 10]) (eCall sem_unit (aCons (eVar 1) aNil)))
  (sSeq (sAsg (gN 4) (eVar 3))
  (sSeq lp__law_is_right_1
  (sSeq (sAsg (gN 6) (eBin addD (eLst (aCons (eVar 4) (aCons (eTup (aCons (eBin subD (eC (.int 0)) (eBin ixD (eVar 4) (eC (.int 0)))) (aCons (eBin subD (eC (.int 0)) (eBin ixD (eVar 4) (eC (.int 1)))) aNil))) (aCons (eTup (aCons (eBin subD (eC (.int 0)) (eBin ixD (eVar 3) (eC (.int 0)))) (aCons (eBin ixD (eVar 3) (eC (.int 1))) aNil))) aNil)))) (eSlice (eB listD (aCons (eCall sem_ways_of (aCons (eVar 1) (aCons (eVar 2) (aCons (eC (.int 60)) aNil)))) aNil)) none (some (eC (.int 6))))))
  (sSeq lp__law_is_right_2
  (sSeq (sIf (tOrD (tNotD (tTru (eCall sem_is_same_class (aCons (eVar 1) (aCons (eVar 2) (aCons (eVar 3) (aCons (eBin ixD (eVar 6) (eC (.int 0))) aNil))))))) (tNotD (tTru (eCall sem_is_same_class (aCons (eVar 1) (aCons (eVar 2) (aCons (eVar 3) (aCons (eBin ixD (eVar 6) (eC (.int 1))) aNil))))))))
   (sRet (eC (.bl false)))
   sNil)
  (sSeq (sAsg (gN 8) (eLst (aCons (eC .non) (aCons (eTup (aCons (eBin addD (eBin ixD (eVar 3) (eC (.int 0))) (eC (.int 1))) (aCons (eBin ixD (eVar 3) (eC (.int 1))) aNil))) (aCons (eSlice (eVar 3) none (some (eC (.int 1)))) (aCons (eB listD (aCons (eVar 3) aNil)) (aCons (eTup (aCons (eC .non) (aCons (eC (.int 0)) aNil))) (aCons (eTup (aCons (eC (.bl true)) (aCons (eC (.int 0)) aNil))) (aCons (eC (.int 0)) (aCons (eC (.str "way")) (aCons (eCallIo sem__law_deep (aCons (eVar 0) aNil)) aNil)))))))))))
  (sSeq (sAsg (gN 8) (eCallIo sem__law_any (aCons (eVar 0) (aCons (eVar 8) aNil))))
  (sSeq (sIf (tAndD (tVal (eBin (eqX false) (eVar 8) (eTup (aCons (eBin addD (eBin ixD (eVar 3) (eC (.int 0))) (eC (.int 1))) (aCons (eBin ixD (eVar 3) (eC (.int 1))) aNil))))) (tVal (eBin (eqX false) (eBin subD (eBin powD (eBin addD (eBin ixD (eVar 3) (eC (.int 0))) (eC (.int 1))) (eC (.int 2))) (eBin mulD (eVar 1) (eBin powD (eBin ixD (eVar 3) (eC (.int 1))) (eC (.int 2))))) (eVar 2))))
   (sAsg (gN 8) (eC .non))
   sNil)
  (sSeq (sIf (tNotD (tTru (eWord hs__law_is_refused (eCall sem_is_same_class (aCons (eVar 1) (aCons (eVar 2) (aCons (eVar 8) (aCons (eVar 3) aNil))))))))
   (sRet (eC (.bl false)))
   sNil)
  (sRet (eWord hs__law_is_refused (eCall sem_is_same_class (aCons (eVar 1) (aCons (eVar 2) (aCons (eVar 3) (aCons (eVar 8) aNil)))))))))))))))))
def sem__law_is_right : FSio := semIo 12 4 (sd__law_is_right)
theorem q__law_is_right {h : List D} {a1 a2 a3 : D} : sem__law_is_right [.lst h, a1, a2, a3] = semIoO (sd__law_is_right [.io h, .fz a1, .fz a2, .fz a3, .no, .no, .no, .no, .no, .no, .no, .no]) := semIo_q rfl
def lp_law_1 : SD :=
  sFor (itArgs (aCons (eC (.int 6)) aNil) fR1) (gN 2)
   (sSeq (sAsg (gN 3) (eCallIo sem__law_surd (aCons (eVar 1) aNil)))
   (sSeq (sAsg (gN 4) (eTup (aCons (eBin addD (eC (.int 1)) (eCallIo sem__law_draw (aCons (eVar 1) (aCons (eC (.int 30)) aNil)))) (aCons (eBin subD (eCallIo sem__law_draw (aCons (eVar 1) (aCons (eC (.int 9)) aNil))) (eC (.int 4))) aNil))))
   (sSeq (sAsg (gN 5) (eBin subD (eBin mulD (eBin ixD (eVar 4) (eC (.int 0))) (eBin ixD (eVar 4) (eC (.int 0)))) (eBin mulD (eBin mulD (eVar 3) (eBin ixD (eVar 4) (eC (.int 1)))) (eBin ixD (eVar 4) (eC (.int 1))))))
   (sIf (tAndD (tVal (eBin leD (eB absD (aCons (eVar 5) aNil)) (eC (.int 1000)))) (tNotD (tTru (eCallIo sem__law_is_right (aCons (eVar 1) (aCons (eVar 3) (aCons (eVar 5) (aCons (eVar 4) aNil))))))))
    (sRet (eC (.bl false)))
    sNil))))
/-- law: 0 script, 1 hand, 2 turn, 3 d, 4 one, 5 n -/
def sd_law : SD :=
  (sSeq (sAsg (gN 1) (eCall sem__law_hand (aCons (eVar 0) aNil)))
  (sSeq (sIf (tOrD (tVal (eBin (isND true) (eCall sem_is_same_class (aCons (eC (.int 2)) (aCons (eC (.int 7)) (aCons (eTup (aCons (eC (.int 3)) (aCons (eC (.int 1)) aNil))) (aCons (eTup (aCons (eC (.int 3)) (aCons (eC (.int (-1))) aNil))) aNil))))) (eC (.bl false)))) (tVal (eBin (isND true) (eCall sem_is_same_class (aCons (eC (.int 2)) (aCons (eC (.int 7)) (aCons (eTup (aCons (eC (.int 3)) (aCons (eC (.int 1)) aNil))) (aCons (eTup (aCons (eC (.int (-3))) (aCons (eC (.int (-1))) aNil))) aNil))))) (eC (.bl true)))))
   (sRet (eC (.bl false)))
   sNil)
  (sSeq (sIf (tVal (eBin (isND true) (eCall sem_is_same_class (aCons (eC (.int 2)) (aCons (eC (.int 7)) (aCons (eTup (aCons (eC (.int 3)) (aCons (eC (.int (-1))) aNil))) (aCons (eTup (aCons (eC (.int 5)) (aCons (eC (.int 3)) aNil))) aNil))))) (eC (.bl true))))
   (sRet (eC (.bl false)))
   sNil)
  (sSeq lp_law_1
  (sRet (eC (.bl true)))))))
def sem_law : FS := semF 6 1 (sd_law)
theorem q_law {a0 : D} : sem_law [a0] = semFO (sd_law [.fz a0, .no, .no, .no, .no, .no]) := semF_q rfl
end Lk57

namespace Lk57
open PySem PySem.Spec L2 Dn
open PyProof.Rows (envOfC)
def topS (i : Nat) : Stmt := PySem.Challenge.pw_rankrows_k57_whole_same_classes_of_ways.main.body.getD i (.Pass ⟨0, 0, 0, 0⟩)
abbrev s__law_hand : Stmt := topS 30
theorem sc__law_hand : FnScope ["script", "cells", "cell"] ["script"] (defScope s__law_hand) := ⟨rfl, rfl, rfl, by decide +kernel, rfl, by decide +kernel, by decide +kernel⟩
abbrev s_whole_square_root : Stmt := topS 16
theorem sc_whole_square_root : FnScope ["number", "low", "high", "middle"] ["number"] (defScope s_whole_square_root) := ⟨rfl, rfl, rfl, by decide +kernel, rfl, by decide +kernel, by decide +kernel⟩
abbrev s_is_integer : Stmt := topS 7
theorem sc_is_integer : FnScope ["thing"] ["thing"] (defScope s_is_integer) := ⟨rfl, rfl, rfl, by decide +kernel, rfl, by decide +kernel, by decide +kernel⟩
abbrev s_is_within : Stmt := topS 8
theorem sc_is_within : FnScope ["thing", "low", "high"] ["thing", "low", "high"] (defScope s_is_within) := ⟨rfl, rfl, rfl, by decide +kernel, rfl, by decide +kernel, by decide +kernel⟩
abbrev s_is_surd : Stmt := topS 17
theorem sc_is_surd : FnScope ["thing", "first"] ["thing"] (defScope s_is_surd) := ⟨rfl, rfl, rfl, by decide +kernel, rfl, by decide +kernel, by decide +kernel⟩
abbrev s_check_surd : Stmt := topS 18
theorem sc_check_surd : FnScope ["d"] ["d"] (defScope s_check_surd) := ⟨rfl, rfl, rfl, by decide +kernel, rfl, by decide +kernel, by decide +kernel⟩
abbrev s_check_size : Stmt := topS 23
theorem sc_check_size : FnScope ["n"] ["n"] (defScope s_check_size) := ⟨rfl, rfl, rfl, by decide +kernel, rfl, by decide +kernel, by decide +kernel⟩
abbrev s_are_alike : Stmt := topS 27
theorem sc_are_alike : FnScope ["d", "n", "one", "other", "first"] ["d", "n", "one", "other"] (defScope s_are_alike) := ⟨rfl, rfl, rfl, by decide +kernel, rfl, by decide +kernel, by decide +kernel⟩
abbrev s_is_way_of : Stmt := topS 26
theorem sc_is_way_of : FnScope ["d", "n", "thing", "one"] ["d", "n", "thing"] (defScope s_is_way_of) := ⟨rfl, rfl, rfl, by decide +kernel, rfl, by decide +kernel, by decide +kernel⟩
abbrev s_is_same_class : Stmt := topS 28
theorem sc_is_same_class : FnScope ["d", "n", "one", "other", "way"] ["d", "n", "one", "other"] (defScope s_is_same_class) := ⟨rfl, rfl, rfl, by decide +kernel, rfl, by decide +kernel, by decide +kernel⟩
abbrev s__law_draw : Stmt := topS 31
theorem sc__law_draw : FnScope ["hand", "below", "number", "cell", "digit"] ["hand", "below"] (defScope s__law_draw) := ⟨rfl, rfl, rfl, by decide +kernel, rfl, by decide +kernel, by decide +kernel⟩
abbrev s__law_any : Stmt := topS 32
theorem sc__law_any : FnScope ["hand", "some"] ["hand", "some"] (defScope s__law_any) := ⟨rfl, rfl, rfl, by decide +kernel, rfl, by decide +kernel, by decide +kernel⟩
abbrev s__law_surd : Stmt := topS 34
theorem sc__law_surd : FnScope ["hand", "some"] ["hand"] (defScope s__law_surd) := ⟨rfl, rfl, rfl, by decide +kernel, rfl, by decide +kernel, by decide +kernel⟩
abbrev s_first_way : Stmt := topS 19
theorem sc_first_way : FnScope ["d", "whole", "sign", "m", "bottom", "part", "x", "ahead_x", "y", "ahead_y"] ["d"] (defScope s_first_way) := ⟨rfl, rfl, rfl, by decide +kernel, rfl, by decide +kernel, by decide +kernel⟩
abbrev s_ways_times : Stmt := topS 20
theorem sc_ways_times : FnScope ["d", "one", "other"] ["d", "one", "other"] (defScope s_ways_times) := ⟨rfl, rfl, rfl, by decide +kernel, rfl, by decide +kernel, by decide +kernel⟩
abbrev s_raw_unit : Stmt := topS 21
theorem sc_raw_unit : FnScope ["d", "x", "y", "sign"] ["d"] (defScope s_raw_unit) := ⟨rfl, rfl, rfl, by decide +kernel, rfl, by decide +kernel, by decide +kernel⟩
abbrev s_unit : Stmt := topS 22
theorem sc_unit : FnScope ["d"] ["d"] (defScope s_unit) := ⟨rfl, rfl, rfl, by decide +kernel, rfl, by decide +kernel, by decide +kernel⟩
abbrev s__law_is_refused : Stmt := topS 36
theorem sc__law_is_refused : FnScope ["call", "error"] ["call"] (defScope s__law_is_refused) := ⟨rfl, rfl, rfl, by decide +kernel, rfl, by decide +kernel, by decide +kernel⟩
abbrev s__law_is_same : Stmt := topS 35
theorem sc__law_is_same : FnScope ["d", "n", "one", "other"] ["d", "n", "one", "other"] (defScope s__law_is_same) := ⟨rfl, rfl, rfl, by decide +kernel, rfl, by decide +kernel, by decide +kernel⟩
abbrev s__law_deep : Stmt := topS 33
theorem sc__law_deep : FnScope ["hand", "thing", "lap_on"] ["hand"] (defScope s__law_deep) := ⟨rfl, rfl, rfl, by decide +kernel, rfl, by decide +kernel, by decide +kernel⟩
abbrev s_check_number : Stmt := topS 9
theorem sc_check_number : FnScope ["thing", "low", "high"] ["thing", "low", "high"] (defScope s_check_number) := ⟨rfl, rfl, rfl, by decide +kernel, rfl, by decide +kernel, by decide +kernel⟩
abbrev s_x_for : Stmt := topS 24
theorem sc_x_for : FnScope ["d", "n", "y", "square", "x"] ["d", "n", "y"] (defScope s_x_for) := ⟨rfl, rfl, rfl, by decide +kernel, rfl, by decide +kernel, by decide +kernel⟩
abbrev s_ways_of : Stmt := topS 25
theorem sc_ways_of : FnScope ["d", "n", "most", "some", "y", "x"] ["d", "n", "most"] (defScope s_ways_of) := ⟨rfl, rfl, rfl, by decide +kernel, rfl, by decide +kernel, by decide +kernel⟩
abbrev s__law_is_right : Stmt := topS 37
theorem sc__law_is_right : FnScope ["hand", "d", "n", "one", "here", "turn", "others", "other", "bad", "x", "y", "flag"] ["hand", "d", "n", "one"] (defScope s__law_is_right) := ⟨rfl, rfl, rfl, by decide +kernel, rfl, by decide +kernel, by decide +kernel⟩
abbrev s_law : Stmt := topS 38
theorem sc_law : FnScope ["script", "hand", "turn", "d", "one", "n"] ["script"] (defScope s_law) := ⟨rfl, rfl, rfl, by decide +kernel, rfl, by decide +kernel, by decide +kernel⟩
section
variable {P : Program} {w : World} {K : PySem.W.Frag} {mg : Str → Option Value} {T : TbL} {base : Heap} {fa : Str → Addr}
theorem bd__law_hand (n_abs : mg "abs" = none) (n_int : mg "int" = none) (n_len : mg "len" = none) (f : Addr) (cdv : Value) (A : Around) (outer : List Env) (s : Shared) (H : Hp) (E : XK) (hr : Room 0 (A.deeper (envOfC "_law_hand" (defScope s__law_hand) s.heap.objs.size f cdv))) (hgd : A.guards = some []) :
    DSs (cxOf (L2.CX P w) P w K mg base ["script", "cells", "cell"] "_law_hand" (defScope s__law_hand) f cdv A outer s H E) (wE T E) (defBody s__law_hand) sd__law_hand :=
  (ss_cons (s_setLc gRun_name (ps_setLc (i := 1) rfl sc__law_hand.nd rfl rfl (by rfl) (di_seq (de_slice (lo := none) (hi := (some (eC (.int 63)))) (pe_slice sl_any (de_var (pv 0)) po_none (po_some de_int)))) (own := [("cell", 2)]) (blkOk_by (by first | rfl | decide +kernel)) (fun _ _ _ _ _ => (pg_name (i := 2) sc__law_hand.nd rfl (by first | exact .inl rfl | exact .inr rfl))) (fun _ _ _ _ _ => pts_true) (fun _ _ _ _ _ => (de_B c_abs (by rfl) n_abs rfl (da_cons (de_Ty c_int (by rfl) n_int rfl (da_cons (de_var (pv 2)) da_nil)) da_nil)))))
  (ss_one (s_ret (de_lst (da_cons (de_var (pv 1)) (da_cons de_int (da_cons de_int (da_cons (de_bin o_add de_int (de_bin o_mul de_int (de_B c_len (by rfl) n_len rfl (da_cons (de_var (pv 1)) da_nil)))) (da_cons de_int da_nil)))))))))
theorem ok__law_hand (n_abs : mg "abs" = none) (n_int : mg "int" = none) (n_len : mg "len" = none) (d : Df K mg "_law_hand" s__law_hand ["script"]) : Cf P w K mg T base 1 "_law_hand" 1 sem__law_hand := cf_mk (N := ["script", "cells", "cell"]) (sd := sd__law_hand) d sc__law_hand rfl (bd__law_hand n_abs n_int n_len)
theorem bd_whole_square_root  (f : Addr) (cdv : Value) (A : Around) (outer : List Env) (s : Shared) (H : Hp) (E : XK) (hr : Room 0 (A.deeper (envOfC "whole_square_root" (defScope s_whole_square_root) s.heap.objs.size f cdv))) (hgd : A.guards = some []) :
    DSs (cxOf (L2.CX P w) P w K mg base ["number", "low", "high", "middle"] "whole_square_root" (defScope s_whole_square_root) f cdv A outer s H E) (wE T E) (defBody s_whole_square_root) sd_whole_square_root :=
  have po := passes_of (X := cxOf (L2.CX P w) P w K mg base ["number", "low", "high", "middle"] "whole_square_root" (defScope s_whole_square_root) f cdv A outer s H E) rfl
  (ss_cons (s_par2 (ps_par (i := 1) (j := 2) rfl sc_whole_square_root.nd rfl rfl (by decide) rfl rfl (da_cons de_int (da_cons (de_bin o_add (de_var (pv 0)) de_int) da_nil)) (by rfl)))
  (ss_cons (s_while po (dt_cmp o_gtD (de_bin o_subD (de_var (pv 2)) (de_var (pv 1))) de_int (nomark _))
   (ss_cons (s_set (ps_set (i := 3) sc_whole_square_root.nd rfl (.inl rfl) (de_bin o_divD (de_bin o_add (de_var (pv 1)) (de_var (pv 2))) de_int)))
   (ss_one (s_asg (de_if (dt_cmp o_leD (de_bin o_mul (de_var (pv 3)) (de_var (pv 3))) (de_var (pv 0)) (nomark _)) (de_tup (da_cons (de_var (pv 3)) (da_cons (de_var (pv 2)) da_nil))) (de_tup (da_cons (de_var (pv 1)) (da_cons (de_var (pv 3)) da_nil)))) (dg_tup (is := [1, 2]) (pg_tup rfl (pgs_cons (pg_name (i := 1) sc_whole_square_root.nd rfl (.inl rfl)) (pgs_cons (pg_name (i := 2) sc_whole_square_root.nd rfl (.inl rfl)) pgs_nil))))))))
  (ss_one (s_ret (de_var (pv 1))))))
theorem ok_whole_square_root  (d : Df K mg "whole_square_root" s_whole_square_root ["number"]) : Cf P w K mg T base 1 "whole_square_root" 1 sem_whole_square_root := cf_mk (N := ["number", "low", "high", "middle"]) (sd := sd_whole_square_root) d sc_whole_square_root rfl (bd_whole_square_root )
theorem bd_is_integer (n_isinstance : mg "isinstance" = none) (n_int : mg "int" = none) (n_bool : mg "bool" = none) (f : Addr) (cdv : Value) (A : Around) (outer : List Env) (s : Shared) (H : Hp) (E : XK) (hr : Room 0 (A.deeper (envOfC "is_integer" (defScope s_is_integer) s.heap.objs.size f cdv))) (hgd : A.guards = some []) :
    DSs (cxOf (L2.CX P w) P w K mg base ["thing"] "is_integer" (defScope s_is_integer) f cdv A outer s H E) (wE T E) (defBody s_is_integer) sd_is_integer :=
  (ss_one (s_ret (de_and (de_B c_isi (by rfl) n_isinstance rfl (da_cons (de_var (pv 0)) (da_cons (de_gty (by rfl) n_int rfl) da_nil))) (de_one (de_not (de_B c_isi (by rfl) n_isinstance rfl (da_cons (de_var (pv 0)) (da_cons (de_gty (by rfl) n_bool rfl) da_nil))))))))
theorem ok_is_integer (n_isinstance : mg "isinstance" = none) (n_int : mg "int" = none) (n_bool : mg "bool" = none) (d : Df K mg "is_integer" s_is_integer ["thing"]) : Cf P w K mg T base 1 "is_integer" 1 sem_is_integer := cf_mk (N := ["thing"]) (sd := sd_is_integer) d sc_is_integer rfl (bd_is_integer n_isinstance n_int n_bool)
theorem bd_is_within (c_is_integer : Cf P w K mg T base 1 "is_integer" 1 sem_is_integer) (f : Addr) (cdv : Value) (A : Around) (outer : List Env) (s : Shared) (H : Hp) (E : XK) (hr : Room 1 (A.deeper (envOfC "is_within" (defScope s_is_within) s.heap.objs.size f cdv))) (hgd : A.guards = some []) :
    DSs (cxOf (L2.CX P w) P w K mg base ["thing", "low", "high"] "is_within" (defScope s_is_within) f cdv A outer s H E) (wE T E) (defBody s_is_within) sd_is_within :=
  have tk : Takes (cxOf (L2.CX P w) P w K mg base ["thing", "low", "high"] "is_within" (defScope s_is_within) f cdv A outer s H E) (wE T E) := takes_of rfl rfl rfl rfl
  (ss_one (s_ret (de_and (de_cf c_is_integer hr (by decide) hgd (by rfl) tk (da_cons (de_var (pv 0)) da_nil)) (de_one (de_chain o_leD o_leD (de_var (pv 1)) (de_var (pv 0)) (de_var (pv 2)))))))
theorem ok_is_within (c_is_integer : Cf P w K mg T base 1 "is_integer" 1 sem_is_integer) (d : Df K mg "is_within" s_is_within ["thing", "low", "high"]) : Cf P w K mg T base 2 "is_within" 3 sem_is_within := cf_mk (N := ["thing", "low", "high"]) (sd := sd_is_within) d sc_is_within rfl (bd_is_within c_is_integer)
theorem bd_is_surd (c_is_within : Cf P w K mg T base 2 "is_within" 3 sem_is_within) (g_LEAST_ROOT : ∃ t, mg "LEAST_ROOT" = some (.int 2 t)) (g_MOST_ROOT : ∃ t, mg "MOST_ROOT" = some (.int 10000 t)) (c_whole_square_root : Cf P w K mg T base 1 "whole_square_root" 1 sem_whole_square_root) (f : Addr) (cdv : Value) (A : Around) (outer : List Env) (s : Shared) (H : Hp) (E : XK) (hr : Room 2 (A.deeper (envOfC "is_surd" (defScope s_is_surd) s.heap.objs.size f cdv))) (hgd : A.guards = some []) :
    DSs (cxOf (L2.CX P w) P w K mg base ["thing", "first"] "is_surd" (defScope s_is_surd) f cdv A outer s H E) (wE T E) (defBody s_is_surd) sd_is_surd :=
  have tk : Takes (cxOf (L2.CX P w) P w K mg base ["thing", "first"] "is_surd" (defScope s_is_surd) f cdv A outer s H E) (wE T E) := takes_of rfl rfl rfl rfl
  (ss_cons (s_if (dt_not (dt_tru (de_cf c_is_within hr (by decide) hgd (by rfl) tk (da_cons (de_var (pv 0)) (da_cons (de_gint (by rfl) g_LEAST_ROOT) (da_cons (de_gint (by rfl) g_MOST_ROOT) da_nil))))))
   (ss_one (s_ret de_bl))
   ss_nil)
  (ss_cons (s_set (ps_set (i := 1) sc_is_surd.nd rfl (.inl rfl) (de_cf c_whole_square_root hr (by decide) hgd (by rfl) tk (da_cons (de_var (pv 0)) da_nil))))
  (ss_one (s_ret (de_cmp (o_neX (hu64 hr)) (de_bin o_mul (de_var (pv 1)) (de_var (pv 1))) (de_var (pv 0)) (nomark _))))))
theorem ok_is_surd (c_is_within : Cf P w K mg T base 2 "is_within" 3 sem_is_within) (g_LEAST_ROOT : ∃ t, mg "LEAST_ROOT" = some (.int 2 t)) (g_MOST_ROOT : ∃ t, mg "MOST_ROOT" = some (.int 10000 t)) (c_whole_square_root : Cf P w K mg T base 1 "whole_square_root" 1 sem_whole_square_root) (d : Df K mg "is_surd" s_is_surd ["thing"]) : Cf P w K mg T base 3 "is_surd" 1 sem_is_surd := cf_mk (N := ["thing", "first"]) (sd := sd_is_surd) d sc_is_surd rfl (bd_is_surd c_is_within g_LEAST_ROOT g_MOST_ROOT c_whole_square_root)
theorem bd_check_surd {C_NoSurd : Addr} (c_is_surd : Cf P w K mg T base 3 "is_surd" 1 sem_is_surd) (x_NoSurd : ExcC K mg "NoSurd" C_NoSurd) (f : Addr) (cdv : Value) (A : Around) (outer : List Env) (s : Shared) (H : Hp) (E : XK) (hr : Room 3 (A.deeper (envOfC "check_surd" (defScope s_check_surd) s.heap.objs.size f cdv))) (hgd : A.guards = some []) :
    DSs (cxOf (L2.CX P w) P w K mg base ["d"] "check_surd" (defScope s_check_surd) f cdv A outer s H E) (wE T E) (defBody s_check_surd) sd_check_surd :=
  have tk : Takes (cxOf (L2.CX P w) P w K mg base ["d"] "check_surd" (defScope s_check_surd) f cdv A outer s H E) (wE T E) := takes_of rfl rfl rfl rfl
  (ss_one (s_if (dt_not (dt_tru (de_cf c_is_surd hr (by decide) hgd (by rfl) tk (da_cons (de_var (pv 0)) da_nil))))
   (ss_one (s_raise (C := C_NoSurd) x_NoSurd rfl tk (by rfl)))
   ss_nil))
theorem ok_check_surd {C_NoSurd : Addr} (c_is_surd : Cf P w K mg T base 3 "is_surd" 1 sem_is_surd) (x_NoSurd : ExcC K mg "NoSurd" C_NoSurd) (d : Df K mg "check_surd" s_check_surd ["d"]) : Cf P w K mg T base 4 "check_surd" 1 sem_check_surd := cf_mk (N := ["d"]) (sd := sd_check_surd) d sc_check_surd rfl (bd_check_surd c_is_surd x_NoSurd)
theorem bd_check_size {C_NoInteger : Addr} (c_is_within : Cf P w K mg T base 2 "is_within" 3 sem_is_within) (g_MOST_SIZE : ∃ t, mg "MOST_SIZE" = some (.int 1000 t)) (x_NoInteger : ExcC K mg "NoInteger" C_NoInteger) (f : Addr) (cdv : Value) (A : Around) (outer : List Env) (s : Shared) (H : Hp) (E : XK) (hr : Room 2 (A.deeper (envOfC "check_size" (defScope s_check_size) s.heap.objs.size f cdv))) (hgd : A.guards = some []) :
    DSs (cxOf (L2.CX P w) P w K mg base ["n"] "check_size" (defScope s_check_size) f cdv A outer s H E) (wE T E) (defBody s_check_size) sd_check_size :=
  have tk : Takes (cxOf (L2.CX P w) P w K mg base ["n"] "check_size" (defScope s_check_size) f cdv A outer s H E) (wE T E) := takes_of rfl rfl rfl rfl
  (ss_one (s_if (L2.PW.pt (dw_or (dt_not (dt_tru (de_cf c_is_within hr (by decide) hgd (by rfl) tk (da_cons (de_var (pv 0)) (da_cons (de_un o_neg (de_gint (by rfl) g_MOST_SIZE)) (da_cons (de_gint (by rfl) g_MOST_SIZE) da_nil)))))) (dw_or1 (dt_cmp (o_eqX (hu64 hr)) (de_var (pv 0)) de_int (nomark _)))))
   (ss_one (s_raise (C := C_NoInteger) x_NoInteger rfl tk (by rfl)))
   ss_nil))
theorem ok_check_size {C_NoInteger : Addr} (c_is_within : Cf P w K mg T base 2 "is_within" 3 sem_is_within) (g_MOST_SIZE : ∃ t, mg "MOST_SIZE" = some (.int 1000 t)) (x_NoInteger : ExcC K mg "NoInteger" C_NoInteger) (d : Df K mg "check_size" s_check_size ["n"]) : Cf P w K mg T base 3 "check_size" 1 sem_check_size := cf_mk (N := ["n"]) (sd := sd_check_size) d sc_check_size rfl (bd_check_size c_is_within g_MOST_SIZE x_NoInteger)
theorem bd_are_alike  (f : Addr) (cdv : Value) (A : Around) (outer : List Env) (s : Shared) (H : Hp) (E : XK) (hr : Room 0 (A.deeper (envOfC "are_alike" (defScope s_are_alike) s.heap.objs.size f cdv))) (hgd : A.guards = some []) :
    DSs (cxOf (L2.CX P w) P w K mg base ["d", "n", "one", "other", "first"] "are_alike" (defScope s_are_alike) f cdv A outer s H E) (wE T E) (defBody s_are_alike) sd_are_alike :=
  (ss_cons (s_set (ps_set (i := 4) sc_are_alike.nd rfl (.inl rfl) (de_bin o_subD (de_bin o_mul (de_ix o_ix (de_var (pv 2)) de_int (fun _ _ => rfl)) (de_ix o_ix (de_var (pv 3)) de_int (fun _ _ => rfl))) (de_bin o_mul (de_bin o_mul (de_var (pv 0)) (de_ix o_ix (de_var (pv 2)) de_int (fun _ _ => rfl))) (de_ix o_ix (de_var (pv 3)) de_int (fun _ _ => rfl))))))
  (ss_one (s_ret (de_and (de_cmp (o_eqX (hu64 hr)) (de_bin o_modD (de_var (pv 4)) (de_var (pv 1))) de_int (nomark _)) (de_one (de_cmp (o_eqX (hu64 hr)) (de_bin o_modD (de_bin o_subD (de_bin o_mul (de_ix o_ix (de_var (pv 2)) de_int (fun _ _ => rfl)) (de_ix o_ix (de_var (pv 3)) de_int (fun _ _ => rfl))) (de_bin o_mul (de_ix o_ix (de_var (pv 2)) de_int (fun _ _ => rfl)) (de_ix o_ix (de_var (pv 3)) de_int (fun _ _ => rfl)))) (de_var (pv 1))) de_int (nomark _)))))))
theorem ok_are_alike  (d : Df K mg "are_alike" s_are_alike ["d", "n", "one", "other"]) : Cf P w K mg T base 1 "are_alike" 4 sem_are_alike := cf_mk (N := ["d", "n", "one", "other", "first"]) (sd := sd_are_alike) d sc_are_alike rfl (bd_are_alike )
theorem bd_is_way_of (n_isinstance : mg "isinstance" = none) (n_tuple : mg "tuple" = none) (n_len : mg "len" = none) (n_all : mg "all" = none) (c_is_integer : Cf P w K mg T base 1 "is_integer" 1 sem_is_integer) (n_abs : mg "abs" = none) (g_MOST_LONG : ∃ t, mg "MOST_LONG" = some (.int 1000000000000000000000000000000000000000000000000000000000000 t)) (f : Addr) (cdv : Value) (A : Around) (outer : List Env) (s : Shared) (H : Hp) (E : XK) (hr : Room 1 (A.deeper (envOfC "is_way_of" (defScope s_is_way_of) s.heap.objs.size f cdv))) (hgd : A.guards = some []) :
    DSs (cxOf (L2.CX P w) P w K mg base ["d", "n", "thing", "one"] "is_way_of" (defScope s_is_way_of) f cdv A outer s H E) (wE T E) (defBody s_is_way_of) sd_is_way_of :=
  (ss_cons (s_if (L2.PW.pt (dw_or (dt_not (dt_tru (de_B c_isi (by rfl) n_isinstance rfl (da_cons (de_var (pv 2)) (da_cons (de_gty (by rfl) n_tuple rfl) da_nil))))) (dw_or1 (dt_cmp (o_neX (hu64 hr)) (de_B c_len (by rfl) n_len rfl (da_cons (de_var (pv 2)) da_nil)) de_int (nomark _)))))
   (ss_one (s_ret de_bl))
   ss_nil)
  (ss_cons (s_if (dt_not (dt_tru (de_B (c_all rfl) (by rfl) n_all rfl (da_cons (de_lc gRun_name (pe_lc rfl sc_is_way_of.nd (di_seq (de_var (pv 2))) (own := [("one", 3)]) (blkOk_by (by first | rfl | decide +kernel)) (fun _ _ _ _ _ => (pg_name (i := 3) sc_is_way_of.nd rfl (by first | exact .inl rfl | exact .inr rfl))) (fun _ _ _ _ _ => pts_true) (fun _ _ _ _ _ => (de_and (de_cf c_is_integer hr (by decide) hgd (by rfl) takes0 (da_cons (de_var (pv 3)) da_nil)) (de_one (de_cmp o_ltD (de_B c_abs (by rfl) n_abs rfl (da_cons (de_var (pv 3)) da_nil)) (de_gint (by rfl) g_MOST_LONG) (nomark _))))))) da_nil))))
   (ss_one (s_ret de_bl))
   ss_nil)
  (ss_one (s_ret (de_cmp (o_eqX (hu64 hr)) (de_bin o_subD (de_bin o_mul (de_ix o_ix (de_var (pv 2)) de_int (fun _ _ => rfl)) (de_ix o_ix (de_var (pv 2)) de_int (fun _ _ => rfl))) (de_bin o_mul (de_bin o_mul (de_var (pv 0)) (de_ix o_ix (de_var (pv 2)) de_int (fun _ _ => rfl))) (de_ix o_ix (de_var (pv 2)) de_int (fun _ _ => rfl)))) (de_var (pv 1)) (nomark _))))))
theorem ok_is_way_of (n_isinstance : mg "isinstance" = none) (n_tuple : mg "tuple" = none) (n_len : mg "len" = none) (n_all : mg "all" = none) (c_is_integer : Cf P w K mg T base 1 "is_integer" 1 sem_is_integer) (n_abs : mg "abs" = none) (g_MOST_LONG : ∃ t, mg "MOST_LONG" = some (.int 1000000000000000000000000000000000000000000000000000000000000 t)) (d : Df K mg "is_way_of" s_is_way_of ["d", "n", "thing"]) : Cf P w K mg T base 2 "is_way_of" 3 sem_is_way_of := cf_mk (N := ["d", "n", "thing", "one"]) (sd := sd_is_way_of) d sc_is_way_of rfl (bd_is_way_of n_isinstance n_tuple n_len n_all c_is_integer n_abs g_MOST_LONG)
theorem bd_is_same_class {C_NoWay : Addr} (c_check_surd : Cf P w K mg T base 4 "check_surd" 1 sem_check_surd) (c_check_size : Cf P w K mg T base 3 "check_size" 1 sem_check_size) (c_is_way_of : Cf P w K mg T base 2 "is_way_of" 3 sem_is_way_of) (x_NoWay : ExcC K mg "NoWay" C_NoWay) (c_are_alike : Cf P w K mg T base 1 "are_alike" 4 sem_are_alike) (f : Addr) (cdv : Value) (A : Around) (outer : List Env) (s : Shared) (H : Hp) (E : XK) (hr : Room 4 (A.deeper (envOfC "is_same_class" (defScope s_is_same_class) s.heap.objs.size f cdv))) (hgd : A.guards = some []) :
    DSs (cxOf (L2.CX P w) P w K mg base ["d", "n", "one", "other", "way"] "is_same_class" (defScope s_is_same_class) f cdv A outer s H E) (wE T E) (defBody s_is_same_class) sd_is_same_class :=
  have po := passes_of (X := cxOf (L2.CX P w) P w K mg base ["d", "n", "one", "other", "way"] "is_same_class" (defScope s_is_same_class) f cdv A outer s H E) rfl
  have tk : Takes (cxOf (L2.CX P w) P w K mg base ["d", "n", "one", "other", "way"] "is_same_class" (defScope s_is_same_class) f cdv A outer s H E) (wE T E) := takes_of rfl rfl rfl rfl
  (ss_cons (s_expr (de_cf c_check_surd hr (by decide) hgd (by rfl) tk (da_cons (de_var (pv 0)) da_nil)))
  (ss_cons (s_expr (de_cf c_check_size hr (by decide) hgd (by rfl) tk (da_cons (de_var (pv 1)) da_nil)))
  (ss_cons (s_for po rfl (di_seq (de_tup (da_cons (de_var (pv 2)) (da_cons (de_var (pv 3)) da_nil)))) (dg_name (pg_name (i := 4) sc_is_same_class.nd rfl (.inl rfl)))
   (ss_one (s_if (dt_not (dt_tru (de_cf c_is_way_of hr (by decide) hgd (by rfl) tk (da_cons (de_var (pv 0)) (da_cons (de_var (pv 1)) (da_cons (de_var (pv 4)) da_nil))))))
    (ss_one (s_raise (C := C_NoWay) x_NoWay rfl tk (by rfl)))
    ss_nil)))
  (ss_one (s_ret (de_cf c_are_alike hr (by decide) hgd (by rfl) tk (da_cons (de_var (pv 0)) (da_cons (de_var (pv 1)) (da_cons (de_var (pv 2)) (da_cons (de_var (pv 3)) da_nil))))))))))
theorem ok_is_same_class {C_NoWay : Addr} (c_check_surd : Cf P w K mg T base 4 "check_surd" 1 sem_check_surd) (c_check_size : Cf P w K mg T base 3 "check_size" 1 sem_check_size) (c_is_way_of : Cf P w K mg T base 2 "is_way_of" 3 sem_is_way_of) (x_NoWay : ExcC K mg "NoWay" C_NoWay) (c_are_alike : Cf P w K mg T base 1 "are_alike" 4 sem_are_alike) (d : Df K mg "is_same_class" s_is_same_class ["d", "n", "one", "other"]) : Cf P w K mg T base 5 "is_same_class" 4 sem_is_same_class := cf_mk (N := ["d", "n", "one", "other", "way"]) (sd := sd_is_same_class) d sc_is_same_class rfl (bd_is_same_class c_check_surd c_check_size c_is_way_of x_NoWay c_are_alike)
theorem bd__law_draw (n_len : mg "len" = none) (n_int : mg "int" = none) (f : Addr) (cdv : Value) (A : Around) (outer : List Env) (s : Shared) (H : Hp) (E : XK) (hr : Room 0 (A.deeper (envOfC "_law_draw" (defScope s__law_draw) s.heap.objs.size f cdv))) (hgd : A.guards = some []) :
    DSs (cxOf (L2.CX P w) P w K mg base ["hand", "below", "number", "cell", "digit"] "_law_draw" (defScope s__law_draw) f cdv A outer s H E) (wE T E) (defBody s__law_draw) sd__law_draw :=
  (ss_cons (s_if (L2.PW.pt (dw_and (dt_cmp (o_eqX (hu64 hr)) (de_ix o_ix (de_var (pv 0)) de_int (fun _ _ => rfl)) de_int (nomark _)) (dw_and1 (dt_cmp o_ltD (de_ix o_ix (de_var (pv 0)) de_int (fun _ _ => rfl)) (de_B c_len (by rfl) n_len rfl (da_cons (de_ix o_ix (de_var (pv 0)) de_int (fun _ _ => rfl)) da_nil)) (nomark _)))))
   (ss_cons (s_set (ps_set (i := 3) sc__law_draw.nd rfl (.inl rfl) (de_ix o_ix (de_ix o_ix (de_var (pv 0)) de_int (fun _ _ => rfl)) (de_ix o_ix (de_var (pv 0)) de_int (fun _ _ => rfl)) (fun _ _ => rfl))))
   (ss_cons (s_asg (de_bin o_add (de_ix o_ix (de_var (pv 0)) de_int (fun _ _ => rfl)) de_int) (dg_ix (W := wE T E) (de_var (pv 0)) de_int))
   (ss_cons (s_asg (de_bin o_modD (de_Ty c_int (by rfl) n_int rfl (da_cons (de_bin o_add (de_bin o_add (de_bin o_mul (de_ix o_ix (de_var (pv 0)) de_int (fun _ _ => rfl)) de_int) (de_bin o_mul (de_var (pv 3)) de_int)) de_int) da_nil)) de_int) (dg_ix (W := wE T E) (de_var (pv 0)) de_int))
   (ss_one (s_if (dt_cmp o_geD (de_var (pv 3)) (de_bin o_powD de_int de_int) (nomark _))
    (ss_one (s_asg (de_var (pv 3)) (dg_ix (W := wE T E) (de_var (pv 0)) de_int)))
    ss_nil)))))
   ss_nil)
  (ss_cons (s_if (dt_cmp o_gtD (de_ix o_ix (de_var (pv 0)) de_int (fun _ _ => rfl)) de_int (nomark _))
   (ss_cons (s_set (ps_set (i := 4) sc__law_draw.nd rfl (.inl rfl) (de_bin o_modD (de_Ty c_int (by rfl) n_int rfl (da_cons (de_ix o_ix (de_var (pv 0)) de_int (fun _ _ => rfl)) da_nil)) (de_var (pv 1)))))
   (ss_cons (s_asg (de_bin o_divD (de_ix o_ix (de_var (pv 0)) de_int (fun _ _ => rfl)) (de_var (pv 1))) (dg_ix (W := wE T E) (de_var (pv 0)) de_int))
   (ss_one (s_ret (de_var (pv 4))))))
   ss_nil)
  (ss_cons (s_asg (de_bin o_add (de_ix o_ix (de_var (pv 0)) de_int (fun _ _ => rfl)) de_int) (dg_ix (W := wE T E) (de_var (pv 0)) de_int))
  (ss_cons (s_set (ps_set (i := 2) sc__law_draw.nd rfl (.inl rfl) (de_bin o_modD (de_Ty c_int (by rfl) n_int rfl (da_cons (de_bin o_mul (de_Ty c_int (by rfl) n_int rfl (da_cons (de_bin o_add (de_ix o_ix (de_var (pv 0)) de_int (fun _ _ => rfl)) (de_bin o_mul de_int (de_ix o_ix (de_var (pv 0)) de_int (fun _ _ => rfl)))) da_nil)) de_int) da_nil)) de_int)))
  (ss_cons (s_set (ps_set (i := 2) sc__law_draw.nd rfl (.inl rfl) (de_bin o_modD (de_Ty c_int (by rfl) n_int rfl (da_cons (de_bin o_mul (de_var (pv 2)) (de_bin o_add (de_bin o_divD (de_var (pv 2)) de_int) de_int)) da_nil)) de_int)))
  (ss_cons (s_set (ps_set (i := 2) sc__law_draw.nd rfl (.inl rfl) (de_bin o_modD (de_Ty c_int (by rfl) n_int rfl (da_cons (de_bin o_mul (de_var (pv 2)) (de_bin o_add (de_bin o_divD (de_var (pv 2)) de_int) de_int)) da_nil)) de_int)))
  (ss_one (s_ret (de_bin o_modD (de_Ty c_int (by rfl) n_int rfl (da_cons (de_bin o_divD (de_var (pv 2)) de_int) da_nil)) (de_var (pv 1)))))))))))
theorem ok__law_draw (n_len : mg "len" = none) (n_int : mg "int" = none) (d : Df K mg "_law_draw" s__law_draw ["hand", "below"]) : Ci P w K mg T base 1 "_law_draw" 2 sem__law_draw := ci_mk (N := ["hand", "below", "number", "cell", "digit"]) (sd := sd__law_draw) d sc__law_draw rfl (bd__law_draw n_len n_int)
theorem bd__law_any (c__law_draw : Ci P w K mg T base 1 "_law_draw" 2 sem__law_draw) (n_len : mg "len" = none) (f : Addr) (cdv : Value) (A : Around) (outer : List Env) (s : Shared) (H : Hp) (E : XK) (hr : Room 1 (A.deeper (envOfC "_law_any" (defScope s__law_any) s.heap.objs.size f cdv))) (hgd : A.guards = some []) :
    DSs (cxOf (L2.CX P w) P w K mg base ["hand", "some"] "_law_any" (defScope s__law_any) f cdv A outer s H E) (wE T E) (defBody s__law_any) sd__law_any :=
  have tk : Takes (cxOf (L2.CX P w) P w K mg base ["hand", "some"] "_law_any" (defScope s__law_any) f cdv A outer s H E) (wE T E) := takes_of rfl rfl rfl rfl
  (ss_one (s_ret (de_ix o_ix (de_var (pv 1)) (de_ci c__law_draw hr (by decide) hgd (by rfl) tk (da_cons (de_var (pv 0)) (da_cons (de_B c_len (by rfl) n_len rfl (da_cons (de_var (pv 1)) da_nil)) da_nil))) (fun _ _ => rfl))))
theorem ok__law_any (c__law_draw : Ci P w K mg T base 1 "_law_draw" 2 sem__law_draw) (n_len : mg "len" = none) (d : Df K mg "_law_any" s__law_any ["hand", "some"]) : Ci P w K mg T base 2 "_law_any" 2 sem__law_any := ci_mk (N := ["hand", "some"]) (sd := sd__law_any) d sc__law_any rfl (bd__law_any c__law_draw n_len)
theorem bd__law_surd (c__law_any : Ci P w K mg T base 2 "_law_any" 2 sem__law_any) (f : Addr) (cdv : Value) (A : Around) (outer : List Env) (s : Shared) (H : Hp) (E : XK) (hr : Room 2 (A.deeper (envOfC "_law_surd" (defScope s__law_surd) s.heap.objs.size f cdv))) (hgd : A.guards = some []) :
    DSs (cxOf (L2.CX P w) P w K mg base ["hand", "some"] "_law_surd" (defScope s__law_surd) f cdv A outer s H E) (wE T E) (defBody s__law_surd) sd__law_surd :=
  have tk : Takes (cxOf (L2.CX P w) P w K mg base ["hand", "some"] "_law_surd" (defScope s__law_surd) f cdv A outer s H E) (wE T E) := takes_of rfl rfl rfl rfl
  (ss_cons (s_set (ps_set (i := 1) sc__law_surd.nd rfl (.inl rfl) (de_lst (da_cons de_int (da_cons de_int (da_cons de_int (da_cons de_int (da_cons de_int (da_cons de_int (da_cons de_int (da_cons de_int (da_cons de_int (da_cons de_int (da_cons de_int (da_cons de_int (da_cons de_int (da_cons de_int (da_cons de_int (da_cons de_int (da_cons de_int (da_cons de_int (da_cons de_int (da_cons de_int (da_cons de_int (da_cons de_int (da_cons de_int (da_cons de_int (da_cons de_int (da_cons de_int da_nil)))))))))))))))))))))))))))))
  (ss_one (s_ret (de_ci c__law_any hr (by decide) hgd (by rfl) tk (da_cons (de_var (pv 0)) (da_cons (de_var (pv 1)) da_nil))))))
theorem ok__law_surd (c__law_any : Ci P w K mg T base 2 "_law_any" 2 sem__law_any) (d : Df K mg "_law_surd" s__law_surd ["hand"]) : Ci P w K mg T base 3 "_law_surd" 1 sem__law_surd := ci_mk (N := ["hand", "some"]) (sd := sd__law_surd) d sc__law_surd rfl (bd__law_surd c__law_any)
theorem bd_first_way (c_whole_square_root : Cf P w K mg T base 1 "whole_square_root" 1 sem_whole_square_root) (f : Addr) (cdv : Value) (A : Around) (outer : List Env) (s : Shared) (H : Hp) (E : XK) (hr : Room 1 (A.deeper (envOfC "first_way" (defScope s_first_way) s.heap.objs.size f cdv))) (hgd : A.guards = some []) :
    DSs (cxOf (L2.CX P w) P w K mg base ["d", "whole", "sign", "m", "bottom", "part", "x", "ahead_x", "y", "ahead_y"] "first_way" (defScope s_first_way) f cdv A outer s H E) (wE T E) (defBody s_first_way) sd_first_way :=
  have po := passes_of (X := cxOf (L2.CX P w) P w K mg base ["d", "whole", "sign", "m", "bottom", "part", "x", "ahead_x", "y", "ahead_y"] "first_way" (defScope s_first_way) f cdv A outer s H E) rfl
  have tk : Takes (cxOf (L2.CX P w) P w K mg base ["d", "whole", "sign", "m", "bottom", "part", "x", "ahead_x", "y", "ahead_y"] "first_way" (defScope s_first_way) f cdv A outer s H E) (wE T E) := takes_of rfl rfl rfl rfl
  (ss_cons (s_set (ps_set (i := 1) sc_first_way.nd rfl (.inl rfl) (de_cf c_whole_square_root hr (by decide) hgd (by rfl) tk (da_cons (de_var (pv 0)) da_nil))))
  (ss_cons (s_par3 (ps_par3 (i := 3) (j := 4) (l := 5) rfl sc_first_way.nd rfl rfl rfl (by decide) (by decide) (by decide) rfl rfl rfl (da_cons de_int (da_cons de_int (da_cons (de_var (pv 1)) da_nil))) (by rfl)))
  (ss_cons (s_parN (is := [6, 7, 8, 9]) (ps_asg (pe_tup (da_cons (de_var (pv 1)) (da_cons de_int (da_cons de_int (da_cons de_int da_nil))))) (pg_tup rfl (pgs_cons (pg_name (i := 6) sc_first_way.nd rfl (.inl rfl)) (pgs_cons (pg_name (i := 7) sc_first_way.nd rfl (.inl rfl)) (pgs_cons (pg_name (i := 8) sc_first_way.nd rfl (.inl rfl)) (pgs_cons (pg_name (i := 9) sc_first_way.nd rfl (.inl rfl)) pgs_nil)))))))
  (ss_cons (s_set (ps_set (i := 2) sc_first_way.nd rfl (.inl rfl) de_nint))
  (ss_one (s_while po (dt_tru de_bl)
   (ss_cons (s_set (ps_set (i := 3) sc_first_way.nd rfl (.inl rfl) (de_bin o_subD (de_bin o_mul (de_var (pv 4)) (de_var (pv 5))) (de_var (pv 3)))))
   (ss_cons (s_set (ps_set (i := 4) sc_first_way.nd rfl (.inl rfl) (de_bin o_divD (de_bin o_subD (de_var (pv 0)) (de_bin o_mul (de_var (pv 3)) (de_var (pv 3)))) (de_var (pv 4)))))
   (ss_cons (s_if (dt_cmp (o_eqX (hu64 hr)) (de_var (pv 4)) de_int (nomark _))
    (ss_one (s_ret (de_tup (da_cons (de_var (pv 6)) (da_cons (de_var (pv 8)) (da_cons (de_var (pv 2)) da_nil))))))
    ss_nil)
   (ss_cons (s_set (ps_set (i := 5) sc_first_way.nd rfl (.inl rfl) (de_bin o_divD (de_bin o_add (de_var (pv 1)) (de_var (pv 3))) (de_var (pv 4)))))
   (ss_cons (s_par2 (ps_par (i := 6) (j := 7) rfl sc_first_way.nd rfl rfl (by decide) rfl rfl (da_cons (de_bin o_add (de_bin o_mul (de_var (pv 5)) (de_var (pv 6))) (de_var (pv 7))) (da_cons (de_var (pv 6)) da_nil)) (by rfl)))
   (ss_cons (s_par2 (ps_par (i := 8) (j := 9) rfl sc_first_way.nd rfl rfl (by decide) rfl rfl (da_cons (de_bin o_add (de_bin o_mul (de_var (pv 5)) (de_var (pv 8))) (de_var (pv 9))) (da_cons (de_var (pv 8)) da_nil)) (by rfl)))
   (ss_one (s_set (ps_set (i := 2) sc_first_way.nd rfl (.inl rfl) (de_un o_neg (de_var (pv 2))))))))))))))))))
theorem ok_first_way (c_whole_square_root : Cf P w K mg T base 1 "whole_square_root" 1 sem_whole_square_root) (d : Df K mg "first_way" s_first_way ["d"]) : Cf P w K mg T base 2 "first_way" 1 sem_first_way := cf_mk (N := ["d", "whole", "sign", "m", "bottom", "part", "x", "ahead_x", "y", "ahead_y"]) (sd := sd_first_way) d sc_first_way rfl (bd_first_way c_whole_square_root)
theorem bd_ways_times  (f : Addr) (cdv : Value) (A : Around) (outer : List Env) (s : Shared) (H : Hp) (E : XK) (hr : Room 0 (A.deeper (envOfC "ways_times" (defScope s_ways_times) s.heap.objs.size f cdv))) (hgd : A.guards = some []) :
    DSs (cxOf (L2.CX P w) P w K mg base ["d", "one", "other"] "ways_times" (defScope s_ways_times) f cdv A outer s H E) (wE T E) (defBody s_ways_times) sd_ways_times :=
  (ss_one (s_ret (de_tup (da_cons (de_bin o_add (de_bin o_mul (de_ix o_ix (de_var (pv 1)) de_int (fun _ _ => rfl)) (de_ix o_ix (de_var (pv 2)) de_int (fun _ _ => rfl))) (de_bin o_mul (de_bin o_mul (de_var (pv 0)) (de_ix o_ix (de_var (pv 1)) de_int (fun _ _ => rfl))) (de_ix o_ix (de_var (pv 2)) de_int (fun _ _ => rfl)))) (da_cons (de_bin o_add (de_bin o_mul (de_ix o_ix (de_var (pv 1)) de_int (fun _ _ => rfl)) (de_ix o_ix (de_var (pv 2)) de_int (fun _ _ => rfl))) (de_bin o_mul (de_ix o_ix (de_var (pv 1)) de_int (fun _ _ => rfl)) (de_ix o_ix (de_var (pv 2)) de_int (fun _ _ => rfl)))) da_nil)))))
theorem ok_ways_times  (d : Df K mg "ways_times" s_ways_times ["d", "one", "other"]) : Cf P w K mg T base 1 "ways_times" 3 sem_ways_times := cf_mk (N := ["d", "one", "other"]) (sd := sd_ways_times) d sc_ways_times rfl (bd_ways_times )
theorem bd_raw_unit (c_first_way : Cf P w K mg T base 2 "first_way" 1 sem_first_way) (c_ways_times : Cf P w K mg T base 1 "ways_times" 3 sem_ways_times) (f : Addr) (cdv : Value) (A : Around) (outer : List Env) (s : Shared) (H : Hp) (E : XK) (hr : Room 2 (A.deeper (envOfC "raw_unit" (defScope s_raw_unit) s.heap.objs.size f cdv))) (hgd : A.guards = some []) :
    DSs (cxOf (L2.CX P w) P w K mg base ["d", "x", "y", "sign"] "raw_unit" (defScope s_raw_unit) f cdv A outer s H E) (wE T E) (defBody s_raw_unit) sd_raw_unit :=
  have tk : Takes (cxOf (L2.CX P w) P w K mg base ["d", "x", "y", "sign"] "raw_unit" (defScope s_raw_unit) f cdv A outer s H E) (wE T E) := takes_of rfl rfl rfl rfl
  (ss_cons (s_asg (de_cf c_first_way hr (by decide) hgd (by rfl) tk (da_cons (de_var (pv 0)) da_nil)) (dg_tup (is := [1, 2, 3]) (pg_tup rfl (pgs_cons (pg_name (i := 1) sc_raw_unit.nd rfl (.inl rfl)) (pgs_cons (pg_name (i := 2) sc_raw_unit.nd rfl (.inl rfl)) (pgs_cons (pg_name (i := 3) sc_raw_unit.nd rfl (.inl rfl)) pgs_nil))))))
  (ss_one (s_ret (de_if (dt_cmp (o_eqX (hu64 hr)) (de_var (pv 3)) de_int (nomark _)) (de_tup (da_cons (de_var (pv 1)) (da_cons (de_var (pv 2)) da_nil))) (de_cf c_ways_times hr (by decide) hgd (by rfl) tk (da_cons (de_var (pv 0)) (da_cons (de_tup (da_cons (de_var (pv 1)) (da_cons (de_var (pv 2)) da_nil))) (da_cons (de_tup (da_cons (de_var (pv 1)) (da_cons (de_var (pv 2)) da_nil))) da_nil))))))))
theorem ok_raw_unit (c_first_way : Cf P w K mg T base 2 "first_way" 1 sem_first_way) (c_ways_times : Cf P w K mg T base 1 "ways_times" 3 sem_ways_times) (d : Df K mg "raw_unit" s_raw_unit ["d"]) : Cf P w K mg T base 3 "raw_unit" 1 sem_raw_unit := cf_mk (N := ["d", "x", "y", "sign"]) (sd := sd_raw_unit) d sc_raw_unit rfl (bd_raw_unit c_first_way c_ways_times)
theorem bd_unit (c_check_surd : Cf P w K mg T base 4 "check_surd" 1 sem_check_surd) (c_raw_unit : Cf P w K mg T base 3 "raw_unit" 1 sem_raw_unit) (f : Addr) (cdv : Value) (A : Around) (outer : List Env) (s : Shared) (H : Hp) (E : XK) (hr : Room 4 (A.deeper (envOfC "unit" (defScope s_unit) s.heap.objs.size f cdv))) (hgd : A.guards = some []) :
    DSs (cxOf (L2.CX P w) P w K mg base ["d"] "unit" (defScope s_unit) f cdv A outer s H E) (wE T E) (defBody s_unit) sd_unit :=
  have tk : Takes (cxOf (L2.CX P w) P w K mg base ["d"] "unit" (defScope s_unit) f cdv A outer s H E) (wE T E) := takes_of rfl rfl rfl rfl
  (ss_cons (s_expr (de_cf c_check_surd hr (by decide) hgd (by rfl) tk (da_cons (de_var (pv 0)) da_nil)))
  (ss_one (s_ret (de_cf c_raw_unit hr (by decide) hgd (by rfl) tk (da_cons (de_var (pv 0)) da_nil)))))
theorem ok_unit (c_check_surd : Cf P w K mg T base 4 "check_surd" 1 sem_check_surd) (c_raw_unit : Cf P w K mg T base 3 "raw_unit" 1 sem_raw_unit) (d : Df K mg "unit" s_unit ["d"]) : Cf P w K mg T base 5 "unit" 1 sem_unit := cf_mk (N := ["d"]) (sd := sd_unit) d sc_unit rfl (bd_unit c_check_surd c_raw_unit)
theorem rs__law_is_refused {C_NoWay C_RankError C_NoSurd C_NoInteger C_NoNumber : Addr} (n_isinstance : mg "isinstance" = none) (n_ValueError : mg "ValueError" = none) (t_NoWay : ExcT K mg "NoWay" C_NoWay) (t_RankError : ExcT K mg "RankError" C_RankError) (x_NoSurd : ExcC K mg "NoSurd" C_NoSurd) (k_NoSurd : ExcK K C_NoSurd) (u_NoSurd_NoWay : PySem.W.subIn K (.ref C_NoSurd) (.ref C_NoWay) = some false) (u_NoSurd_RankError : PySem.W.subIn K (.ref C_NoSurd) (.ref C_RankError) = some true) (x_NoInteger : ExcC K mg "NoInteger" C_NoInteger) (k_NoInteger : ExcK K C_NoInteger) (u_NoInteger_NoWay : PySem.W.subIn K (.ref C_NoInteger) (.ref C_NoWay) = some false) (u_NoInteger_RankError : PySem.W.subIn K (.ref C_NoInteger) (.ref C_RankError) = some true) (x_NoWay : ExcC K mg "NoWay" C_NoWay) (k_NoWay : ExcK K C_NoWay) (u_NoWay_NoWay : PySem.W.subIn K (.ref C_NoWay) (.ref C_NoWay) = some true) (u_NoWay_RankError : PySem.W.subIn K (.ref C_NoWay) (.ref C_RankError) = some true) (x_NoNumber : ExcC K mg "NoNumber" C_NoNumber) (k_NoNumber : ExcK K C_NoNumber) (u_NoNumber_NoWay : PySem.W.subIn K (.ref C_NoNumber) (.ref C_NoWay) = some false) (u_NoNumber_RankError : PySem.W.subIn K (.ref C_NoNumber) (.ref C_RankError) = some true) (o_ : ObjC K) : ∀ (y : Str) (cls : Value), kn__law_is_refused y = true → mg y = some cls → Rsd K mg subc ["NoWay"] y cls ∧ PySem.W.exmOne K cls (.ref C_RankError) = some true := by
  intro y cls hy hm
  have hy := of_decide_eq_true hy
  simp only [List.mem_cons, List.not_mem_nil, or_false] at hy
  rcases hy with rfl | rfl | rfl | rfl
  · cases x_NoSurd.g.symm.trans hm
    refine ⟨rsd_mk x_NoSurd k_NoSurd o_ (fun y hy => ?_), exm_t t_RankError u_NoSurd_RankError⟩
    simp only [List.mem_cons, List.not_mem_nil, or_false] at hy
    rcases hy with rfl
    · exact kit_t k_NoSurd t_NoWay u_NoSurd_NoWay
  · cases x_NoInteger.g.symm.trans hm
    refine ⟨rsd_mk x_NoInteger k_NoInteger o_ (fun y hy => ?_), exm_t t_RankError u_NoInteger_RankError⟩
    simp only [List.mem_cons, List.not_mem_nil, or_false] at hy
    rcases hy with rfl
    · exact kit_t k_NoInteger t_NoWay u_NoInteger_NoWay
  · cases x_NoWay.g.symm.trans hm
    refine ⟨rsd_mk x_NoWay k_NoWay o_ (fun y hy => ?_), exm_t t_RankError u_NoWay_RankError⟩
    simp only [List.mem_cons, List.not_mem_nil, or_false] at hy
    rcases hy with rfl
    · exact kit_t k_NoWay t_NoWay u_NoWay_NoWay
  · cases x_NoNumber.g.symm.trans hm
    refine ⟨rsd_mk x_NoNumber k_NoNumber o_ (fun y hy => ?_), exm_t t_RankError u_NoNumber_RankError⟩
    simp only [List.mem_cons, List.not_mem_nil, or_false] at hy
    rcases hy with rfl
    · exact kit_t k_NoNumber t_NoWay u_NoNumber_NoWay
theorem gw__law_is_refused {C_NoWay C_RankError C_NoSurd C_NoInteger C_NoNumber : Addr} (n_isinstance : mg "isinstance" = none) (n_ValueError : mg "ValueError" = none) (t_NoWay : ExcT K mg "NoWay" C_NoWay) (t_RankError : ExcT K mg "RankError" C_RankError) (x_NoSurd : ExcC K mg "NoSurd" C_NoSurd) (k_NoSurd : ExcK K C_NoSurd) (u_NoSurd_NoWay : PySem.W.subIn K (.ref C_NoSurd) (.ref C_NoWay) = some false) (u_NoSurd_RankError : PySem.W.subIn K (.ref C_NoSurd) (.ref C_RankError) = some true) (x_NoInteger : ExcC K mg "NoInteger" C_NoInteger) (k_NoInteger : ExcK K C_NoInteger) (u_NoInteger_NoWay : PySem.W.subIn K (.ref C_NoInteger) (.ref C_NoWay) = some false) (u_NoInteger_RankError : PySem.W.subIn K (.ref C_NoInteger) (.ref C_RankError) = some true) (x_NoWay : ExcC K mg "NoWay" C_NoWay) (k_NoWay : ExcK K C_NoWay) (u_NoWay_NoWay : PySem.W.subIn K (.ref C_NoWay) (.ref C_NoWay) = some true) (u_NoWay_RankError : PySem.W.subIn K (.ref C_NoWay) (.ref C_RankError) = some true) (x_NoNumber : ExcC K mg "NoNumber" C_NoNumber) (k_NoNumber : ExcK K C_NoNumber) (u_NoNumber_NoWay : PySem.W.subIn K (.ref C_NoNumber) (.ref C_NoWay) = some false) (u_NoNumber_RankError : PySem.W.subIn K (.ref C_NoNumber) (.ref C_RankError) = some true) (o_ : ObjC K) (n : Nat) (g : Addr) (cdv : Value) : GivesW P w K mg T base n ["call", "error"] "_law_is_refused" (defScope s__law_is_refused) g cdv (defBody s__law_is_refused) "call" hs__law_is_refused :=
  gives_A (m := 2) (i := 1) (sub := subc) (ys := ["NoWay"]) sc__law_is_refused rfl (by decide) rfl rfl rfl (by decide) t_RankError.g (rs__law_is_refused n_isinstance n_ValueError t_NoWay t_RankError x_NoSurd k_NoSurd u_NoSurd_NoWay u_NoSurd_RankError x_NoInteger k_NoInteger u_NoInteger_NoWay u_NoInteger_RankError x_NoWay k_NoWay u_NoWay_NoWay u_NoWay_RankError x_NoNumber k_NoNumber u_NoNumber_NoWay u_NoNumber_RankError o_) (fun A stack s H hr hgd b oe nm cls pn hz hf R =>
  (ss_one (s_ret (de_and (de_isE R hz hf (by decide) rfl (.inl rfl) (by rfl) n_isinstance (by rfl)) (de_one (de_isV R hz hf rfl (.inl rfl) (by rfl) n_isinstance (by rfl) n_ValueError)))))) (fun A stack s H hr hgd b => (ss_one (s_ret de_bl)))
theorem ok__law_is_refused {C_NoWay C_RankError C_NoSurd C_NoInteger C_NoNumber : Addr} (n_isinstance : mg "isinstance" = none) (n_ValueError : mg "ValueError" = none) (t_NoWay : ExcT K mg "NoWay" C_NoWay) (t_RankError : ExcT K mg "RankError" C_RankError) (x_NoSurd : ExcC K mg "NoSurd" C_NoSurd) (k_NoSurd : ExcK K C_NoSurd) (u_NoSurd_NoWay : PySem.W.subIn K (.ref C_NoSurd) (.ref C_NoWay) = some false) (u_NoSurd_RankError : PySem.W.subIn K (.ref C_NoSurd) (.ref C_RankError) = some true) (x_NoInteger : ExcC K mg "NoInteger" C_NoInteger) (k_NoInteger : ExcK K C_NoInteger) (u_NoInteger_NoWay : PySem.W.subIn K (.ref C_NoInteger) (.ref C_NoWay) = some false) (u_NoInteger_RankError : PySem.W.subIn K (.ref C_NoInteger) (.ref C_RankError) = some true) (x_NoWay : ExcC K mg "NoWay" C_NoWay) (k_NoWay : ExcK K C_NoWay) (u_NoWay_NoWay : PySem.W.subIn K (.ref C_NoWay) (.ref C_NoWay) = some true) (u_NoWay_RankError : PySem.W.subIn K (.ref C_NoWay) (.ref C_RankError) = some true) (x_NoNumber : ExcC K mg "NoNumber" C_NoNumber) (k_NoNumber : ExcK K C_NoNumber) (u_NoNumber_NoWay : PySem.W.subIn K (.ref C_NoNumber) (.ref C_NoWay) = some false) (u_NoNumber_RankError : PySem.W.subIn K (.ref C_NoNumber) (.ref C_RankError) = some true) (o_ : ObjC K) (d : Df K mg "_law_is_refused" s__law_is_refused ["call"]) : ∀ n, Wd P w K mg T base n "_law_is_refused" hs__law_is_refused := fun n => wd_mk d sc__law_is_refused rfl (.inl rfl) (by decide) (by decide) (gw__law_is_refused n_isinstance n_ValueError t_NoWay t_RankError x_NoSurd k_NoSurd u_NoSurd_NoWay u_NoSurd_RankError x_NoInteger k_NoInteger u_NoInteger_NoWay u_NoInteger_RankError x_NoWay k_NoWay u_NoWay_NoWay u_NoWay_RankError x_NoNumber k_NoNumber u_NoNumber_NoWay u_NoNumber_RankError o_ n)
theorem bd__law_is_same (n_int : mg "int" = none) (n_abs : mg "abs" = none) (f : Addr) (cdv : Value) (A : Around) (outer : List Env) (s : Shared) (H : Hp) (E : XK) (hr : Room 0 (A.deeper (envOfC "_law_is_same" (defScope s__law_is_same) s.heap.objs.size f cdv))) (hgd : A.guards = some []) :
    DSs (cxOf (L2.CX P w) P w K mg base ["d", "n", "one", "other"] "_law_is_same" (defScope s__law_is_same) f cdv A outer s H E) (wE T E) (defBody s__law_is_same) sd__law_is_same :=
  (ss_cons (s_if (dt_cmp (o_neX (hu64 hr)) (de_bin o_modD (de_Ty c_int (by rfl) n_int rfl (da_cons (de_bin o_subD (de_bin o_mul (de_ix o_ix (de_var (pv 2)) de_int (fun _ _ => rfl)) (de_ix o_ix (de_var (pv 3)) de_int (fun _ _ => rfl))) (de_bin o_mul (de_bin o_mul (de_var (pv 0)) (de_ix o_ix (de_var (pv 2)) de_int (fun _ _ => rfl))) (de_ix o_ix (de_var (pv 3)) de_int (fun _ _ => rfl)))) da_nil)) (de_B c_abs (by rfl) n_abs rfl (da_cons (de_var (pv 1)) da_nil))) de_int (nomark _))
   (ss_one (s_ret de_bl))
   ss_nil)
  (ss_one (s_ret (de_cmp (o_eqX (hu64 hr)) (de_bin o_modD (de_Ty c_int (by rfl) n_int rfl (da_cons (de_bin o_subD (de_bin o_mul (de_ix o_ix (de_var (pv 2)) de_int (fun _ _ => rfl)) (de_ix o_ix (de_var (pv 3)) de_int (fun _ _ => rfl))) (de_bin o_mul (de_ix o_ix (de_var (pv 2)) de_int (fun _ _ => rfl)) (de_ix o_ix (de_var (pv 3)) de_int (fun _ _ => rfl)))) da_nil)) (de_B c_abs (by rfl) n_abs rfl (da_cons (de_var (pv 1)) da_nil))) de_int (nomark _)))))
theorem ok__law_is_same (n_int : mg "int" = none) (n_abs : mg "abs" = none) (d : Df K mg "_law_is_same" s__law_is_same ["d", "n", "one", "other"]) : Cf P w K mg T base 1 "_law_is_same" 4 sem__law_is_same := cf_mk (N := ["d", "n", "one", "other"]) (sd := sd__law_is_same) d sc__law_is_same rfl (bd__law_is_same n_int n_abs)
theorem bd__law_deep (n_range : mg "range" = none) (c__law_draw : Ci P w K mg T base 1 "_law_draw" 2 sem__law_draw) (f : Addr) (cdv : Value) (A : Around) (outer : List Env) (s : Shared) (H : Hp) (E : XK) (hr : Room 1 (A.deeper (envOfC "_law_deep" (defScope s__law_deep) s.heap.objs.size f cdv))) (hgd : A.guards = some []) :
    DSs (cxOf (L2.CX P w) P w K mg base ["hand", "thing", "lap_on"] "_law_deep" (defScope s__law_deep) f cdv A outer s H E) (wE T E) (defBody s__law_deep) sd__law_deep :=
  have po := passes_of (X := cxOf (L2.CX P w) P w K mg base ["hand", "thing", "lap_on"] "_law_deep" (defScope s__law_deep) f cdv A outer s H E) rfl
  have tk : Takes (cxOf (L2.CX P w) P w K mg base ["hand", "thing", "lap_on"] "_law_deep" (defScope s__law_deep) f cdv A outer s H E) (wE T E) := takes_of rfl rfl rfl rfl
  (ss_cons (s_set (ps_set (i := 1) sc__law_deep.nd rfl (.inl rfl) de_non))
  (ss_cons (s_for po rfl (di_R1 (pi_range1 (by rfl) n_range (da_cons (de_bin o_add de_int (de_ci c__law_draw hr (by decide) hgd (by rfl) tk (da_cons (de_var (pv 0)) (da_cons de_int da_nil)))) da_nil))) (dg_name (pg_name (i := 2) sc__law_deep.nd rfl (.inl rfl)))
   (ss_one (s_set (ps_set (i := 1) sc__law_deep.nd rfl (.inl rfl) (de_if (dt_cmp (o_eqX (hu64 hr)) (de_ci c__law_draw hr (by decide) hgd (by rfl) tk (da_cons (de_var (pv 0)) (da_cons de_int da_nil))) de_int (nomark _)) (de_tup (da_cons (de_var (pv 1)) da_nil)) (de_lst (da_cons (de_var (pv 1)) da_nil)))))))
  (ss_one (s_ret (de_var (pv 1))))))
theorem ok__law_deep (n_range : mg "range" = none) (c__law_draw : Ci P w K mg T base 1 "_law_draw" 2 sem__law_draw) (d : Df K mg "_law_deep" s__law_deep ["hand"]) : Ci P w K mg T base 2 "_law_deep" 1 sem__law_deep := ci_mk (N := ["hand", "thing", "lap_on"]) (sd := sd__law_deep) d sc__law_deep rfl (bd__law_deep n_range c__law_draw)
theorem bd_check_number {C_NoNumber : Addr} (c_is_within : Cf P w K mg T base 2 "is_within" 3 sem_is_within) (x_NoNumber : ExcC K mg "NoNumber" C_NoNumber) (f : Addr) (cdv : Value) (A : Around) (outer : List Env) (s : Shared) (H : Hp) (E : XK) (hr : Room 2 (A.deeper (envOfC "check_number" (defScope s_check_number) s.heap.objs.size f cdv))) (hgd : A.guards = some []) :
    DSs (cxOf (L2.CX P w) P w K mg base ["thing", "low", "high"] "check_number" (defScope s_check_number) f cdv A outer s H E) (wE T E) (defBody s_check_number) sd_check_number :=
  have tk : Takes (cxOf (L2.CX P w) P w K mg base ["thing", "low", "high"] "check_number" (defScope s_check_number) f cdv A outer s H E) (wE T E) := takes_of rfl rfl rfl rfl
  (ss_one (s_if (dt_not (dt_tru (de_cf c_is_within hr (by decide) hgd (by rfl) tk (da_cons (de_var (pv 0)) (da_cons (de_var (pv 1)) (da_cons (de_var (pv 2)) da_nil))))))
   (ss_one (s_raise (C := C_NoNumber) x_NoNumber rfl tk (by rfl)))
   ss_nil))
theorem ok_check_number {C_NoNumber : Addr} (c_is_within : Cf P w K mg T base 2 "is_within" 3 sem_is_within) (x_NoNumber : ExcC K mg "NoNumber" C_NoNumber) (d : Df K mg "check_number" s_check_number ["thing", "low", "high"]) : Cf P w K mg T base 3 "check_number" 3 sem_check_number := cf_mk (N := ["thing", "low", "high"]) (sd := sd_check_number) d sc_check_number rfl (bd_check_number c_is_within x_NoNumber)
theorem bd_x_for (c_whole_square_root : Cf P w K mg T base 1 "whole_square_root" 1 sem_whole_square_root) (f : Addr) (cdv : Value) (A : Around) (outer : List Env) (s : Shared) (H : Hp) (E : XK) (hr : Room 1 (A.deeper (envOfC "x_for" (defScope s_x_for) s.heap.objs.size f cdv))) (hgd : A.guards = some []) :
    DSs (cxOf (L2.CX P w) P w K mg base ["d", "n", "y", "square", "x"] "x_for" (defScope s_x_for) f cdv A outer s H E) (wE T E) (defBody s_x_for) sd_x_for :=
  have tk : Takes (cxOf (L2.CX P w) P w K mg base ["d", "n", "y", "square", "x"] "x_for" (defScope s_x_for) f cdv A outer s H E) (wE T E) := takes_of rfl rfl rfl rfl
  (ss_cons (s_set (ps_set (i := 3) sc_x_for.nd rfl (.inl rfl) (de_bin o_add (de_var (pv 1)) (de_bin o_mul (de_bin o_mul (de_var (pv 0)) (de_var (pv 2))) (de_var (pv 2))))))
  (ss_cons (s_if (dt_cmp o_ltD (de_var (pv 3)) de_int (nomark _))
   (ss_one (s_ret de_non))
   ss_nil)
  (ss_cons (s_set (ps_set (i := 4) sc_x_for.nd rfl (.inl rfl) (de_cf c_whole_square_root hr (by decide) hgd (by rfl) tk (da_cons (de_var (pv 3)) da_nil))))
  (ss_one (s_ret (de_if (dt_cmp (o_eqX (hu64 hr)) (de_bin o_mul (de_var (pv 4)) (de_var (pv 4))) (de_var (pv 3)) (nomark _)) (de_var (pv 4)) de_non))))))
theorem ok_x_for (c_whole_square_root : Cf P w K mg T base 1 "whole_square_root" 1 sem_whole_square_root) (d : Df K mg "x_for" s_x_for ["d", "n", "y"]) : Cf P w K mg T base 2 "x_for" 3 sem_x_for := cf_mk (N := ["d", "n", "y", "square", "x"]) (sd := sd_x_for) d sc_x_for rfl (bd_x_for c_whole_square_root)
theorem bd_ways_of (c_check_surd : Cf P w K mg T base 4 "check_surd" 1 sem_check_surd) (c_check_size : Cf P w K mg T base 3 "check_size" 1 sem_check_size) (c_check_number : Cf P w K mg T base 3 "check_number" 3 sem_check_number) (g_MOST_Y : ∃ t, mg "MOST_Y" = some (.int 10000 t)) (n_range : mg "range" = none) (c_x_for : Cf P w K mg T base 2 "x_for" 3 sem_x_for) (n_tuple : mg "tuple" = none) (n_sorted : mg "sorted" = none) (f : Addr) (cdv : Value) (A : Around) (outer : List Env) (s : Shared) (H : Hp) (E : XK) (hr : Room 4 (A.deeper (envOfC "ways_of" (defScope s_ways_of) s.heap.objs.size f cdv))) (hgd : A.guards = some []) :
    DSs (cxOf (L2.CX P w) P w K mg base ["d", "n", "most", "some", "y", "x"] "ways_of" (defScope s_ways_of) f cdv A outer s H E) (wE T E) (defBody s_ways_of) sd_ways_of :=
  have tk : Takes (cxOf (L2.CX P w) P w K mg base ["d", "n", "most", "some", "y", "x"] "ways_of" (defScope s_ways_of) f cdv A outer s H E) (wE T E) := takes_of rfl rfl rfl rfl
  (ss_cons (s_expr (de_cf c_check_surd hr (by decide) hgd (by rfl) tk (da_cons (de_var (pv 0)) da_nil)))
  (ss_cons (s_expr (de_cf c_check_size hr (by decide) hgd (by rfl) tk (da_cons (de_var (pv 1)) da_nil)))
  (ss_cons (s_expr (de_cf c_check_number hr (by decide) hgd (by rfl) tk (da_cons (de_var (pv 2)) (da_cons de_int (da_cons (de_gint (by rfl) g_MOST_Y) da_nil)))))
  (ss_cons (s_setLc gRun_name (ps_setLc (i := 3) rfl sc_ways_of.nd rfl rfl (by rfl) (di_R1 (pi_range1 (by rfl) n_range (da_cons (de_bin o_add (de_var (pv 2)) de_int) da_nil))) (own := [("y", 4)]) (blkOk_by (by first | rfl | decide +kernel)) (fun _ _ _ _ _ => (pg_name (i := 4) sc_ways_of.nd rfl (by first | exact .inl rfl | exact .inr rfl))) (fun _ _ _ _ _ => pts_true) (fun _ _ _ _ _ => (de_tup (da_cons (de_cf c_x_for hr (by decide) hgd (by rfl) takes0 (da_cons (de_var (pv 0)) (da_cons (de_var (pv 1)) (da_cons (de_var (pv 4)) da_nil)))) (da_cons (de_var (pv 4)) da_nil))))))
  (ss_one (s_ret (de_Ty c_tuple (by rfl) n_tuple rfl (da_cons (de_B (c_sorted rfl) (by rfl) n_sorted rfl (da_cons (de_lc gRun_tup (pe_lc rfl sc_ways_of.nd (di_seq (de_var (pv 3))) (own := [("x", 5), ("y", 4)]) (blkOk_by (by first | rfl | decide +kernel)) (fun _ _ _ _ _ => (pg_tup rfl (pgs_cons (pg_name (i := 5) sc_ways_of.nd rfl (by first | exact .inl rfl | exact .inr rfl)) (pgs_cons (pg_name (i := 4) sc_ways_of.nd rfl (by first | exact .inl rfl | exact .inr rfl)) pgs_nil)))) (fun _ _ _ _ _ => (pts_of (dt_cmp o_isnot (de_var (pv 5)) de_non (nomark _)))) (fun _ _ _ _ _ => (de_tup (da_cons (de_var (pv 5)) (da_cons (de_var (pv 4)) da_nil)))))) da_nil)) da_nil))))))))
theorem ok_ways_of (c_check_surd : Cf P w K mg T base 4 "check_surd" 1 sem_check_surd) (c_check_size : Cf P w K mg T base 3 "check_size" 1 sem_check_size) (c_check_number : Cf P w K mg T base 3 "check_number" 3 sem_check_number) (g_MOST_Y : ∃ t, mg "MOST_Y" = some (.int 10000 t)) (n_range : mg "range" = none) (c_x_for : Cf P w K mg T base 2 "x_for" 3 sem_x_for) (n_tuple : mg "tuple" = none) (n_sorted : mg "sorted" = none) (d : Df K mg "ways_of" s_ways_of ["d", "n", "most"]) : Cf P w K mg T base 5 "ways_of" 3 sem_ways_of := cf_mk (N := ["d", "n", "most", "some", "y", "x"]) (sd := sd_ways_of) d sc_ways_of rfl (bd_ways_of c_check_surd c_check_size c_check_number g_MOST_Y n_range c_x_for n_tuple n_sorted)
theorem bd__law_is_right (c_unit : Cf P w K mg T base 5 "unit" 1 sem_unit) (n_range : mg "range" = none) (c__law_draw : Ci P w K mg T base 1 "_law_draw" 2 sem__law_draw) (n_list : mg "list" = none) (c_ways_of : Cf P w K mg T base 5 "ways_of" 3 sem_ways_of) (c__law_is_same : Cf P w K mg T base 1 "_law_is_same" 4 sem__law_is_same) (n_repr : mg "repr" = none) (c_is_same_class : Cf P w K mg T base 5 "is_same_class" 4 sem_is_same_class) (c__law_deep : Ci P w K mg T base 2 "_law_deep" 1 sem__law_deep) (c__law_any : Ci P w K mg T base 2 "_law_any" 2 sem__law_any) (w__law_is_refused : ∀ n, Wd P w K mg T base n "_law_is_refused" hs__law_is_refused) {cM__law_is_right pM__law_is_right : Addr} (m__law_is_right : Mkr K mg T base "_law_is_right" cM__law_is_right pM__law_is_right) (f : Addr) (A : Around) (outer : List Env) (s : Shared) (H : Hp) (E : XK) (hr : Room 7 (A.deeper (envOfC "_law_is_right" (defScope s__law_is_right) s.heap.objs.size f (.ref cM__law_is_right)))) (hgd : A.guards = some []) :
    DSs (cxOf (L2.CX P w) P w K mg base ["hand", "d", "n", "one", "here", "turn", "others", "other", "bad", "x", "y", "flag"] "_law_is_right" (defScope s__law_is_right) f (.ref cM__law_is_right) A outer s H E) (wE T E) (defBody s__law_is_right) sd__law_is_right :=
  have po := passes_of (X := cxOf (L2.CX P w) P w K mg base ["hand", "d", "n", "one", "here", "turn", "others", "other", "bad", "x", "y", "flag"] "_law_is_right" (defScope s__law_is_right) f (.ref cM__law_is_right) A outer s H E) rfl
  have tk : Takes (cxOf (L2.CX P w) P w K mg base ["hand", "d", "n", "one", "here", "turn", "others", "other", "bad", "x", "y", "flag"] "_law_is_right" (defScope s__law_is_right) f (.ref cM__law_is_right) A outer s H E) (wE T E) := takes_of rfl rfl rfl rfl
  (ss_cons (s_asg (de_cf c_unit hr (by decide) hgd (by rfl) tk (da_cons (de_var (pv 1)) da_nil)) (dg_tup (is := [9, 10]) (pg_tup rfl (pgs_cons (pg_name (i := 9) sc__law_is_right.nd rfl (.inl rfl)) (pgs_cons (pg_name (i := 10) sc__law_is_right.nd rfl (.inl rfl)) pgs_nil)))))
  (ss_cons (s_set (ps_set (i := 4) sc__law_is_right.nd rfl (.inl rfl) (de_var (pv 3))))
  (ss_cons (s_for po rfl (di_R1 (pi_range1 (by rfl) n_range (da_cons (de_ci c__law_draw hr (by decide) hgd (by rfl) tk (da_cons (de_var (pv 0)) (da_cons de_int da_nil))) da_nil))) (dg_name (pg_name (i := 5) sc__law_is_right.nd rfl (.inl rfl)))
   (ss_one (s_set (ps_set (i := 4) sc__law_is_right.nd rfl (.inl rfl) (de_tup (da_cons (de_bin o_add (de_bin o_mul (de_ix o_ix (de_var (pv 4)) de_int (fun _ _ => rfl)) (de_var (pv 9))) (de_bin o_mul (de_bin o_mul (de_var (pv 1)) (de_ix o_ix (de_var (pv 4)) de_int (fun _ _ => rfl))) (de_var (pv 10)))) (da_cons (de_bin o_add (de_bin o_mul (de_ix o_ix (de_var (pv 4)) de_int (fun _ _ => rfl)) (de_var (pv 10))) (de_bin o_mul (de_ix o_ix (de_var (pv 4)) de_int (fun _ _ => rfl)) (de_var (pv 9)))) da_nil)))))))
  (ss_cons (s_set (ps_set (i := 6) sc__law_is_right.nd rfl (.inl rfl) (de_bin o_add (de_lst (da_cons (de_var (pv 4)) (da_cons (de_tup (da_cons (de_bin o_subD de_int (de_ix o_ix (de_var (pv 4)) de_int (fun _ _ => rfl))) (da_cons (de_bin o_subD de_int (de_ix o_ix (de_var (pv 4)) de_int (fun _ _ => rfl))) da_nil))) (da_cons (de_tup (da_cons (de_bin o_subD de_int (de_ix o_ix (de_var (pv 3)) de_int (fun _ _ => rfl))) (da_cons (de_ix o_ix (de_var (pv 3)) de_int (fun _ _ => rfl)) da_nil))) da_nil)))) (de_slice (lo := none) (hi := (some (eC (.int 6)))) (pe_slice sl_any (de_Ty c_list (by rfl) n_list rfl (da_cons (de_cf c_ways_of hr (by decide) hgd (by rfl) tk (da_cons (de_var (pv 1)) (da_cons (de_var (pv 2)) (da_cons de_int da_nil)))) da_nil)) po_none (po_some de_int))))))
  (ss_cons (s_for po rfl (di_seq (de_var (pv 6))) (dg_name (pg_name (i := 7) sc__law_is_right.nd rfl (.inl rfl)))
   (ss_cons (s_set (ps_set (i := 11) sc__law_is_right.nd rfl (.inl rfl) (de_cf c__law_is_same hr (by decide) hgd (by rfl) tk (da_cons (de_var (pv 1)) (da_cons (de_var (pv 2)) (da_cons (de_var (pv 3)) (da_cons (de_var (pv 7)) da_nil)))))))
   (ss_one (s_if (dt_cmp (o_neX (hu64 hr)) (de_B (c_repr hgd (hu100 hr)) (by rfl) n_repr rfl (da_cons (de_lst (da_cons (de_cf c_is_same_class hr (by decide) hgd (by rfl) tk (da_cons (de_var (pv 1)) (da_cons (de_var (pv 2)) (da_cons (de_var (pv 3)) (da_cons (de_var (pv 7)) da_nil))))) (da_cons (de_cf c_is_same_class hr (by decide) hgd (by rfl) tk (da_cons (de_var (pv 1)) (da_cons (de_var (pv 2)) (da_cons (de_var (pv 7)) (da_cons (de_var (pv 3)) da_nil))))) da_nil))) da_nil)) (de_B (c_repr hgd (hu100 hr)) (by rfl) n_repr rfl (da_cons (de_lst (da_cons (de_var (pv 11)) (da_cons (de_var (pv 11)) da_nil))) da_nil)) (nomark _))
    (ss_one (s_ret de_bl))
    ss_nil))))
  (ss_cons (s_if (L2.PW.pt (dw_or (dt_not (dt_tru (de_cf c_is_same_class hr (by decide) hgd (by rfl) tk (da_cons (de_var (pv 1)) (da_cons (de_var (pv 2)) (da_cons (de_var (pv 3)) (da_cons (de_ix o_ix (de_var (pv 6)) de_int (fun _ _ => rfl)) da_nil))))))) (dw_or1 (dt_not (dt_tru (de_cf c_is_same_class hr (by decide) hgd (by rfl) tk (da_cons (de_var (pv 1)) (da_cons (de_var (pv 2)) (da_cons (de_var (pv 3)) (da_cons (de_ix o_ix (de_var (pv 6)) de_int (fun _ _ => rfl)) da_nil))))))))))
   (ss_one (s_ret de_bl))
   ss_nil)
  (ss_cons (s_set (ps_set (i := 8) sc__law_is_right.nd rfl (.inr rfl) (de_lst (da_cons de_non (da_cons (de_tup (da_cons (de_bin o_add (de_ix o_ix (de_var (pv 3)) de_int (fun _ _ => rfl)) de_int) (da_cons (de_ix o_ix (de_var (pv 3)) de_int (fun _ _ => rfl)) da_nil))) (da_cons (de_slice (lo := none) (hi := (some (eC (.int 1)))) (pe_slice sl_any (de_var (pv 3)) po_none (po_some de_int))) (da_cons (de_Ty c_list (by rfl) n_list rfl (da_cons (de_var (pv 3)) da_nil)) (da_cons (de_tup (da_cons de_non (da_cons de_int da_nil))) (da_cons (de_tup (da_cons de_bl (da_cons de_int da_nil))) (da_cons de_int (da_cons de_str (da_cons (de_ci c__law_deep hr (by decide) hgd (by rfl) tk (da_cons (de_var (pv 0)) da_nil)) da_nil))))))))))))
  (ss_cons (s_set (ps_set (i := 8) sc__law_is_right.nd rfl (.inr rfl) (de_ci c__law_any hr (by decide) hgd (by rfl) tk (da_cons (de_var (pv 0)) (da_cons (de_var (pv 8)) da_nil)))))
  (ss_cons (s_if (L2.PW.pt (dw_and (dt_cmp (o_eqX (hu64 hr)) (de_var (pv 8)) (de_tup (da_cons (de_bin o_add (de_ix o_ix (de_var (pv 3)) de_int (fun _ _ => rfl)) de_int) (da_cons (de_ix o_ix (de_var (pv 3)) de_int (fun _ _ => rfl)) da_nil))) (nomark _)) (dw_and1 (dt_cmp (o_eqX (hu64 hr)) (de_bin o_subD (de_bin o_powD (de_bin o_add (de_ix o_ix (de_var (pv 3)) de_int (fun _ _ => rfl)) de_int) de_int) (de_bin o_mul (de_var (pv 1)) (de_bin o_powD (de_ix o_ix (de_var (pv 3)) de_int (fun _ _ => rfl)) de_int))) (de_var (pv 2)) (nomark _)))))
   (ss_one (s_set (ps_set (i := 8) sc__law_is_right.nd rfl (.inr rfl) de_non)))
   ss_nil)
  (ss_cons (s_if (dt_not (dt_tru (de_word (n := 5) (y := "_law_is_right") (w__law_is_refused _) m__law_is_right rfl rfl (by rfl) hr (by decide) hgd (Lm.lmS_by (by show Lm.lmSB ["hand", "d", "n", "one", "here", "turn", "others", "other", "bad", "x", "y", "flag"] (defScope s__law_is_right) _ = true; decide +kernel)) rfl ⟨fun _ _ _ _ _ _ => rfl⟩ (fun A outer s H E f k hr hgd => (de_cf c_is_same_class hr (by decide) hgd (by rfl) (takes_of rfl rfl rfl rfl) (da_cons (de_var (pv 1)) (da_cons (de_var (pv 2)) (da_cons (de_var (pv 8)) (da_cons (de_var (pv 3)) da_nil)))))))))
   (ss_one (s_ret de_bl))
   ss_nil)
  (ss_one (s_ret (de_word (n := 5) (y := "_law_is_right") (w__law_is_refused _) m__law_is_right rfl rfl (by rfl) hr (by decide) hgd (Lm.lmS_by (by show Lm.lmSB ["hand", "d", "n", "one", "here", "turn", "others", "other", "bad", "x", "y", "flag"] (defScope s__law_is_right) _ = true; decide +kernel)) rfl ⟨fun _ _ _ _ _ _ => rfl⟩ (fun A outer s H E f k hr hgd => (de_cf c_is_same_class hr (by decide) hgd (by rfl) (takes_of rfl rfl rfl rfl) (da_cons (de_var (pv 1)) (da_cons (de_var (pv 2)) (da_cons (de_var (pv 3)) (da_cons (de_var (pv 8)) da_nil)))))))))))))))))))
theorem ok__law_is_right (c_unit : Cf P w K mg T base 5 "unit" 1 sem_unit) (n_range : mg "range" = none) (c__law_draw : Ci P w K mg T base 1 "_law_draw" 2 sem__law_draw) (n_list : mg "list" = none) (c_ways_of : Cf P w K mg T base 5 "ways_of" 3 sem_ways_of) (c__law_is_same : Cf P w K mg T base 1 "_law_is_same" 4 sem__law_is_same) (n_repr : mg "repr" = none) (c_is_same_class : Cf P w K mg T base 5 "is_same_class" 4 sem_is_same_class) (c__law_deep : Ci P w K mg T base 2 "_law_deep" 1 sem__law_deep) (c__law_any : Ci P w K mg T base 2 "_law_any" 2 sem__law_any) (w__law_is_refused : ∀ n, Wd P w K mg T base n "_law_is_refused" hs__law_is_refused) {cM__law_is_right pM__law_is_right : Addr} (m__law_is_right : Mkr K mg T base "_law_is_right" cM__law_is_right pM__law_is_right) (d : DfC K mg "_law_is_right" s__law_is_right ["hand", "d", "n", "one"] cM__law_is_right) : Ci P w K mg T base 8 "_law_is_right" 4 sem__law_is_right := ci_mkC (N := ["hand", "d", "n", "one", "here", "turn", "others", "other", "bad", "x", "y", "flag"]) (sd := sd__law_is_right) d sc__law_is_right rfl (bd__law_is_right c_unit n_range c__law_draw n_list c_ways_of c__law_is_same n_repr c_is_same_class c__law_deep c__law_any w__law_is_refused m__law_is_right)
theorem bd_law (c__law_hand : Cf P w K mg T base 1 "_law_hand" 1 sem__law_hand) (c_is_same_class : Cf P w K mg T base 5 "is_same_class" 4 sem_is_same_class) (n_range : mg "range" = none) (c__law_surd : Ci P w K mg T base 3 "_law_surd" 1 sem__law_surd) (c__law_draw : Ci P w K mg T base 1 "_law_draw" 2 sem__law_draw) (n_abs : mg "abs" = none) (c__law_is_right : Ci P w K mg T base 8 "_law_is_right" 4 sem__law_is_right) (f : Addr) (cdv : Value) (A : Around) (outer : List Env) (s : Shared) (H : Hp) (E : XK) (hr : Room 8 (A.deeper (envOfC "law" (defScope s_law) s.heap.objs.size f cdv))) (hgd : A.guards = some []) :
    DSs (cxOf (L2.CX P w) P w K mg base ["script", "hand", "turn", "d", "one", "n"] "law" (defScope s_law) f cdv A outer s H E) (wE T E) (defBody s_law) sd_law :=
  have po := passes_of (X := cxOf (L2.CX P w) P w K mg base ["script", "hand", "turn", "d", "one", "n"] "law" (defScope s_law) f cdv A outer s H E) rfl
  have tk : Takes (cxOf (L2.CX P w) P w K mg base ["script", "hand", "turn", "d", "one", "n"] "law" (defScope s_law) f cdv A outer s H E) (wE T E) := takes_of rfl rfl rfl rfl
  (ss_cons (s_set (ps_set (i := 1) sc_law.nd rfl (.inl rfl) (de_cf c__law_hand hr (by decide) hgd (by rfl) tk (da_cons (de_var (pv 0)) da_nil))))
  (ss_cons (s_if (L2.PW.pt (dw_or (dt_cmp o_isnot (de_cf c_is_same_class hr (by decide) hgd (by rfl) tk (da_cons de_int (da_cons de_int (da_cons (de_tup (da_cons de_int (da_cons de_int da_nil))) (da_cons (de_tup (da_cons de_int (da_cons de_nint da_nil))) da_nil))))) de_bl (nomark _)) (dw_or1 (dt_cmp o_isnot (de_cf c_is_same_class hr (by decide) hgd (by rfl) tk (da_cons de_int (da_cons de_int (da_cons (de_tup (da_cons de_int (da_cons de_int da_nil))) (da_cons (de_tup (da_cons de_nint (da_cons de_nint da_nil))) da_nil))))) de_bl (nomark _)))))
   (ss_one (s_ret de_bl))
   ss_nil)
  (ss_cons (s_if (dt_cmp o_isnot (de_cf c_is_same_class hr (by decide) hgd (by rfl) tk (da_cons de_int (da_cons de_int (da_cons (de_tup (da_cons de_int (da_cons de_nint da_nil))) (da_cons (de_tup (da_cons de_int (da_cons de_int da_nil))) da_nil))))) de_bl (nomark _))
   (ss_one (s_ret de_bl))
   ss_nil)
  (ss_cons (s_for po rfl (di_R1 (pi_range1 (by rfl) n_range (da_cons de_int da_nil))) (dg_name (pg_name (i := 2) sc_law.nd rfl (.inl rfl)))
   (ss_cons (s_set (ps_set (i := 3) sc_law.nd rfl (.inl rfl) (de_ci c__law_surd hr (by decide) hgd (by rfl) tk (da_cons (de_var (pv 1)) da_nil))))
   (ss_cons (s_set (ps_set (i := 4) sc_law.nd rfl (.inl rfl) (de_tup (da_cons (de_bin o_add de_int (de_ci c__law_draw hr (by decide) hgd (by rfl) tk (da_cons (de_var (pv 1)) (da_cons de_int da_nil)))) (da_cons (de_bin o_subD (de_ci c__law_draw hr (by decide) hgd (by rfl) tk (da_cons (de_var (pv 1)) (da_cons de_int da_nil))) de_int) da_nil)))))
   (ss_cons (s_set (ps_set (i := 5) sc_law.nd rfl (.inl rfl) (de_bin o_subD (de_bin o_mul (de_ix o_ix (de_var (pv 4)) de_int (fun _ _ => rfl)) (de_ix o_ix (de_var (pv 4)) de_int (fun _ _ => rfl))) (de_bin o_mul (de_bin o_mul (de_var (pv 3)) (de_ix o_ix (de_var (pv 4)) de_int (fun _ _ => rfl))) (de_ix o_ix (de_var (pv 4)) de_int (fun _ _ => rfl))))))
   (ss_one (s_if (L2.PW.pt (dw_and (dt_cmp o_leD (de_B c_abs (by rfl) n_abs rfl (da_cons (de_var (pv 5)) da_nil)) de_int (nomark _)) (dw_and1 (dt_not (dt_tru (de_ci c__law_is_right hr (by decide) hgd (by rfl) tk (da_cons (de_var (pv 1)) (da_cons (de_var (pv 3)) (da_cons (de_var (pv 5)) (da_cons (de_var (pv 4)) da_nil))))))))))
    (ss_one (s_ret de_bl))
    ss_nil))))))
  (ss_one (s_ret de_bl))))))
end
theorem all_mk {l : PySem.W.OpenLaw} {w : World} {K : PySem.W.Frag} {h : Heap} {mg : Str → Option Value} {fa : Addr} (prq : Program) (TQ : TopQ prq mg h) (X : K.In h) (G : h.Ns mainGlobals mg) (hfa : mg "law" = some (.ref fa))
    {f0 : Addr} {od0 an0 : Option Addr} {sl0 : Array (Option Value)} {oc0 kV0 dc0 pm0 cd0 ct0 : Value}
    {f1 : Addr} {od1 an1 : Option Addr} {sl1 : Array (Option Value)} {oc1 kV1 dc1 pm1 cd1 ct1 : Value}
    {f2 : Addr} {od2 an2 : Option Addr} {sl2 : Array (Option Value)} {oc2 kV2 dc2 pm2 cd2 ct2 : Value}
    {f3 : Addr} {od3 an3 : Option Addr} {sl3 : Array (Option Value)} {oc3 kV3 dc3 pm3 cd3 ct3 : Value}
    {f4 : Addr} {od4 an4 : Option Addr} {sl4 : Array (Option Value)} {oc4 kV4 dc4 pm4 cd4 ct4 : Value}
    {f5 : Addr} {od5 an5 : Option Addr} {sl5 : Array (Option Value)} {oc5 kV5 dc5 pm5 cd5 ct5 : Value}
    {f6 : Addr} {od6 an6 : Option Addr} {sl6 : Array (Option Value)} {oc6 kV6 dc6 pm6 cd6 ct6 : Value}
    {f7 : Addr} {od7 an7 : Option Addr} {sl7 : Array (Option Value)} {oc7 kV7 dc7 pm7 cd7 ct7 : Value}
    {f8 : Addr} {od8 an8 : Option Addr} {sl8 : Array (Option Value)} {oc8 kV8 dc8 pm8 cd8 ct8 : Value}
    {f9 : Addr} {od9 an9 : Option Addr} {sl9 : Array (Option Value)} {oc9 kV9 dc9 pm9 cd9 ct9 : Value}
    {f10 : Addr} {od10 an10 : Option Addr} {sl10 : Array (Option Value)} {oc10 kV10 dc10 pm10 cd10 ct10 : Value}
    {f11 : Addr} {od11 an11 : Option Addr} {sl11 : Array (Option Value)} {oc11 kV11 dc11 pm11 cd11 ct11 : Value}
    {f12 : Addr} {od12 an12 : Option Addr} {sl12 : Array (Option Value)} {oc12 kV12 dc12 pm12 cd12 ct12 : Value}
    {f13 : Addr} {od13 an13 : Option Addr} {sl13 : Array (Option Value)} {oc13 kV13 dc13 pm13 cd13 ct13 : Value}
    {f14 : Addr} {od14 an14 : Option Addr} {sl14 : Array (Option Value)} {oc14 kV14 dc14 pm14 cd14 ct14 : Value}
    {f15 : Addr} {od15 an15 : Option Addr} {sl15 : Array (Option Value)} {oc15 kV15 dc15 pm15 cd15 ct15 : Value}
    {f16 : Addr} {od16 an16 : Option Addr} {sl16 : Array (Option Value)} {oc16 kV16 dc16 pm16 cd16 ct16 : Value}
    {f17 : Addr} {od17 an17 : Option Addr} {sl17 : Array (Option Value)} {oc17 kV17 dc17 pm17 cd17 ct17 : Value}
    {f18 : Addr} {od18 an18 : Option Addr} {sl18 : Array (Option Value)} {oc18 kV18 dc18 pm18 cd18 ct18 : Value}
    {f19 : Addr} {od19 an19 : Option Addr} {sl19 : Array (Option Value)} {oc19 kV19 dc19 pm19 cd19 ct19 : Value}
    {f20 : Addr} {od20 an20 : Option Addr} {sl20 : Array (Option Value)} {oc20 kV20 dc20 pm20 cd20 ct20 : Value}
    {f21 : Addr} {od21 an21 : Option Addr} {sl21 : Array (Option Value)} {oc21 kV21 dc21 pm21 cd21 ct21 : Value}
    {f22 : Addr} {od22 an22 : Option Addr} {sl22 : Array (Option Value)} {oc22 kV22 dc22 pm22 cd22 ct22 : Value}
    {f23 : Addr} {od23 an23 : Option Addr} {sl23 : Array (Option Value)} {oc23 kV23 dc23 pm23 ct23 : Value} {cM__law_is_right pM__law_is_right : Addr} {ocM23 : Value} {odM23 : Option Addr} {us23 : Array Value} {slM23 : Array (Option Value)} {dr23 : DefRec}
    {f24 : Addr} {od24 an24 : Option Addr} {sl24 : Array (Option Value)} {oc24 kV24 dc24 pm24 cd24 ct24 : Value}
    {C_NoSurd : Addr}
    {C_NoInteger : Addr}
    {C_NoWay : Addr}
    {C_RankError : Addr}
    {C_NoNumber : Addr}
    {t5 : Tok}
    {t6 : Tok}
    {t8 : Tok}
    {t12 : Tok}
    {t32 : Tok}
    (a0 : PySem.W.nsIn K mainGlobals "_law_hand" = some (some (.ref f0))) (l0 : K.lookup f0 = some ⟨oc0, od0, .func (PySem.W.fnOf "_law_hand" "_law_hand" (defArgs s__law_hand) (defBody s__law_hand) (defScope s__law_hand) .none kV0 dc0 pm0 an0 cd0 ct0), sl0⟩) (q0 : PySem.W.codeIn K cd0 "_law_hand" = true) (k0 : PySem.W.keepIn K (.ref f0) = true)
    (a1 : PySem.W.nsIn K mainGlobals "whole_square_root" = some (some (.ref f1))) (l1 : K.lookup f1 = some ⟨oc1, od1, .func (PySem.W.fnOf "whole_square_root" "whole_square_root" (defArgs s_whole_square_root) (defBody s_whole_square_root) (defScope s_whole_square_root) .none kV1 dc1 pm1 an1 cd1 ct1), sl1⟩) (q1 : PySem.W.codeIn K cd1 "whole_square_root" = true) (k1 : PySem.W.keepIn K (.ref f1) = true)
    (a2 : PySem.W.nsIn K mainGlobals "is_integer" = some (some (.ref f2))) (l2 : K.lookup f2 = some ⟨oc2, od2, .func (PySem.W.fnOf "is_integer" "is_integer" (defArgs s_is_integer) (defBody s_is_integer) (defScope s_is_integer) .none kV2 dc2 pm2 an2 cd2 ct2), sl2⟩) (q2 : PySem.W.codeIn K cd2 "is_integer" = true) (k2 : PySem.W.keepIn K (.ref f2) = true)
    (a3 : PySem.W.nsIn K mainGlobals "is_within" = some (some (.ref f3))) (l3 : K.lookup f3 = some ⟨oc3, od3, .func (PySem.W.fnOf "is_within" "is_within" (defArgs s_is_within) (defBody s_is_within) (defScope s_is_within) .none kV3 dc3 pm3 an3 cd3 ct3), sl3⟩) (q3 : PySem.W.codeIn K cd3 "is_within" = true) (k3 : PySem.W.keepIn K (.ref f3) = true)
    (a4 : PySem.W.nsIn K mainGlobals "is_surd" = some (some (.ref f4))) (l4 : K.lookup f4 = some ⟨oc4, od4, .func (PySem.W.fnOf "is_surd" "is_surd" (defArgs s_is_surd) (defBody s_is_surd) (defScope s_is_surd) .none kV4 dc4 pm4 an4 cd4 ct4), sl4⟩) (q4 : PySem.W.codeIn K cd4 "is_surd" = true) (k4 : PySem.W.keepIn K (.ref f4) = true)
    (a5 : PySem.W.nsIn K mainGlobals "check_surd" = some (some (.ref f5))) (l5 : K.lookup f5 = some ⟨oc5, od5, .func (PySem.W.fnOf "check_surd" "check_surd" (defArgs s_check_surd) (defBody s_check_surd) (defScope s_check_surd) .none kV5 dc5 pm5 an5 cd5 ct5), sl5⟩) (q5 : PySem.W.codeIn K cd5 "check_surd" = true) (k5 : PySem.W.keepIn K (.ref f5) = true)
    (a6 : PySem.W.nsIn K mainGlobals "check_size" = some (some (.ref f6))) (l6 : K.lookup f6 = some ⟨oc6, od6, .func (PySem.W.fnOf "check_size" "check_size" (defArgs s_check_size) (defBody s_check_size) (defScope s_check_size) .none kV6 dc6 pm6 an6 cd6 ct6), sl6⟩) (q6 : PySem.W.codeIn K cd6 "check_size" = true) (k6 : PySem.W.keepIn K (.ref f6) = true)
    (a7 : PySem.W.nsIn K mainGlobals "are_alike" = some (some (.ref f7))) (l7 : K.lookup f7 = some ⟨oc7, od7, .func (PySem.W.fnOf "are_alike" "are_alike" (defArgs s_are_alike) (defBody s_are_alike) (defScope s_are_alike) .none kV7 dc7 pm7 an7 cd7 ct7), sl7⟩) (q7 : PySem.W.codeIn K cd7 "are_alike" = true) (k7 : PySem.W.keepIn K (.ref f7) = true)
    (a8 : PySem.W.nsIn K mainGlobals "is_way_of" = some (some (.ref f8))) (l8 : K.lookup f8 = some ⟨oc8, od8, .func (PySem.W.fnOf "is_way_of" "is_way_of" (defArgs s_is_way_of) (defBody s_is_way_of) (defScope s_is_way_of) .none kV8 dc8 pm8 an8 cd8 ct8), sl8⟩) (q8 : PySem.W.codeIn K cd8 "is_way_of" = true) (k8 : PySem.W.keepIn K (.ref f8) = true)
    (a9 : PySem.W.nsIn K mainGlobals "is_same_class" = some (some (.ref f9))) (l9 : K.lookup f9 = some ⟨oc9, od9, .func (PySem.W.fnOf "is_same_class" "is_same_class" (defArgs s_is_same_class) (defBody s_is_same_class) (defScope s_is_same_class) .none kV9 dc9 pm9 an9 cd9 ct9), sl9⟩) (q9 : PySem.W.codeIn K cd9 "is_same_class" = true) (k9 : PySem.W.keepIn K (.ref f9) = true)
    (a10 : PySem.W.nsIn K mainGlobals "_law_draw" = some (some (.ref f10))) (l10 : K.lookup f10 = some ⟨oc10, od10, .func (PySem.W.fnOf "_law_draw" "_law_draw" (defArgs s__law_draw) (defBody s__law_draw) (defScope s__law_draw) .none kV10 dc10 pm10 an10 cd10 ct10), sl10⟩) (q10 : PySem.W.codeIn K cd10 "_law_draw" = true) (k10 : PySem.W.keepIn K (.ref f10) = true)
    (a11 : PySem.W.nsIn K mainGlobals "_law_any" = some (some (.ref f11))) (l11 : K.lookup f11 = some ⟨oc11, od11, .func (PySem.W.fnOf "_law_any" "_law_any" (defArgs s__law_any) (defBody s__law_any) (defScope s__law_any) .none kV11 dc11 pm11 an11 cd11 ct11), sl11⟩) (q11 : PySem.W.codeIn K cd11 "_law_any" = true) (k11 : PySem.W.keepIn K (.ref f11) = true)
    (a12 : PySem.W.nsIn K mainGlobals "_law_surd" = some (some (.ref f12))) (l12 : K.lookup f12 = some ⟨oc12, od12, .func (PySem.W.fnOf "_law_surd" "_law_surd" (defArgs s__law_surd) (defBody s__law_surd) (defScope s__law_surd) .none kV12 dc12 pm12 an12 cd12 ct12), sl12⟩) (q12 : PySem.W.codeIn K cd12 "_law_surd" = true) (k12 : PySem.W.keepIn K (.ref f12) = true)
    (a13 : PySem.W.nsIn K mainGlobals "first_way" = some (some (.ref f13))) (l13 : K.lookup f13 = some ⟨oc13, od13, .func (PySem.W.fnOf "first_way" "first_way" (defArgs s_first_way) (defBody s_first_way) (defScope s_first_way) .none kV13 dc13 pm13 an13 cd13 ct13), sl13⟩) (q13 : PySem.W.codeIn K cd13 "first_way" = true) (k13 : PySem.W.keepIn K (.ref f13) = true)
    (a14 : PySem.W.nsIn K mainGlobals "ways_times" = some (some (.ref f14))) (l14 : K.lookup f14 = some ⟨oc14, od14, .func (PySem.W.fnOf "ways_times" "ways_times" (defArgs s_ways_times) (defBody s_ways_times) (defScope s_ways_times) .none kV14 dc14 pm14 an14 cd14 ct14), sl14⟩) (q14 : PySem.W.codeIn K cd14 "ways_times" = true) (k14 : PySem.W.keepIn K (.ref f14) = true)
    (a15 : PySem.W.nsIn K mainGlobals "raw_unit" = some (some (.ref f15))) (l15 : K.lookup f15 = some ⟨oc15, od15, .func (PySem.W.fnOf "raw_unit" "raw_unit" (defArgs s_raw_unit) (defBody s_raw_unit) (defScope s_raw_unit) .none kV15 dc15 pm15 an15 cd15 ct15), sl15⟩) (q15 : PySem.W.codeIn K cd15 "raw_unit" = true) (k15 : PySem.W.keepIn K (.ref f15) = true)
    (a16 : PySem.W.nsIn K mainGlobals "unit" = some (some (.ref f16))) (l16 : K.lookup f16 = some ⟨oc16, od16, .func (PySem.W.fnOf "unit" "unit" (defArgs s_unit) (defBody s_unit) (defScope s_unit) .none kV16 dc16 pm16 an16 cd16 ct16), sl16⟩) (q16 : PySem.W.codeIn K cd16 "unit" = true) (k16 : PySem.W.keepIn K (.ref f16) = true)
    (a17 : PySem.W.nsIn K mainGlobals "_law_is_refused" = some (some (.ref f17))) (l17 : K.lookup f17 = some ⟨oc17, od17, .func (PySem.W.fnOf "_law_is_refused" "_law_is_refused" (defArgs s__law_is_refused) (defBody s__law_is_refused) (defScope s__law_is_refused) .none kV17 dc17 pm17 an17 cd17 ct17), sl17⟩) (q17 : PySem.W.codeIn K cd17 "_law_is_refused" = true) (k17 : PySem.W.keepIn K (.ref f17) = true)
    (a18 : PySem.W.nsIn K mainGlobals "_law_is_same" = some (some (.ref f18))) (l18 : K.lookup f18 = some ⟨oc18, od18, .func (PySem.W.fnOf "_law_is_same" "_law_is_same" (defArgs s__law_is_same) (defBody s__law_is_same) (defScope s__law_is_same) .none kV18 dc18 pm18 an18 cd18 ct18), sl18⟩) (q18 : PySem.W.codeIn K cd18 "_law_is_same" = true) (k18 : PySem.W.keepIn K (.ref f18) = true)
    (a19 : PySem.W.nsIn K mainGlobals "_law_deep" = some (some (.ref f19))) (l19 : K.lookup f19 = some ⟨oc19, od19, .func (PySem.W.fnOf "_law_deep" "_law_deep" (defArgs s__law_deep) (defBody s__law_deep) (defScope s__law_deep) .none kV19 dc19 pm19 an19 cd19 ct19), sl19⟩) (q19 : PySem.W.codeIn K cd19 "_law_deep" = true) (k19 : PySem.W.keepIn K (.ref f19) = true)
    (a20 : PySem.W.nsIn K mainGlobals "check_number" = some (some (.ref f20))) (l20 : K.lookup f20 = some ⟨oc20, od20, .func (PySem.W.fnOf "check_number" "check_number" (defArgs s_check_number) (defBody s_check_number) (defScope s_check_number) .none kV20 dc20 pm20 an20 cd20 ct20), sl20⟩) (q20 : PySem.W.codeIn K cd20 "check_number" = true) (k20 : PySem.W.keepIn K (.ref f20) = true)
    (a21 : PySem.W.nsIn K mainGlobals "x_for" = some (some (.ref f21))) (l21 : K.lookup f21 = some ⟨oc21, od21, .func (PySem.W.fnOf "x_for" "x_for" (defArgs s_x_for) (defBody s_x_for) (defScope s_x_for) .none kV21 dc21 pm21 an21 cd21 ct21), sl21⟩) (q21 : PySem.W.codeIn K cd21 "x_for" = true) (k21 : PySem.W.keepIn K (.ref f21) = true)
    (a22 : PySem.W.nsIn K mainGlobals "ways_of" = some (some (.ref f22))) (l22 : K.lookup f22 = some ⟨oc22, od22, .func (PySem.W.fnOf "ways_of" "ways_of" (defArgs s_ways_of) (defBody s_ways_of) (defScope s_ways_of) .none kV22 dc22 pm22 an22 cd22 ct22), sl22⟩) (q22 : PySem.W.codeIn K cd22 "ways_of" = true) (k22 : PySem.W.keepIn K (.ref f22) = true)
    (a23 : PySem.W.nsIn K mainGlobals "_law_is_right" = some (some (.ref f23))) (l23 : K.lookup f23 = some ⟨oc23, od23, .func (PySem.W.fnOf "_law_is_right" "_law_is_right" (defArgs s__law_is_right) (defBody s__law_is_right) (defScope s__law_is_right) .none kV23 dc23 pm23 an23 (.ref cM__law_is_right) ct23), sl23⟩) (q23 : PySem.W.codeIn K (.ref cM__law_is_right) "_law_is_right" = true) (k23 : PySem.W.keepIn K (.ref f23) = true)
    (lm23 : K.lookup cM__law_is_right = some ⟨ocM23, odM23, .fields us23, slM23⟩) (lp23 : us23[11]? = some (.ref pM__law_is_right)) (ln23 : K.lookup pM__law_is_right = none) (lr23 : (PyProof.Rows.recsOf prq).find? (fun e => e.name == ("_law_is_right" : Str)) = some dr23)
    (a24 : PySem.W.nsIn K mainGlobals "law" = some (some (.ref f24))) (l24 : K.lookup f24 = some ⟨oc24, od24, .func (PySem.W.fnOf "law" "law" (defArgs s_law) (defBody s_law) (defScope s_law) .none kV24 dc24 pm24 an24 cd24 ct24), sl24⟩) (q24 : PySem.W.codeIn K cd24 "law" = true) (k24 : PySem.W.keepIn K (.ref f24) = true)
    (zc_NoSurd : PySem.W.nsIn K mainGlobals "NoSurd" = some (some (.ref C_NoSurd)))
    (zc_NoInteger : PySem.W.nsIn K mainGlobals "NoInteger" = some (some (.ref C_NoInteger)))
    (zc_NoWay : PySem.W.nsIn K mainGlobals "NoWay" = some (some (.ref C_NoWay)))
    (zc_RankError : PySem.W.nsIn K mainGlobals "RankError" = some (some (.ref C_RankError)))
    (zc_NoNumber : PySem.W.nsIn K mainGlobals "NoNumber" = some (some (.ref C_NoNumber)))
    (z0 : PySem.W.nsIn K mainGlobals "abs" = some none)
    (z1 : PySem.W.nsIn K mainGlobals "int" = some none)
    (z2 : PySem.W.nsIn K mainGlobals "len" = some none)
    (z3 : PySem.W.nsIn K mainGlobals "isinstance" = some none)
    (z4 : PySem.W.nsIn K mainGlobals "bool" = some none)
    (z5 : PySem.W.nsIn K mainGlobals "LEAST_ROOT" = some (some (.int 2 t5)))
    (z6 : PySem.W.nsIn K mainGlobals "MOST_ROOT" = some (some (.int 10000 t6)))
    (e_NoSurd_ : PySem.W.excIn K C_NoSurd [.type "ValueError", .type "Exception", .type "BaseException", .type "object"] "ValueError.__new__" = true)
    (p_NoSurd_ : PySem.W.keepIn K (.ref C_NoSurd) = true)
    (b_NoSurd_ : PySem.W.subIn K (.ref C_NoSurd) (.type "BaseException") = some true)
    (y_NoSurd_ : PySem.W.typeIn K (.ref C_NoSurd) = some (.type "type"))
    (z8 : PySem.W.nsIn K mainGlobals "MOST_SIZE" = some (some (.int 1000 t8)))
    (e_NoInteger_ : PySem.W.excIn K C_NoInteger [.type "ValueError", .type "Exception", .type "BaseException", .type "object"] "ValueError.__new__" = true)
    (p_NoInteger_ : PySem.W.keepIn K (.ref C_NoInteger) = true)
    (b_NoInteger_ : PySem.W.subIn K (.ref C_NoInteger) (.type "BaseException") = some true)
    (y_NoInteger_ : PySem.W.typeIn K (.ref C_NoInteger) = some (.type "type"))
    (z10 : PySem.W.nsIn K mainGlobals "tuple" = some none)
    (z11 : PySem.W.nsIn K mainGlobals "all" = some none)
    (z12 : PySem.W.nsIn K mainGlobals "MOST_LONG" = some (some (.int 1000000000000000000000000000000000000000000000000000000000000 t12)))
    (e_NoWay_ : PySem.W.excIn K C_NoWay [.type "ValueError", .type "Exception", .type "BaseException", .type "object"] "ValueError.__new__" = true)
    (p_NoWay_ : PySem.W.keepIn K (.ref C_NoWay) = true)
    (b_NoWay_ : PySem.W.subIn K (.ref C_NoWay) (.type "BaseException") = some true)
    (y_NoWay_ : PySem.W.typeIn K (.ref C_NoWay) = some (.type "type"))
    (z14 : PySem.W.nsIn K mainGlobals "ValueError" = some none)
    (h_NoWay_ : PySem.W.hasDictIn K C_NoWay = true)
    (y_RankError_ : PySem.W.typeIn K (.ref C_RankError) = some (.type "type"))
    (h_RankError_ : PySem.W.hasDictIn K C_RankError = true)
    (b_RankError_ : PySem.W.subIn K (.ref C_RankError) (.type "BaseException") = some true)
    (h_NoSurd_ : PySem.W.hasDictIn K C_NoSurd = true)
    (ga_NoSurd_ : PySem.W.findIn K (.ref C_NoSurd) "__getattribute__" = some (some (.builtin "BaseException.__getattribute__")))
    (gt_NoSurd_ : PySem.W.findIn K (.ref C_NoSurd) "__getattr__" = some none)
    (cl_NoSurd_ : PySem.W.findIn K (.ref C_NoSurd) "__class__" = some (some (.builtin "object.__class__")))
    (mo_NoSurd_ : PySem.W.mroIn K C_NoSurd (.type "object") = some true)
    (se_NoSurd_ : PySem.W.subIn K (.ref C_NoSurd) (.ref C_NoSurd) = some true)
    (ve_NoSurd_ : PySem.W.subIn K (.ref C_NoSurd) (.type "ValueError") = some true)
    (u_NoSurd_NoWay : PySem.W.subIn K (.ref C_NoSurd) (.ref C_NoWay) = some false)
    (u_NoSurd_RankError : PySem.W.subIn K (.ref C_NoSurd) (.ref C_RankError) = some true)
    (h_NoInteger_ : PySem.W.hasDictIn K C_NoInteger = true)
    (ga_NoInteger_ : PySem.W.findIn K (.ref C_NoInteger) "__getattribute__" = some (some (.builtin "BaseException.__getattribute__")))
    (gt_NoInteger_ : PySem.W.findIn K (.ref C_NoInteger) "__getattr__" = some none)
    (cl_NoInteger_ : PySem.W.findIn K (.ref C_NoInteger) "__class__" = some (some (.builtin "object.__class__")))
    (mo_NoInteger_ : PySem.W.mroIn K C_NoInteger (.type "object") = some true)
    (se_NoInteger_ : PySem.W.subIn K (.ref C_NoInteger) (.ref C_NoInteger) = some true)
    (ve_NoInteger_ : PySem.W.subIn K (.ref C_NoInteger) (.type "ValueError") = some true)
    (u_NoInteger_NoWay : PySem.W.subIn K (.ref C_NoInteger) (.ref C_NoWay) = some false)
    (u_NoInteger_RankError : PySem.W.subIn K (.ref C_NoInteger) (.ref C_RankError) = some true)
    (ga_NoWay_ : PySem.W.findIn K (.ref C_NoWay) "__getattribute__" = some (some (.builtin "BaseException.__getattribute__")))
    (gt_NoWay_ : PySem.W.findIn K (.ref C_NoWay) "__getattr__" = some none)
    (cl_NoWay_ : PySem.W.findIn K (.ref C_NoWay) "__class__" = some (some (.builtin "object.__class__")))
    (mo_NoWay_ : PySem.W.mroIn K C_NoWay (.type "object") = some true)
    (se_NoWay_ : PySem.W.subIn K (.ref C_NoWay) (.ref C_NoWay) = some true)
    (ve_NoWay_ : PySem.W.subIn K (.ref C_NoWay) (.type "ValueError") = some true)
    (u_NoWay_NoWay : PySem.W.subIn K (.ref C_NoWay) (.ref C_NoWay) = some true)
    (u_NoWay_RankError : PySem.W.subIn K (.ref C_NoWay) (.ref C_RankError) = some true)
    (e_NoNumber_ : PySem.W.excIn K C_NoNumber [.type "ValueError", .type "Exception", .type "BaseException", .type "object"] "ValueError.__new__" = true)
    (p_NoNumber_ : PySem.W.keepIn K (.ref C_NoNumber) = true)
    (b_NoNumber_ : PySem.W.subIn K (.ref C_NoNumber) (.type "BaseException") = some true)
    (y_NoNumber_ : PySem.W.typeIn K (.ref C_NoNumber) = some (.type "type"))
    (h_NoNumber_ : PySem.W.hasDictIn K C_NoNumber = true)
    (ga_NoNumber_ : PySem.W.findIn K (.ref C_NoNumber) "__getattribute__" = some (some (.builtin "BaseException.__getattribute__")))
    (gt_NoNumber_ : PySem.W.findIn K (.ref C_NoNumber) "__getattr__" = some none)
    (cl_NoNumber_ : PySem.W.findIn K (.ref C_NoNumber) "__class__" = some (some (.builtin "object.__class__")))
    (mo_NoNumber_ : PySem.W.mroIn K C_NoNumber (.type "object") = some true)
    (se_NoNumber_ : PySem.W.subIn K (.ref C_NoNumber) (.ref C_NoNumber) = some true)
    (ve_NoNumber_ : PySem.W.subIn K (.ref C_NoNumber) (.type "ValueError") = some true)
    (u_NoNumber_NoWay : PySem.W.subIn K (.ref C_NoNumber) (.ref C_NoWay) = some false)
    (u_NoNumber_RankError : PySem.W.subIn K (.ref C_NoNumber) (.ref C_RankError) = some true)
    (on_ : PySem.W.specialIn K (.builtin "object.__class__") "__get__" = some (some (.builtin "getset_descriptor.__get__")))
    (ot_ : PySem.W.takesIn K (.builtin "object.__class__") = some true)
    (z31 : PySem.W.nsIn K mainGlobals "range" = some none)
    (z32 : PySem.W.nsIn K mainGlobals "MOST_Y" = some (some (.int 10000 t32)))
    (z33 : PySem.W.nsIn K mainGlobals "sorted" = some none)
    (z34 : PySem.W.nsIn K mainGlobals "list" = some none)
    (z35 : PySem.W.nsIn K mainGlobals "repr" = some none)
    : ∃ (fd : FuncData) (cs : CdL) (T : TbL) (fb : Str → Addr), CdAt K h cs ∧ (∀ t ∈ T, t.1 ∈ cs.map Prod.snd) ∧ (∀ (s : Shared) (v : Value), BindsTo s fd ⟨[v], []⟩ [("script", v)]) ∧ ∀ base : Heap, K.In base → base.Ns mainGlobals mg → (∀ p ∈ cs, LamX.TabB base mg p.1 p.2) → FnG l.prog w K mg base 9 fa fd ["script"] (spF K mg T 1 sem_law) := by
  have e := hfa.symm.trans (PySem.W.mg_of X G a24)
  cases e
  have F24 := fun_mk (st := s_law) l24 q24 k24
  refine ⟨PySem.W.fnOf "law" "law" (defArgs s_law) (defBody s_law) (defScope s_law) .none kV24 dc24 pm24 an24 cd24 ct24, [(cM__law_is_right, pM__law_is_right)], [(pM__law_is_right, lQ "_law_is_right")], fbOf mg, (cd_of TQ X lr23 (tabIn_mk a23 l23 rfl lm23 lp23) ln23 cd_nil), fun t ht => by simp only [List.mem_cons, List.not_mem_nil, or_false] at ht; rcases ht with rfl <;> simp, fun s v => .of_eq rfl, fun base _ _ hTB => ?_⟩
  have m__law_is_right : Mkr K mg [(pM__law_is_right, lQ "_law_is_right")] base "_law_is_right" cM__law_is_right pM__law_is_right := ⟨hTB _ (.head _), (.head _), fun p hp e => by simp only [List.mem_cons, List.not_mem_nil, or_false] at hp; subst hp; rfl⟩
  have d0 : Df K mg "_law_hand" s__law_hand ["script"] := ⟨_, _, fun_mk (st := s__law_hand) l0 q0 k0, PySem.W.mg_of X G a0, (fun_mk (st := s__law_hand) l0 q0 k0).binds fun _ _ _ _ _ _ us hl => match us, hl with | [_], _ => rfl⟩
  have c__law_hand : Cf l.prog w K mg [(pM__law_is_right, lQ "_law_is_right")] base 1 "_law_hand" 1 sem__law_hand := ok__law_hand (PySem.W.mg_none_of X G z0) (PySem.W.mg_none_of X G z1) (PySem.W.mg_none_of X G z2) d0
  have d1 : Df K mg "whole_square_root" s_whole_square_root ["number"] := ⟨_, _, fun_mk (st := s_whole_square_root) l1 q1 k1, PySem.W.mg_of X G a1, (fun_mk (st := s_whole_square_root) l1 q1 k1).binds fun _ _ _ _ _ _ us hl => match us, hl with | [_], _ => rfl⟩
  have c_whole_square_root : Cf l.prog w K mg [(pM__law_is_right, lQ "_law_is_right")] base 1 "whole_square_root" 1 sem_whole_square_root := ok_whole_square_root  d1
  have d2 : Df K mg "is_integer" s_is_integer ["thing"] := ⟨_, _, fun_mk (st := s_is_integer) l2 q2 k2, PySem.W.mg_of X G a2, (fun_mk (st := s_is_integer) l2 q2 k2).binds fun _ _ _ _ _ _ us hl => match us, hl with | [_], _ => rfl⟩
  have c_is_integer : Cf l.prog w K mg [(pM__law_is_right, lQ "_law_is_right")] base 1 "is_integer" 1 sem_is_integer := ok_is_integer (PySem.W.mg_none_of X G z3) (PySem.W.mg_none_of X G z1) (PySem.W.mg_none_of X G z4) d2
  have d3 : Df K mg "is_within" s_is_within ["thing", "low", "high"] := ⟨_, _, fun_mk (st := s_is_within) l3 q3 k3, PySem.W.mg_of X G a3, (fun_mk (st := s_is_within) l3 q3 k3).binds fun _ _ _ _ _ _ us hl => match us, hl with | [_, _, _], _ => rfl⟩
  have c_is_within : Cf l.prog w K mg [(pM__law_is_right, lQ "_law_is_right")] base 2 "is_within" 3 sem_is_within := ok_is_within c_is_integer d3
  have d4 : Df K mg "is_surd" s_is_surd ["thing"] := ⟨_, _, fun_mk (st := s_is_surd) l4 q4 k4, PySem.W.mg_of X G a4, (fun_mk (st := s_is_surd) l4 q4 k4).binds fun _ _ _ _ _ _ us hl => match us, hl with | [_], _ => rfl⟩
  have c_is_surd : Cf l.prog w K mg [(pM__law_is_right, lQ "_law_is_right")] base 3 "is_surd" 1 sem_is_surd := ok_is_surd c_is_within ⟨_, PySem.W.mg_of X G z5⟩ ⟨_, PySem.W.mg_of X G z6⟩ c_whole_square_root d4
  have d5 : Df K mg "check_surd" s_check_surd ["d"] := ⟨_, _, fun_mk (st := s_check_surd) l5 q5 k5, PySem.W.mg_of X G a5, (fun_mk (st := s_check_surd) l5 q5 k5).binds fun _ _ _ _ _ _ us hl => match us, hl with | [_], _ => rfl⟩
  have c_check_surd : Cf l.prog w K mg [(pM__law_is_right, lQ "_law_is_right")] base 4 "check_surd" 1 sem_check_surd := ok_check_surd c_is_surd ⟨(PySem.W.mg_of X G zc_NoSurd), e_NoSurd_, p_NoSurd_, b_NoSurd_, y_NoSurd_⟩ d5
  have d6 : Df K mg "check_size" s_check_size ["n"] := ⟨_, _, fun_mk (st := s_check_size) l6 q6 k6, PySem.W.mg_of X G a6, (fun_mk (st := s_check_size) l6 q6 k6).binds fun _ _ _ _ _ _ us hl => match us, hl with | [_], _ => rfl⟩
  have c_check_size : Cf l.prog w K mg [(pM__law_is_right, lQ "_law_is_right")] base 3 "check_size" 1 sem_check_size := ok_check_size c_is_within ⟨_, PySem.W.mg_of X G z8⟩ ⟨(PySem.W.mg_of X G zc_NoInteger), e_NoInteger_, p_NoInteger_, b_NoInteger_, y_NoInteger_⟩ d6
  have d7 : Df K mg "are_alike" s_are_alike ["d", "n", "one", "other"] := ⟨_, _, fun_mk (st := s_are_alike) l7 q7 k7, PySem.W.mg_of X G a7, (fun_mk (st := s_are_alike) l7 q7 k7).binds fun _ _ _ _ _ _ us hl => match us, hl with | [_, _, _, _], _ => rfl⟩
  have c_are_alike : Cf l.prog w K mg [(pM__law_is_right, lQ "_law_is_right")] base 1 "are_alike" 4 sem_are_alike := ok_are_alike  d7
  have d8 : Df K mg "is_way_of" s_is_way_of ["d", "n", "thing"] := ⟨_, _, fun_mk (st := s_is_way_of) l8 q8 k8, PySem.W.mg_of X G a8, (fun_mk (st := s_is_way_of) l8 q8 k8).binds fun _ _ _ _ _ _ us hl => match us, hl with | [_, _, _], _ => rfl⟩
  have c_is_way_of : Cf l.prog w K mg [(pM__law_is_right, lQ "_law_is_right")] base 2 "is_way_of" 3 sem_is_way_of := ok_is_way_of (PySem.W.mg_none_of X G z3) (PySem.W.mg_none_of X G z10) (PySem.W.mg_none_of X G z2) (PySem.W.mg_none_of X G z11) c_is_integer (PySem.W.mg_none_of X G z0) ⟨_, PySem.W.mg_of X G z12⟩ d8
  have d9 : Df K mg "is_same_class" s_is_same_class ["d", "n", "one", "other"] := ⟨_, _, fun_mk (st := s_is_same_class) l9 q9 k9, PySem.W.mg_of X G a9, (fun_mk (st := s_is_same_class) l9 q9 k9).binds fun _ _ _ _ _ _ us hl => match us, hl with | [_, _, _, _], _ => rfl⟩
  have c_is_same_class : Cf l.prog w K mg [(pM__law_is_right, lQ "_law_is_right")] base 5 "is_same_class" 4 sem_is_same_class := ok_is_same_class c_check_surd c_check_size c_is_way_of ⟨(PySem.W.mg_of X G zc_NoWay), e_NoWay_, p_NoWay_, b_NoWay_, y_NoWay_⟩ c_are_alike d9
  have d10 : Df K mg "_law_draw" s__law_draw ["hand", "below"] := ⟨_, _, fun_mk (st := s__law_draw) l10 q10 k10, PySem.W.mg_of X G a10, (fun_mk (st := s__law_draw) l10 q10 k10).binds fun _ _ _ _ _ _ us hl => match us, hl with | [_, _], _ => rfl⟩
  have c__law_draw : Ci l.prog w K mg [(pM__law_is_right, lQ "_law_is_right")] base 1 "_law_draw" 2 sem__law_draw := ok__law_draw (PySem.W.mg_none_of X G z2) (PySem.W.mg_none_of X G z1) d10
  have d11 : Df K mg "_law_any" s__law_any ["hand", "some"] := ⟨_, _, fun_mk (st := s__law_any) l11 q11 k11, PySem.W.mg_of X G a11, (fun_mk (st := s__law_any) l11 q11 k11).binds fun _ _ _ _ _ _ us hl => match us, hl with | [_, _], _ => rfl⟩
  have c__law_any : Ci l.prog w K mg [(pM__law_is_right, lQ "_law_is_right")] base 2 "_law_any" 2 sem__law_any := ok__law_any c__law_draw (PySem.W.mg_none_of X G z2) d11
  have d12 : Df K mg "_law_surd" s__law_surd ["hand"] := ⟨_, _, fun_mk (st := s__law_surd) l12 q12 k12, PySem.W.mg_of X G a12, (fun_mk (st := s__law_surd) l12 q12 k12).binds fun _ _ _ _ _ _ us hl => match us, hl with | [_], _ => rfl⟩
  have c__law_surd : Ci l.prog w K mg [(pM__law_is_right, lQ "_law_is_right")] base 3 "_law_surd" 1 sem__law_surd := ok__law_surd c__law_any d12
  have d13 : Df K mg "first_way" s_first_way ["d"] := ⟨_, _, fun_mk (st := s_first_way) l13 q13 k13, PySem.W.mg_of X G a13, (fun_mk (st := s_first_way) l13 q13 k13).binds fun _ _ _ _ _ _ us hl => match us, hl with | [_], _ => rfl⟩
  have c_first_way : Cf l.prog w K mg [(pM__law_is_right, lQ "_law_is_right")] base 2 "first_way" 1 sem_first_way := ok_first_way c_whole_square_root d13
  have d14 : Df K mg "ways_times" s_ways_times ["d", "one", "other"] := ⟨_, _, fun_mk (st := s_ways_times) l14 q14 k14, PySem.W.mg_of X G a14, (fun_mk (st := s_ways_times) l14 q14 k14).binds fun _ _ _ _ _ _ us hl => match us, hl with | [_, _, _], _ => rfl⟩
  have c_ways_times : Cf l.prog w K mg [(pM__law_is_right, lQ "_law_is_right")] base 1 "ways_times" 3 sem_ways_times := ok_ways_times  d14
  have d15 : Df K mg "raw_unit" s_raw_unit ["d"] := ⟨_, _, fun_mk (st := s_raw_unit) l15 q15 k15, PySem.W.mg_of X G a15, (fun_mk (st := s_raw_unit) l15 q15 k15).binds fun _ _ _ _ _ _ us hl => match us, hl with | [_], _ => rfl⟩
  have c_raw_unit : Cf l.prog w K mg [(pM__law_is_right, lQ "_law_is_right")] base 3 "raw_unit" 1 sem_raw_unit := ok_raw_unit c_first_way c_ways_times d15
  have d16 : Df K mg "unit" s_unit ["d"] := ⟨_, _, fun_mk (st := s_unit) l16 q16 k16, PySem.W.mg_of X G a16, (fun_mk (st := s_unit) l16 q16 k16).binds fun _ _ _ _ _ _ us hl => match us, hl with | [_], _ => rfl⟩
  have c_unit : Cf l.prog w K mg [(pM__law_is_right, lQ "_law_is_right")] base 5 "unit" 1 sem_unit := ok_unit c_check_surd c_raw_unit d16
  have d17 : Df K mg "_law_is_refused" s__law_is_refused ["call"] := ⟨_, _, fun_mk (st := s__law_is_refused) l17 q17 k17, PySem.W.mg_of X G a17, (fun_mk (st := s__law_is_refused) l17 q17 k17).binds fun _ _ _ _ _ _ us hl => match us, hl with | [_], _ => rfl⟩
  have w__law_is_refused : ∀ n, Wd l.prog w K mg [(pM__law_is_right, lQ "_law_is_right")] base n "_law_is_refused" hs__law_is_refused := ok__law_is_refused (PySem.W.mg_none_of X G z3) (PySem.W.mg_none_of X G z14) ⟨(PySem.W.mg_of X G zc_NoWay), y_NoWay_, h_NoWay_, b_NoWay_⟩ ⟨(PySem.W.mg_of X G zc_RankError), y_RankError_, h_RankError_, b_RankError_⟩ ⟨(PySem.W.mg_of X G zc_NoSurd), e_NoSurd_, p_NoSurd_, b_NoSurd_, y_NoSurd_⟩ ⟨h_NoSurd_, ga_NoSurd_, gt_NoSurd_, cl_NoSurd_, mo_NoSurd_, se_NoSurd_, ve_NoSurd_⟩ u_NoSurd_NoWay u_NoSurd_RankError ⟨(PySem.W.mg_of X G zc_NoInteger), e_NoInteger_, p_NoInteger_, b_NoInteger_, y_NoInteger_⟩ ⟨h_NoInteger_, ga_NoInteger_, gt_NoInteger_, cl_NoInteger_, mo_NoInteger_, se_NoInteger_, ve_NoInteger_⟩ u_NoInteger_NoWay u_NoInteger_RankError ⟨(PySem.W.mg_of X G zc_NoWay), e_NoWay_, p_NoWay_, b_NoWay_, y_NoWay_⟩ ⟨h_NoWay_, ga_NoWay_, gt_NoWay_, cl_NoWay_, mo_NoWay_, se_NoWay_, ve_NoWay_⟩ u_NoWay_NoWay u_NoWay_RankError ⟨(PySem.W.mg_of X G zc_NoNumber), e_NoNumber_, p_NoNumber_, b_NoNumber_, y_NoNumber_⟩ ⟨h_NoNumber_, ga_NoNumber_, gt_NoNumber_, cl_NoNumber_, mo_NoNumber_, se_NoNumber_, ve_NoNumber_⟩ u_NoNumber_NoWay u_NoNumber_RankError ⟨on_, ot_⟩ d17
  have d18 : Df K mg "_law_is_same" s__law_is_same ["d", "n", "one", "other"] := ⟨_, _, fun_mk (st := s__law_is_same) l18 q18 k18, PySem.W.mg_of X G a18, (fun_mk (st := s__law_is_same) l18 q18 k18).binds fun _ _ _ _ _ _ us hl => match us, hl with | [_, _, _, _], _ => rfl⟩
  have c__law_is_same : Cf l.prog w K mg [(pM__law_is_right, lQ "_law_is_right")] base 1 "_law_is_same" 4 sem__law_is_same := ok__law_is_same (PySem.W.mg_none_of X G z1) (PySem.W.mg_none_of X G z0) d18
  have d19 : Df K mg "_law_deep" s__law_deep ["hand"] := ⟨_, _, fun_mk (st := s__law_deep) l19 q19 k19, PySem.W.mg_of X G a19, (fun_mk (st := s__law_deep) l19 q19 k19).binds fun _ _ _ _ _ _ us hl => match us, hl with | [_], _ => rfl⟩
  have c__law_deep : Ci l.prog w K mg [(pM__law_is_right, lQ "_law_is_right")] base 2 "_law_deep" 1 sem__law_deep := ok__law_deep (PySem.W.mg_none_of X G z31) c__law_draw d19
  have d20 : Df K mg "check_number" s_check_number ["thing", "low", "high"] := ⟨_, _, fun_mk (st := s_check_number) l20 q20 k20, PySem.W.mg_of X G a20, (fun_mk (st := s_check_number) l20 q20 k20).binds fun _ _ _ _ _ _ us hl => match us, hl with | [_, _, _], _ => rfl⟩
  have c_check_number : Cf l.prog w K mg [(pM__law_is_right, lQ "_law_is_right")] base 3 "check_number" 3 sem_check_number := ok_check_number c_is_within ⟨(PySem.W.mg_of X G zc_NoNumber), e_NoNumber_, p_NoNumber_, b_NoNumber_, y_NoNumber_⟩ d20
  have d21 : Df K mg "x_for" s_x_for ["d", "n", "y"] := ⟨_, _, fun_mk (st := s_x_for) l21 q21 k21, PySem.W.mg_of X G a21, (fun_mk (st := s_x_for) l21 q21 k21).binds fun _ _ _ _ _ _ us hl => match us, hl with | [_, _, _], _ => rfl⟩
  have c_x_for : Cf l.prog w K mg [(pM__law_is_right, lQ "_law_is_right")] base 2 "x_for" 3 sem_x_for := ok_x_for c_whole_square_root d21
  have d22 : Df K mg "ways_of" s_ways_of ["d", "n", "most"] := ⟨_, _, fun_mk (st := s_ways_of) l22 q22 k22, PySem.W.mg_of X G a22, (fun_mk (st := s_ways_of) l22 q22 k22).binds fun _ _ _ _ _ _ us hl => match us, hl with | [_, _, _], _ => rfl⟩
  have c_ways_of : Cf l.prog w K mg [(pM__law_is_right, lQ "_law_is_right")] base 5 "ways_of" 3 sem_ways_of := ok_ways_of c_check_surd c_check_size c_check_number ⟨_, PySem.W.mg_of X G z32⟩ (PySem.W.mg_none_of X G z31) c_x_for (PySem.W.mg_none_of X G z10) (PySem.W.mg_none_of X G z33) d22
  have d23 : DfC K mg "_law_is_right" s__law_is_right ["hand", "d", "n", "one"] cM__law_is_right := ⟨_, _, _, _, _, _, _, _, _, l23, q23, k23, PySem.W.mg_of X G a23, (fun_mk (st := s__law_is_right) l23 q23 k23).binds fun _ _ _ _ _ _ us hl => match us, hl with | [_, _, _, _], _ => rfl⟩
  have c__law_is_right : Ci l.prog w K mg [(pM__law_is_right, lQ "_law_is_right")] base 8 "_law_is_right" 4 sem__law_is_right := ok__law_is_right c_unit (PySem.W.mg_none_of X G z31) c__law_draw (PySem.W.mg_none_of X G z34) c_ways_of c__law_is_same (PySem.W.mg_none_of X G z35) c_is_same_class c__law_deep c__law_any w__law_is_refused m__law_is_right d23
  exact fnF F24 sc_law rfl (bd_law c__law_hand c_is_same_class (PySem.W.mg_none_of X G z31) c__law_surd c__law_draw (PySem.W.mg_none_of X G z0) c__law_is_right _)
end Lk57

namespace Lk57
open PySem PySem.Spec L2 Dn
local macro_rules
  | `(tactic| simp? only [$ts,*]) => `(tactic| simp only [ev_var, rdSl_fz, rdSl_own, rdSl_io, ev_c, bind_ok, bind_er, data_fz, data_fresh, data_slot, slD_fz, slD_own, slD_io, settle_fz, settle_fresh, settle_slot, slS_fz, slS_own, opO_v, opO_l, opO_t, opD_ok, ev_opRs, ev_bin, binK_ok, binK_er, binK2_ok, binK2_er, opD1_ok, ev_opRs1, ev_un, ev_chain, ev_ch2, ev_ch3, chK_bl, chK2_ok, ev_and, andK_bl, ev_or, orK_bl, ev_not, notK_bl, ev_if, ifK_ok, ev_anil, ev_acons, aK_ok, aK_er, aK2_ok, aK2_er, settleL_nil, settleL_cons, stK_ok, stK2_ok, dataL_nil, dataL_cons, daK_ok, daK2_ok, ev_tup, tupK_ok, tupK_er, tupK2_ok, ev_lst, lstK_ok, lstK_er, lstK2_ok, ev_b, bK_ok, bK_er, bK2_ok, erof_ret, erof_retL, erof_er, ev_call, callK_ok, callK_er, callK2_ok, ev_io, ioK_ok, ioK1_ok, ioK2_own, ioK2_io, ioK3_ok, ev_call0, ev_slice, ev_slK, pr_none, pr_some, prI_ok, prK_ok, prK2_ok, slcK_ok, ev_rev, ev_rvK, revK_tup, revK_lst, ev_tv, tvK_ok, tvK_er, ev_tt, ttK_ok, ttK_er, ttK2_ok, ttK3_ok, truth_bl, truth_int, truth_lst, truth_tup, truth_non, tbind_ok, tbind_er, ev_tand, ev_tor, ev_tnot, ev_taK, ev_toK, ev_tnK, ev_ttrue, ev_isi2, ev_isiR, isi2_int, isi2_bl, isi2_non, isi2_str, isi2_tup, isi2_lst, ev_nil, ev_bk, ev_ct, ev_seq, then_nx, then_rt, then_bk, then_ct, then_er, with_ok, with_er, ev_expr, ev_ret, ev_exK, ev_reK, ev_retN, ev_sif, sifK_ok, sifK_er, ev_asg, ev_agK, asgK_ok, ev_gN, gnK_no, gnK_fz, gnK_own, pl_fz, pl_no, pl_own, gnK_pl, gN0_fresh, gN0_fz, gN0_slot, gnS_ok, ev_gT, gtK_ok, gNs_nil, gNs_cons, gnsK_ok, ev_gL, glK_ok, ev_gIx, gixK_ok, gixK2_ok, gixK3_ok, ev_putAt, putK_own, putK_io, ev_par, parK_ok, parK_er, parK2_ok, parK3_ok, settleS_nil, settleS_fz, settleS_fresh, settleS_slot, ssK_ok, ssK2_ok, gRs_nil, gRs_fz, gRs_fresh, grK_ok, ev_aug, augK_ok, ev_auK, augK2_ok, augK3_v, ev_raise, ev_app, appK_ok, appK2_ok, appK3_ok, appK4_ok, ev_isOwnAt, ioaK_own, ioaK_io, ev_appTo, apK_own, ev_itSeq, seqK_ok, seqK_er, seqK2_lst, seqK2_tup, seqK2_scr, ev_itArgs, argK_ok, argK_er, argK2_ok, argK3_ok, fR1_ok, fR2_ok, fEnum_ok, fEnumA_lst, fEnumA_tup, fZip_lst, fZip_tup, ev_lc, lcK_ok, lcK_er, lcK2_ok, cw_nil, cw_cons, cwK_no, cwK_fz, wipeS_nil, wipeS_cons, restS_nil, restS_cons, rsK_some, ev_for, forK_ok, semFO_nx, semFO_rt, semFO_er, rtO_fz, rtO_fresh, rtO_slot, rtS_own, rtS_fz, semIoO_nx, semIoO_rt, semIoO_er, prO_ok, ev_augIx, augIx1_ok, augIx2_ok, ev_itemOf, itemK_own, itemK_io, augIxK_ok, augIx3_ok, augIx3K_ok, augIx4_v, ev_meth, ev_meth1, isLstD_lst, meth2_ok, ev_meth3, meth3K_ok, ev_ext, extK_ok, extK2_ok, extK3_ok, ev_extTo, extT_own, ev_dct1, dct1K_fz, ev_dct0, max3_int, ev_dc, dcK_ok, dcK2_ok, forL_nil, forL_cons, forG_ok, forB_nx, forB_ct, forB_bk, forB_rt, forB_er, pow10_2, pow10_3, pow10_4, pow10_6, pow10_7, pow10_8, pow10_9, pow10_10, pow10_12, pow10_15, pow10_17, pow10_18, pow10_20, pow10_30, pow10_40, pow10_60, is_bls, isnot_bls, ev_callV, cvK_fn, cvK2_ok, ev_word, word_erof, wOut_ret, eqX_ss, neX_ss, in_dctI, nin_dctI, ix_dctI, add_int, sub_int, iadd_int, neg_int, lt_int, le_int, gt_int, ge_int, eq_int, ne_int, eq_str, ne_str, int_bl, int_int, abs_int, len_lst, len_tup, len_scr, max2_int, min2_int, ix_l0, ix_l1, ix_l2, ix_l3, ix_l4, ix_l5, ix_l6, ix_t0, ix_t1, ix_t2, ix_t3, ix_t4, ix_t5, slice_lst, slice_scr, isi_int_int, isi_int_bool, isi_int_tuple, isi_int_list, isi_int_str, isi_tup_tuple, isi_tup_int, isi_tup_bool, isi_lst_list, isi_lst_tuple, isi_non_int, isi_str_str, isi_bl_bool, isi_bl_int, tuple_lst, tuple_tup, eq_bl, ne_bl, eq_t2, ne_t2, eq_t3, ne_t3, List.getElem?_cons_zero, List.getElem?_cons_succ, List.set_cons_zero, List.set_cons_succ, List.length_cons, List.length_nil, decide_eq_true_eq, decide_true, ne_eq, not_true_eq_false, not_false_eq_true, decide_false, Bool.not_true, Bool.not_false, Bool.not_eq_true, Bool.not_eq_false, if_true, if_false, ite_true, ite_false, Bool.true_and, Bool.and_true, Bool.false_eq_true, reduceIte, Option.map_some, OR.rs, Nat.reduceAdd, Nat.reduceLeDiff, lc1G_ok, lc1A_ok, lc1B_ok, lc1C_ok, dc1G_ok, dc1A_ok, dc1B_ok, dc1C_ok, dc1E_int, dc1E_str, ixN, Int.reduceLT, Int.reduceLE, Int.reduceToNat, Int.reduceEq, Nat.reduceEqDiff, Nat.add_zero, Int.reducePow, and_true, true_and, and_self, and_false, false_and, or_true, true_or, or_false, false_or, Bool.and_false, Bool.false_and, Bool.or_true, Bool.true_or, Bool.or_false, Bool.false_or, Int.reduceDiv, Int.reduceNeg, Int.reduceSub, Int.reduceAdd, Int.reduceMul, Int.reduceMod, Int.cast_ofNat_Int, List.length_map, $ts,*])
  | `(tactic| simp? (disch := $d) only [$ts,*]) => `(tactic| simp (disch := $d) only [ev_var, rdSl_fz, rdSl_own, rdSl_io, ev_c, bind_ok, bind_er, data_fz, data_fresh, data_slot, slD_fz, slD_own, slD_io, settle_fz, settle_fresh, settle_slot, slS_fz, slS_own, opO_v, opO_l, opO_t, opD_ok, ev_opRs, ev_bin, binK_ok, binK_er, binK2_ok, binK2_er, opD1_ok, ev_opRs1, ev_un, ev_chain, ev_ch2, ev_ch3, chK_bl, chK2_ok, ev_and, andK_bl, ev_or, orK_bl, ev_not, notK_bl, ev_if, ifK_ok, ev_anil, ev_acons, aK_ok, aK_er, aK2_ok, aK2_er, settleL_nil, settleL_cons, stK_ok, stK2_ok, dataL_nil, dataL_cons, daK_ok, daK2_ok, ev_tup, tupK_ok, tupK_er, tupK2_ok, ev_lst, lstK_ok, lstK_er, lstK2_ok, ev_b, bK_ok, bK_er, bK2_ok, erof_ret, erof_retL, erof_er, ev_call, callK_ok, callK_er, callK2_ok, ev_io, ioK_ok, ioK1_ok, ioK2_own, ioK2_io, ioK3_ok, ev_call0, ev_slice, ev_slK, pr_none, pr_some, prI_ok, prK_ok, prK2_ok, slcK_ok, ev_rev, ev_rvK, revK_tup, revK_lst, ev_tv, tvK_ok, tvK_er, ev_tt, ttK_ok, ttK_er, ttK2_ok, ttK3_ok, truth_bl, truth_int, truth_lst, truth_tup, truth_non, tbind_ok, tbind_er, ev_tand, ev_tor, ev_tnot, ev_taK, ev_toK, ev_tnK, ev_ttrue, ev_isi2, ev_isiR, isi2_int, isi2_bl, isi2_non, isi2_str, isi2_tup, isi2_lst, ev_nil, ev_bk, ev_ct, ev_seq, then_nx, then_rt, then_bk, then_ct, then_er, with_ok, with_er, ev_expr, ev_ret, ev_exK, ev_reK, ev_retN, ev_sif, sifK_ok, sifK_er, ev_asg, ev_agK, asgK_ok, ev_gN, gnK_no, gnK_fz, gnK_own, pl_fz, pl_no, pl_own, gnK_pl, gN0_fresh, gN0_fz, gN0_slot, gnS_ok, ev_gT, gtK_ok, gNs_nil, gNs_cons, gnsK_ok, ev_gL, glK_ok, ev_gIx, gixK_ok, gixK2_ok, gixK3_ok, ev_putAt, putK_own, putK_io, ev_par, parK_ok, parK_er, parK2_ok, parK3_ok, settleS_nil, settleS_fz, settleS_fresh, settleS_slot, ssK_ok, ssK2_ok, gRs_nil, gRs_fz, gRs_fresh, grK_ok, ev_aug, augK_ok, ev_auK, augK2_ok, augK3_v, ev_raise, ev_app, appK_ok, appK2_ok, appK3_ok, appK4_ok, ev_isOwnAt, ioaK_own, ioaK_io, ev_appTo, apK_own, ev_itSeq, seqK_ok, seqK_er, seqK2_lst, seqK2_tup, seqK2_scr, ev_itArgs, argK_ok, argK_er, argK2_ok, argK3_ok, fR1_ok, fR2_ok, fEnum_ok, fEnumA_lst, fEnumA_tup, fZip_lst, fZip_tup, ev_lc, lcK_ok, lcK_er, lcK2_ok, cw_nil, cw_cons, cwK_no, cwK_fz, wipeS_nil, wipeS_cons, restS_nil, restS_cons, rsK_some, ev_for, forK_ok, semFO_nx, semFO_rt, semFO_er, rtO_fz, rtO_fresh, rtO_slot, rtS_own, rtS_fz, semIoO_nx, semIoO_rt, semIoO_er, prO_ok, ev_augIx, augIx1_ok, augIx2_ok, ev_itemOf, itemK_own, itemK_io, augIxK_ok, augIx3_ok, augIx3K_ok, augIx4_v, ev_meth, ev_meth1, isLstD_lst, meth2_ok, ev_meth3, meth3K_ok, ev_ext, extK_ok, extK2_ok, extK3_ok, ev_extTo, extT_own, ev_dct1, dct1K_fz, ev_dct0, max3_int, ev_dc, dcK_ok, dcK2_ok, forL_nil, forL_cons, forG_ok, forB_nx, forB_ct, forB_bk, forB_rt, forB_er, pow10_2, pow10_3, pow10_4, pow10_6, pow10_7, pow10_8, pow10_9, pow10_10, pow10_12, pow10_15, pow10_17, pow10_18, pow10_20, pow10_30, pow10_40, pow10_60, is_bls, isnot_bls, ev_callV, cvK_fn, cvK2_ok, ev_word, word_erof, wOut_ret, eqX_ss, neX_ss, in_dctI, nin_dctI, ix_dctI, add_int, sub_int, iadd_int, neg_int, lt_int, le_int, gt_int, ge_int, eq_int, ne_int, eq_str, ne_str, int_bl, int_int, abs_int, len_lst, len_tup, len_scr, max2_int, min2_int, ix_l0, ix_l1, ix_l2, ix_l3, ix_l4, ix_l5, ix_l6, ix_t0, ix_t1, ix_t2, ix_t3, ix_t4, ix_t5, slice_lst, slice_scr, isi_int_int, isi_int_bool, isi_int_tuple, isi_int_list, isi_int_str, isi_tup_tuple, isi_tup_int, isi_tup_bool, isi_lst_list, isi_lst_tuple, isi_non_int, isi_str_str, isi_bl_bool, isi_bl_int, tuple_lst, tuple_tup, eq_bl, ne_bl, eq_t2, ne_t2, eq_t3, ne_t3, List.getElem?_cons_zero, List.getElem?_cons_succ, List.set_cons_zero, List.set_cons_succ, List.length_cons, List.length_nil, decide_eq_true_eq, decide_true, ne_eq, not_true_eq_false, not_false_eq_true, decide_false, Bool.not_true, Bool.not_false, Bool.not_eq_true, Bool.not_eq_false, if_true, if_false, ite_true, ite_false, Bool.true_and, Bool.and_true, Bool.false_eq_true, reduceIte, Option.map_some, OR.rs, Nat.reduceAdd, Nat.reduceLeDiff, lc1G_ok, lc1A_ok, lc1B_ok, lc1C_ok, dc1G_ok, dc1A_ok, dc1B_ok, dc1C_ok, dc1E_int, dc1E_str, ixN, Int.reduceLT, Int.reduceLE, Int.reduceToNat, Int.reduceEq, Nat.reduceEqDiff, Nat.add_zero, Int.reducePow, and_true, true_and, and_self, and_false, false_and, or_true, true_or, or_false, false_or, Bool.and_false, Bool.false_and, Bool.or_true, Bool.true_or, Bool.or_false, Bool.false_or, Int.reduceDiv, Int.reduceNeg, Int.reduceSub, Int.reduceAdd, Int.reduceMul, Int.reduceMod, Int.cast_ofNat_Int, List.length_map, $ts,*])
/-! the whole root -/
def isqF : Nat → Nat → Nat
  | 0, _ => 0
  | f + 1, n => if n = 0 then 0 else if (2 * isqF f (n / 4) + 1) * (2 * isqF f (n / 4) + 1) ≤ n then 2 * isqF f (n / 4) + 1 else 2 * isqF f (n / 4)
def isq (n : Nat) : Nat := isqF 40 n
theorem isqF_ok : ∀ (f n : Nat), n < 4 ^ f → isqF f n * isqF f n ≤ n ∧ n < (isqF f n + 1) * (isqF f n + 1)
  | 0, n, h => by
    have : n = 0 := by simpa using h
    subst this
    exact ⟨by decide, by decide⟩
  | f + 1, n, h => by
    unfold isqF
    by_cases h0 : n = 0
    · subst h0; simp
    rw [if_neg h0]
    have h4 : n / 4 < 4 ^ f := by rw [Nat.pow_succ] at h; omega
    obtain ⟨a, b⟩ := isqF_ok f (n / 4) h4
    generalize isqF f (n / 4) = r at a b
    have e1 : (2 * r) * (2 * r) = 4 * (r * r) := by grind
    have e2 : (2 * r + 1 + 1) * (2 * r + 1 + 1) = 4 * ((r + 1) * (r + 1)) := by grind
    by_cases hc : (2 * r + 1) * (2 * r + 1) ≤ n
    · rw [if_pos hc]
      exact ⟨hc, by rw [e2]; omega⟩
    · rw [if_neg hc]
      exact ⟨by rw [e1]; omega, by omega⟩
theorem isq_ok {n : Nat} (h : n < 1000000000000000000000000) : isq n * isq n ≤ n ∧ n < (isq n + 1) * (isq n + 1) := isqF_ok 40 n (Nat.lt_of_lt_of_le h (by decide))
theorem sq_mono {a b : Nat} (h : a * a < (b + 1) * (b + 1)) : a ≤ b := by
  by_cases z : a ≤ b
  · exact z
  · exact absurd (Nat.mul_le_mul (show b + 1 ≤ a by omega) (show b + 1 ≤ a by omega)) (by omega)
theorem isq_uniq {n r : Nat} (h : n < 1000000000000000000000000) (h1 : r * r ≤ n) (h2 : n < (r + 1) * (r + 1)) : isq n = r := by
  obtain ⟨a, b⟩ := isq_ok h
  exact Nat.le_antisymm (sq_mono (by omega)) (sq_mono (by omega))
theorem isq_sq {r : Nat} (h : r < 1000000000000) : isq (r * r) = r := by
  have := Nat.mul_le_mul (show r ≤ 999999999999 by omega) (show r ≤ 999999999999 by omega)
  exact isq_uniq (by omega) (Nat.le_refl _) (Nat.mul_lt_mul'' (by omega) (by omega))
theorem isq_le {n : Nat} (h : n < 1000000000000000000000000) : isq n ≤ n := by
  have := (isq_ok h).1
  by_cases z : isq n = 0
  · omega
  · have := Nat.le_mul_of_pos_right (isq n) (Nat.pos_of_ne_zero z)
    omega
/-- the bisecting loop -/
theorem bis_ok {t : TD} {b : SD} {n : Nat} (hn : n < 1000000000000000000) (S : Nat → Nat → Sl → List Sl)
    (te : ∀ l h s, t (S l h s) = some (.ok (decide ((1 : Int) < (h : Int) - l)) (S l h s)))
    (be : ∀ l h s, s.pl = true → l < h → h ≤ n + 1 → b (S l h s) = some (.nx (if (l + h) / 2 * ((l + h) / 2) ≤ n then S ((l + h) / 2) h (.fz (.int ((l + h) / 2 : Nat))) else S l ((l + h) / 2) (.fz (.int ((l + h) / 2 : Nat)))))) :
    ∃ s, sWhile t b (S 0 (n + 1) .no) = some (.nx (S (isq n) (isq n + 1) s)) := by
  obtain ⟨δ', e, s, rfl⟩ := while_plain (t := t) (b := b) (Q := fun δ => ∃ s, δ = S (isq n) (isq n + 1) s) (P := fun m δ => ∃ l h s, s.pl = true ∧ l < h ∧ h ≤ n + 1 ∧ l * l ≤ n ∧ n < h * h ∧ m = h - l ∧ δ = S l h s) (m := n + 1) (δ := S 0 (n + 1) .no)
    ⟨0, n + 1, .no, rfl, by omega, by omega, by omega, by have := Nat.le_mul_of_pos_right (n + 1) (show 0 < n + 1 by omega); omega, rfl, rfl⟩ (by omega) (by
    rintro m δ ⟨l, h, s, hs, h1, h2, h3, h4, rfl, rfl⟩
    by_cases hd : (1 : Int) < (h : Int) - l
    · refine .inr ?_
      have te' := te l h s
      rw [decide_eq_true hd] at te'
      by_cases hc : (l + h) / 2 * ((l + h) / 2) ≤ n
      · exact ⟨_, _, _, te', by rw [be l h s hs h1 h2, if_pos hc], by omega, _, _, _, rfl, by omega, h2, hc, h4, rfl, rfl⟩
      · exact ⟨_, _, _, te', by rw [be l h s hs h1 h2, if_neg hc], by omega, _, _, _, rfl, by omega, by omega, h3, by omega, rfl, rfl⟩
    · have te' := te l h s
      rw [decide_eq_false hd] at te'
      have : h = l + 1 := by omega
      subst this
      exact .inl ⟨_, te', s, by rw [isq_uniq (by omega) h3 h4]⟩)
  exact ⟨s, e⟩
def isS (v : Int) : Bool := decide (0 ≤ v) && decide ((isq v.toNat : Int) * isq v.toNat = v)
theorem isS_iff {v : Int} (hv : v < 1000000000000000000) : isS v = true ↔ ∃ r : Nat, (r : Int) * r = v := by
  unfold isS
  rw [Bool.and_eq_true, decide_eq_true_eq, decide_eq_true_eq]
  constructor
  · exact fun h => ⟨_, h.2⟩
  · rintro ⟨r, rfl⟩
    have e : ((r : Int) * r).toNat = r * r := by omega
    have hr : r < 1000000000 := by
      by_cases z : r < 1000000000
      · exact z
      · have := Nat.mul_le_mul (show 1000000000 ≤ r by omega) (show 1000000000 ≤ r by omega)
        omega
    rw [e, isq_sq (by omega)]
    exact ⟨by omega, rfl⟩

/-! words of errors, by the kernel -/
def strB (s : Str) (o : Option FO) : Bool := match o with
  | some (.ret (.str t)) => decide (t = s)
  | _ => false
theorem strB_ok {s : Str} {o : Option FO} (h : strB s o = true) : o = some (.ret (.str s)) := by
  unfold strB at h
  split at h
  · rw [of_decide_eq_true h]
  · cases h
theorem all1 {L : List D} {s : Str} {f : D → Option FO} (h : (L.all fun x => strB s (f x)) = true) : ∀ x ∈ L, f x = some (.ret (.str s)) := fun x hx => strB_ok (List.all_eq_true.mp h x hx)
theorem all2 {L M : List D} {s : Str} {f : D → D → Option FO} (h : (L.all fun x => M.all fun y => strB s (f x y)) = true) : ∀ x ∈ L, ∀ y ∈ M, f x y = some (.ret (.str s)) := fun x hx => all1 (List.all_eq_true.mp h x hx)
theorem all3 {L M N : List D} {s : Str} {f : D → D → D → Option FO} (h : (L.all fun x => M.all fun y => N.all fun z => strB s (f x y z)) = true) : ∀ x ∈ L, ∀ y ∈ M, ∀ z ∈ N, f x y z = some (.ret (.str s)) := fun x hx => all2 (List.all_eq_true.mp h x hx)
def blB (b : Bool) (o : Option FO) : Bool := match o with
  | some (.ret (.bl c)) => b == c
  | _ => false
theorem blB_ok {b : Bool} {o : Option FO} (h : blB b o = true) : o = some (.ret (.bl b)) := by
  unfold blB at h
  split at h
  · rename_i c
    cases b <;> cases c <;> first | rfl | cases h
  · cases h
def intB (n : Int) (o : Option FO) : Bool := match o with
  | some (.ret (.int m)) => decide (m = n)
  | _ => false
theorem intB_ok {n : Int} {o : Option FO} (h : intB n o = true) : o = some (.ret (.int n)) := by
  unfold intB at h
  split at h
  · rw [of_decide_eq_true h]
  · cases h
theorem mem_all {L : List D} {P : D → Bool} (h : L.all P = true) : ∀ v, v ∈ L → P v = true := fun v hv => List.all_eq_true.mp h v hv
/-- of a list, or something within a tuple or a list of one -/
def DL (L : List D) (d : D) : Prop := d ∈ L ∨ (∃ x, d = .tup [x]) ∨ ∃ x, d = .lst [x]
def Deep (d : D) : Prop := ((∃ x, d = .tup [x]) ∨ ∃ x, d = .lst [x]) ∧ Sh d 60 400
theorem sh_all {L : List D} {k n : Nat} (h : (L.all fun d => match shSz d k with
    | some m => decide (m ≤ n)
    | none => false) = true) : ∀ d ∈ L, Sh d k n := fun d hd => by
  have q := List.all_eq_true.mp h d hd
  split at q
  · rename_i m e
    exact ⟨m, e, of_decide_eq_true q⟩
  · cases q
/-- .. or a dict of one -/
def DK (L : List D) (d : D) : Prop := d ∈ L ∨ (∃ x, d = .tup [x]) ∨ (∃ x, d = .lst [x]) ∨ ∃ x, d = .dct [.inl 0] [x]
def One3 (d : D) : Prop := (∃ x, d = .tup [x]) ∨ (∃ x, d = .lst [x]) ∨ ∃ x, d = .dct [.inl 0] [x]
theorem sh_d1 {d : D} {k n : Nat} (h : Sh d k n) : Sh (.dct [.inl 0] [d]) (k + 1) (n + 2040) := by
  obtain ⟨m, e, l⟩ := h
  refine ⟨_, by unfold shSz; simp only [List.length_cons, List.length_nil, if_true, shKs, shK, shSzL, e]; rfl, ?_⟩
  omega
def Dp3 (d : D) : Prop := One3 d ∧ Sh d 63 100000
def DP3 (L : List D) (d : D) : Prop := d ∈ L ∨ Dp3 d
theorem DP3.dk {L : List D} {d : D} (h : DP3 L d) : DK L d := h.elim .inl fun h => .inr h.1
theorem DP3.sh {L : List D} {d : D} {n : Nat} (h : DP3 L d) (hs : ∀ d ∈ L, Sh d 63 n) (hn : 100000 ≤ n) : Sh d 63 n := h.elim (hs d) fun h => sh_le h.2 hn
theorem dp3_of {L : List D} {d z : D} (h : d ∈ L ++ [z]) (hz : Dp3 z) : DP3 L d := by
  rcases List.mem_append.mp h with h | h
  · exact .inl h
  · rw [List.mem_singleton] at h
    subst h
    exact .inr hz
theorem dp3_in {L M : List D} {d z : D} (h : d ∈ z :: M) (hz : DP3 L z) : DP3 (L ++ M) d := by
  rcases List.mem_cons.mp h with rfl | h
  · exact hz.elim (fun h => .inl (List.mem_append_left _ h)) .inr
  · exact .inl (List.mem_append_right _ h)

theorem hand_ok : HandOk sem__law_hand := by
  intro ns
  have e1 : ec__law_hand_1 [.fz (.scr (ns.map D.int)), .no, .no] = some (.ok (.fresh (((ns.take 63).map fun n => (if n < 0 then -n else n : Int)).map D.int)) [.fz (.scr (ns.map D.int)), .no, .no]) := by
    unfold ec__law_hand_1
    rw [List.map_map]
    refine ec_map D.int _ (ns.take 63) (δ1 := [.fz (.scr (ns.map D.int)), .no, .no]) ?_ (by simp; omega) (by simp? only []) (fun n hn => ?_) (by simp? only [])
    · simp? only [cut_take (n := 63) (by decide)]
      rw [← List.map_take]
    · simp? only [ev_lcOne]
      rfl
  rw [q__law_hand, sd__law_hand]
  simp? (disch := omega) only [mul_l, mul_r, div_int, mod_int, pow_int, e1, List.length_map]
  exact ⟨_, rfl, _, _, _, _, _, rfl, by omega, by omega, fun x hx => by
    obtain ⟨y, _, rfl⟩ := List.mem_map.mp hx
    split <;> omega⟩

theorem root_ok {n : Nat} (hn : n < 1000000000000000000) : sem_whole_square_root [.int n] = some (.ret (.int (isq n))) := by
  obtain ⟨s, e⟩ := bis_ok (n := n) hn (fun l h s => [.fz (.int n), .fz (.int l), .fz (.int h), s]) (t := (tVal (eBin gtD (eBin subD (eVar 2) (eVar 1)) (eC (.int 1))))) (b := (sSeq (sAsg (gN 3) (eBin divD (eBin addD (eVar 1) (eVar 2)) (eC (.int 2))))
   (sAsg (gT [1, 2]) (eIf (tVal (eBin leD (eBin mulD (eVar 3) (eVar 3)) (eVar 0))) (eTup (aCons (eVar 3) (aCons (eVar 2) aNil))) (eTup (aCons (eVar 1) (aCons (eVar 3) aNil))))))) (fun l h s => by simp? (disch := first | assumption | omega) only [mul_l, mul_r, div_int, mod_int, pow_int]) (fun l h s hs h1 h2 => by
    have e0 : ((l : Int) + h) / 2 = ((l + h) / 2 : Nat) := by omega
    have b1 : (((l + h) / 2 : Nat) : Int) < 18446744073709551616 := by omega
    have b2 : -18446744073709551616 < (((l + h) / 2 : Nat) : Int) := by omega
    by_cases hc : (l + h) / 2 * ((l + h) / 2) ≤ n
    · have hc' : (((l + h) / 2 : Nat) : Int) * ((l + h) / 2 : Nat) ≤ n := by exact_mod_cast hc
      rw [if_pos hc]
      simp? (disch := first | assumption | omega) only [mul_l, mul_r, div_int, mod_int, pow_int, hs, e0, mul_l ⟨b2, b1⟩, decide_eq_true hc']
    · have hc' : ¬ (((l + h) / 2 : Nat) : Int) * ((l + h) / 2 : Nat) ≤ n := by exact_mod_cast hc
      rw [if_neg hc]
      simp? (disch := first | assumption | omega) only [mul_l, mul_r, div_int, mod_int, pow_int, hs, e0, mul_l ⟨b2, b1⟩, decide_eq_false hc'])
  rw [q_whole_square_root, sd_whole_square_root]
  unfold lp_whole_square_root_1
  have e : sWhile _ _ [.fz (.int n), .fz (.int 0), .fz (.int ((n : Int) + 1)), .no] = _ := e
  simp? (disch := first | assumption | omega) only [mul_l, mul_r, div_int, mod_int, pow_int, e]

theorem is_integer_int {n : Int} : sem_is_integer [.int n] = some (.ret (.bl true)) := by
  rw [q_is_integer, sd_is_integer]
  simp? only []

theorem is_within_ok {n lo hi : Int} (h1 : lo ≤ n) (h2 : n ≤ hi) : sem_is_within [.int n, .int lo, .int hi] = some (.ret (.bl true)) := by
  rw [q_is_within, sd_is_within]
  simp? only [is_integer_int, h1, h2]

theorem check_size_ok {n : Int} (h : -1000 ≤ n ∧ n ≤ 1000) (h0 : n ≠ 0) : sem_check_size [.int n] = some (.ret .non) := by
  rw [q_check_size, sd_check_size]
  simp? (disch := first | assumption | omega) only [mul_l, mul_r, div_int, mod_int, pow_int, is_within_ok h.1 h.2, decide_eq_false h0]

theorem draw_gen (h : List D) (m : Int) (H : Hand h) (m0 : 0 < m) (dv : ∀ i : Int, divD (.int i) (.int m) = some (.v (.int (i / m)))) : ∃ r h', sem__law_draw [.lst h, .int m] = some (.ret (.int r), h') ∧ 0 ≤ r ∧ r < m ∧ Hand h' := by
  obtain ⟨cells, p, b, a, c, rfl, hp, hb, hc⟩ := H
  rw [q__law_draw, sd__law_draw]
  by_cases h1 : b = 0 ∧ p < cells.length
  · obtain ⟨rfl, h1⟩ := h1
    have e1 : atI (cells.map D.int) p = some (.int (cells[p.toNat]'(by omega))) := by
      rw [atI_pos hp (by simpa using h1)]
      simp
    have hx : 0 ≤ cells[p.toNat]'(by omega) := hc _ (by simp)
    generalize cells[p.toNat]'(by omega) = x at e1 hx
    by_cases h2 : 1000000000000000000 ≤ x
    · have h3 : 0 < x := by omega
      simp? (disch := first | omega | assumption) only [mul_l, mul_r, div_int, mod_int, pow_int, ix_lst e1, h1, h2, h3, dv]
      exact ⟨_, _, rfl, Int.emod_nonneg _ (by omega), Int.emod_lt_of_pos _ m0, cells, _, _, _, _, rfl, by omega, Int.ediv_nonneg hx (by omega), hc⟩
    · simp? (disch := first | omega | assumption) only [mul_l, mul_r, div_int, mod_int, pow_int, ix_lst e1, h1, h2, Int.lt_irrefl]
      exact ⟨_, _, rfl, Int.emod_nonneg _ (by omega), Int.emod_lt_of_pos _ m0, cells, _, _, _, _, rfl, by omega, by omega, hc⟩
  · by_cases h2 : 0 < b
    · have h3 : b ≠ 0 := by omega
      simp? (disch := first | omega | assumption) only [mul_l, mul_r, div_int, mod_int, pow_int, h2, h3, dv]
      exact ⟨_, _, rfl, Int.emod_nonneg _ (by omega), Int.emod_lt_of_pos _ m0, cells, _, _, _, _, rfl, by omega, Int.ediv_nonneg hb (by omega), hc⟩
    · have h3 : b = 0 := by omega
      subst h3
      have h1 : ¬ p < cells.length := fun z => h1 ⟨rfl, z⟩
      simp? (disch := first | omega | assumption) only [mul_l, mul_r, div_int, mod_int, pow_int, h1, Int.lt_irrefl]
      exact ⟨_, _, rfl, Int.emod_nonneg _ (by omega), Int.emod_lt_of_pos _ m0, cells, _, _, _, _, rfl, by omega, by omega, hc⟩
theorem draw_ok : DrawOk sem__law_draw := fun h m H m0 m1 => draw_gen h m H m0 fun i => div_int ⟨m0, m1⟩
theorem div_wide {i j : Int} (h : 0 < j) (h2 : j.natAbs < 2 ^ 8000) : divD (.int i) (.int j) = some (.v (.int (i / j))) := by
  unfold divD
  dsimp only
  refine if_pos ?_
  unfold divC
  rw [Bool.and_eq_true, decide_eq_true_eq, decide_eq_true_eq]
  refine ⟨h, ?_⟩
  have := (Nat.log2_lt (show j.natAbs ≠ 0 by omega)).mpr h2
  omega
theorem draw_big (h : List D) (m : Int) (H : Hand h) (m0 : 0 < m) (m1 : m.natAbs < 2 ^ 8000) : ∃ r h', sem__law_draw [.lst h, .int m] = some (.ret (.int r), h') ∧ 0 ≤ r ∧ r < m ∧ Hand h' := draw_gen h m H m0 fun i => div_wide m0 m1

theorem any_ok {h : List D} {ds : List D} (H : Hand h) (h0 : 0 < ds.length) (h1 : ds.length < 1000000) : ∃ (i : Nat) (hi : i < ds.length) (h' : List D), sem__law_any [.lst h, .lst ds] = some (.ret ds[i], h') ∧ Hand h' := by
  obtain ⟨r, g, e, a, b, H1⟩ := draw_ok h (ds.length : Int) H (by omega) (by omega)
  obtain ⟨i, rfl⟩ := Int.eq_ofNat_of_zero_le a
  have hi : i < ds.length := by omega
  refine ⟨i, hi, g, ?_, H1⟩
  rw [q__law_any, sd__law_any]
  simp? only [e, ix_lst (ixk (List.getElem?_eq_getElem hi))]
theorem any_mem {h : List D} {ds : List D} (H : Hand h) (h0 : 0 < ds.length) (h1 : ds.length < 1000000) : ∃ d h', sem__law_any [.lst h, .lst ds] = some (.ret d, h') ∧ d ∈ ds ∧ Hand h' := by
  obtain ⟨i, hi, h', e, H'⟩ := any_ok H h0 h1
  exact ⟨_, h', e, List.getElem_mem hi, H'⟩

def One (d : D) : Prop := (∃ x, d = .tup [x]) ∨ ∃ x, d = .lst [x]
def Dp (d : D) : Prop := One d ∧ Sh d 63 204 ∧ okEq d 63 = true
def DP (L : List D) (d : D) : Prop := d ∈ L ∨ Dp d
theorem DP.dl {L : List D} {d : D} (h : DP L d) : DL L d := h.elim .inl fun h => .inr h.1
theorem DP.sh {L : List D} {d : D} {n : Nat} (h : DP L d) (hs : ∀ d ∈ L, Sh d 63 n) (hn : 204 ≤ n) : Sh d 63 n := h.elim (hs d) fun h => sh_le h.2.1 hn
theorem dp_of {L : List D} {d z : D} (h : d ∈ L ++ [z]) (hz : Dp z) : DP L d := by
  rcases List.mem_append.mp h with h | h
  · exact .inl h
  · rw [List.mem_singleton] at h
    subst h
    exact .inr hz
theorem deep_ok {h : List D} (H : Hand h) : ∃ o rr z h', sem__law_deep [.lst h] = some (o, h') ∧ (∀ δ, ERofF (some o) δ = some (.ok rr δ)) ∧ (∀ δ, rr.settle δ = some (z, δ)) ∧ (∀ δ, rr.data δ = some z) ∧ Dp z ∧ Hand h' := by
  obtain ⟨r, h1, e1, a, b, H1⟩ := draw_ok h 40 H (by decide) (by decide)
  obtain ⟨r, rfl⟩ := Int.eq_ofNat_of_zero_le a
  obtain ⟨δ', e2, h2, d, s1, s, H2, h1d, hd, hS, hs, rfl⟩ := forR_plain (g := gN 2) (b := sAsg (gN 1) (eIf (tVal (eBin (eqX false) (eCallIo sem__law_draw (aCons (eVar 0) (aCons (eC (.int 2)) aNil))) (eC (.int 0)))) (eTup (aCons (eVar 1) aNil)) (eLst (aCons (eVar 1) aNil)))) (lo := 0) (n := 1 + r)
    (P := fun i δ => ∃ h d s1 s, Hand h ∧ (s1 = .fz d ∨ ∃ ds, s1 = .own ds ∧ d = .lst ds) ∧ (0 < i → One d) ∧ (∀ k, i ≤ k → Sh d k (4 + 5 * i) ∧ okEq d k = true) ∧ s.pl = true ∧ δ = [.io h, s1, s]) (δ := [.io h1, .fz .non, .no]) ⟨h1, .non, _, .no, H1, .inl rfl, by omega, fun k _ => ⟨sh_non, by simp [okEq]⟩, rfl, rfl⟩ (by
      rintro i hi δ ⟨h, d, s1, s, H, h1d, hd, hS, hs, rfl⟩
      obtain ⟨r, h', e, a, b, H'⟩ := draw_ok h 2 H (by decide) (by decide)
      have hr : r = 0 ∨ r = 1 := by omega
      have hT : ∀ k, i + 1 ≤ k → (Sh (.tup [d]) k (4 + 5 * (i + 1)) ∧ okEq (.tup [d]) k = true) ∧ Sh (.lst [d]) k (4 + 5 * (i + 1)) ∧ okEq (.lst [d]) k = true := fun k hk => by
        obtain ⟨k, rfl⟩ : ∃ k', k = k' + 1 := ⟨k - 1, by omega⟩
        have ok := (hS k (by omega)).2
        exact ⟨⟨sh_le (sh_tup (shL_cons (hS k (by omega)).1 shL_nil)) (by omega), by simp [okEq, okEqL, ok]⟩, sh_le (sh_lst (shL_cons (hS k (by omega)).1 shL_nil)) (by omega), by simp [okEq, okEqL, ok]⟩
      rcases hr with rfl | rfl
      · refine ⟨[.io h, s1, .fz (.int (0 + (i : Nat)))], [.io h', .fz (.tup [d]), .fz (.int (0 + (i : Nat)))], by simp? (disch := first | assumption | omega) only [mul_l, mul_r, div_int, mod_int, pow_int, hs], ?_, h', .tup [d], _, _, H', .inl rfl, fun _ => .inl ⟨d, rfl⟩, fun k hk => (hT k hk).1, rfl, rfl⟩
        rcases h1d with rfl | ⟨ds, rfl, rfl⟩
        · simp? (disch := first | assumption | omega) only [mul_l, mul_r, div_int, mod_int, pow_int, e]
        · simp? (disch := first | assumption | omega) only [mul_l, mul_r, div_int, mod_int, pow_int, e]
      · refine ⟨[.io h, s1, .fz (.int (0 + (i : Nat)))], [.io h', .own [d], .fz (.int (0 + (i : Nat)))], by simp? (disch := first | assumption | omega) only [mul_l, mul_r, div_int, mod_int, pow_int, hs], ?_, h', .lst [d], _, _, H', .inr ⟨_, rfl, rfl⟩, fun _ => .inr ⟨d, rfl⟩, fun k hk => (hT k hk).2, rfl, rfl⟩
        rcases h1d with rfl | ⟨ds, rfl, rfl⟩
        · simp? (disch := first | assumption | omega) only [mul_l, mul_r, div_int, mod_int, pow_int, e]
        · simp? (disch := first | assumption | omega) only [mul_l, mul_r, div_int, mod_int, pow_int, e])
  have e0 : ((1 : Int) + (r : Nat)).toNat = 1 + r := by omega
  have hz : Dp d := ⟨hd (by omega), sh_le (hS 63 (by omega)).1 (by omega), (hS 63 (by omega)).2⟩
  rcases h1d with rfl | ⟨ds, rfl, rfl⟩
  · refine ⟨.ret d, .fz d, d, h2, ?_, fun _ => rfl, fun _ => rfl, fun _ => rfl, hz, H2⟩
    rw [q__law_deep, sd__law_deep, lp__law_deep_1]
    simp? (disch := first | assumption | omega) only [mul_l, mul_r, div_int, mod_int, pow_int, e1, fR1_ok, e0, e2]
  · refine ⟨.retL ds, .fresh ds, .lst ds, h2, ?_, fun _ => rfl, fun _ => rfl, fun _ => rfl, hz, H2⟩
    rw [q__law_deep, sd__law_deep, lp__law_deep_1]
    simp? (disch := first | assumption | omega) only [mul_l, mul_r, div_int, mod_int, pow_int, e1, fR1_ok, e0, e2]

theorem check_number_ok {n lo hi : Int} (h1 : lo ≤ n) (h2 : n ≤ hi) : sem_check_number [.int n, .int lo, .int hi] = some (.ret .non) := by
  rw [q_check_number, sd_check_number]
  simp? only [is_within_ok h1 h2]

def xfD (d n : Int) (y : Nat) : D := if isS (n + d * y * y) then .int (isq (n + d * y * y).toNat) else .non
theorem x_for_ok {d n : Int} {y : Nat} (hd : 0 < d ∧ d ≤ 10000) (hn : -1000 ≤ n ∧ n ≤ 1000) (hy : y ≤ 100000) : sem_x_for [.int d, .int n, .int y] = some (.ret (xfD d n y)) := by
  have b1 : 0 ≤ d * y ∧ d * y ≤ 1000000000 := by
    have := Int.mul_nonneg (show 0 ≤ d by omega) (show (0 : Int) ≤ y by omega)
    have h2 := Int.mul_le_mul hd.2 (show (y : Int) ≤ 100000 by omega) (by omega) (by omega)
    omega
  have b2 : 0 ≤ d * y * y ∧ d * y * y ≤ 100000000000000 := by
    have := Int.mul_nonneg b1.1 (show (0 : Int) ≤ y by omega)
    have h2 := Int.mul_le_mul b1.2 (show (y : Int) ≤ 100000 by omega) (by omega) (by omega)
    omega
  rw [q_x_for, sd_x_for]
  unfold xfD isS
  generalize hv : n + d * y * y = v
  have bv : -1000 ≤ v ∧ v ≤ 100000000001000 := by omega
  by_cases h : v < 0
  · have h' : ¬ 0 ≤ v := by omega
    simp? (disch := first | assumption | omega) only [mul_l, mul_r, div_int, mod_int, pow_int, mul_l (i := d) (by omega), mul_l (i := d * y) (by omega), hv, decide_eq_true h, decide_eq_false h']
  · obtain ⟨m, rfl⟩ := Int.eq_ofNat_of_zero_le (show 0 ≤ v by omega)
    have := isq_le (n := m) (by omega)
    have r := root_ok (n := m) (by omega)
    have h' : (0 : Int) ≤ (m : Int) := by omega
    by_cases hz : (isq m : Int) * isq m = m
    · simp? (disch := first | assumption | omega) only [mul_l, mul_r, div_int, mod_int, pow_int, mul_l (i := d) (by omega), mul_l (i := d * y) (by omega), hv, decide_eq_false h, decide_eq_true h', r, mul_l (i := (isq m : Int)) (by omega), decide_eq_true hz, Int.toNat_natCast]
    · simp? (disch := first | assumption | omega) only [mul_l, mul_r, div_int, mod_int, pow_int, mul_l (i := d) (by omega), mul_l (i := d * y) (by omega), hv, decide_eq_false h, decide_eq_true h', r, mul_l (i := (isq m : Int)) (by omega), decide_eq_false hz, Int.toNat_natCast]

section
variable {d n : Int}
def Wk (d n : Int) (k : Nat) : List (Int × Int) := ((List.range k).filter fun y : Nat => isS (n + d * y * y)).map fun y : Nat => ((isq (n + d * y * y).toNat : Int), (y : Int))
def W (d n : Int) (m : Nat) : List (Int × Int) := Wk d n (m + 1)
theorem Wk_succ {k : Nat} : Wk d n (k + 1) = Wk d n k ++ (if isS (n + d * k * k) then [((isq (n + d * k * k).toNat : Int), (k : Int))] else []) := by
  unfold Wk
  rw [List.range_succ, List.filter_append, List.map_append]
  cases h : isS (n + d * k * k) <;> simp [h]
theorem dyy {y : Nat} {m : Nat} (hd : 0 < d ∧ d ≤ 10000) (hy : y ≤ m) (hm : m ≤ 100000) : (0 ≤ d * y ∧ d * y ≤ 1000000000) ∧ 0 ≤ d * y * y ∧ d * y * y ≤ 100000000000000 := by
  have b1 : 0 ≤ d * y ∧ d * y ≤ 1000000000 := by
    have := Int.mul_nonneg (show 0 ≤ d by omega) (show (0 : Int) ≤ y by omega)
    have h2 := Int.mul_le_mul hd.2 (show (y : Int) ≤ 100000 by omega) (by omega) (by omega)
    omega
  have b2 : 0 ≤ d * y * y ∧ d * y * y ≤ 100000000000000 := by
    have := Int.mul_nonneg b1.1 (show (0 : Int) ≤ y by omega)
    have h2 := Int.mul_le_mul b1.2 (show (y : Int) ≤ 100000 by omega) (by omega) (by omega)
    omega
  exact ⟨b1, b2⟩
theorem W_mem {m : Nat} {a b : Int} (hd : 0 < d ∧ d ≤ 10000) (hn : -1000 ≤ n ∧ n ≤ 1000) (hm : m ≤ 100000) : (a, b) ∈ W d n m ↔ 0 ≤ a ∧ 0 ≤ b ∧ b ≤ m ∧ a * a = n + d * b * b := by
  unfold W Wk
  constructor
  · intro h
    obtain ⟨y, hy, e⟩ := List.mem_map.mp h
    obtain ⟨h1, h2⟩ := List.mem_filter.mp hy
    have h1 := List.mem_range.mp h1
    cases e
    unfold isS at h2
    rw [Bool.and_eq_true, decide_eq_true_eq, decide_eq_true_eq] at h2
    exact ⟨by omega, by omega, by omega, h2.2⟩
  · rintro ⟨h1, h2, h3, h4⟩
    obtain ⟨y, rfl⟩ := Int.eq_ofNat_of_zero_le h2
    obtain ⟨r, rfl⟩ := Int.eq_ofNat_of_zero_le h1
    have q := dyy (y := y) hd (m := m) (by omega) hm
    have is := (isS_iff (v := n + d * y * y) (by omega)).mpr ⟨r, h4⟩
    refine List.mem_map.mpr ⟨y, List.mem_filter.mpr ⟨List.mem_range.mpr (by omega), is⟩, ?_⟩
    rw [← h4]
    have e : ((r : Int) * r).toNat = r * r := by omega
    have hr : r < 1000000000 := by
      by_cases z : r < 1000000000
      · exact z
      · have := Nat.mul_le_mul (show 1000000000 ≤ r by omega) (show 1000000000 ≤ r by omega)
        have : (r * r : Nat) = (r : Int) * r := by omega
        omega
    rw [e, isq_sq (by omega)]
theorem W_pw {k : Nat} (hd : 0 < d ∧ d ≤ 10000) : (Wk d n k).Pairwise (fun p q => leP p q = true) := by
  unfold Wk
  refine List.pairwise_map.mpr ((List.pairwise_filter.mpr ?_))
  refine List.pairwise_lt_range.imp ?_
  intro y z hyz h1 h2
  unfold isS at h1 h2
  rw [Bool.and_eq_true, decide_eq_true_eq, decide_eq_true_eq] at h1 h2
  have hlt : d * y * y < d * z * z := by
    have q1 : (y : Int) * y < (z : Int) * z := by
      have := Nat.mul_lt_mul'' hyz hyz
      omega
    have := Int.mul_lt_mul_of_pos_left q1 hd.1
    rw [Int.mul_assoc, Int.mul_assoc]
    exact this
  have e1 := h1.2
  have e2 := h2.2
  generalize (isq (n + d * y * y).toNat) = a at e1
  generalize (isq (n + d * z * z).toNat) = b at e2
  have : a < b := by
    by_cases w : a < b
    · exact w
    · have := Nat.mul_le_mul (show b ≤ a by omega) (show b ≤ a by omega)
      omega
  unfold leP
  rw [decide_eq_true_eq]
  exact .inl (by show (a : Int) < b; omega)
theorem ways_ok {m : Nat} (cs : sem_check_surd [.int d] = some (.ret .non)) (hd : 0 < d ∧ d ≤ 10000) (hn : -1000 ≤ n ∧ n ≤ 1000) (h0 : n ≠ 0) (hm : m ≤ 10000) : sem_ways_of [.int d, .int n, .int m] = some (.ret (.tup ((W d n m).map pD))) := by
  have t : ((m : Int) + 1 - 0).toNat = m + 1 := by omega
  have t' : ((m : Int) + 1).toNat = m + 1 := by omega
  have e1 : ec_ways_of_1 [.fz (.int d), .fz (.int n), .fz (.int m), .no, .no, .no] = some (.ok (.fresh ((List.range (m + 1)).map fun y : Nat => D.tup [xfD d n y, .int y])) [.fz (.int d), .fz (.int n), .fz (.int m), .no, .no, .no]) := by
    unfold ec_ways_of_1
    refine ec_range (lo := 0) (n := m + 1) (δ1 := [.fz (.int d), .fz (.int n), .fz (.int m), .no, .no, .no]) (fun y : Nat => D.tup [xfD d n y, .int y]) (by simp? (disch := first | assumption | omega) only [mul_l, mul_r, div_int, mod_int, pow_int, fR1_ok, t, t']) (by omega) (by simp? only []) (fun y hy => ?_) (by simp? only [])
    have x := x_for_ok (y := y) hd hn (by omega)
    simp? (disch := first | assumption | omega) only [mul_l, mul_r, div_int, mod_int, pow_int, ev_lcOne, Int.zero_add, x]
  have ew : (W d n m).map pD = ((List.range (m + 1)).filter fun y : Nat => isS (n + d * y * y)).map fun y : Nat => D.tup [.int (isq (n + d * y * y).toNat), .int y] := by
    unfold W Wk
    rw [List.map_map]
    rfl
  have e2 : ec_ways_of_2 [.fz (.int d), .fz (.int n), .fz (.int m), .own ((List.range (m + 1)).map fun y : Nat => D.tup [xfD d n y, .int y]), .no, .no] = some (.ok (.fresh ((W d n m).map pD)) [.fz (.int d), .fz (.int n), .fz (.int m), .fz (.lst ((List.range (m + 1)).map fun y : Nat => D.tup [xfD d n y, .int y])), .no, .no]) := by
    rw [ew]
    unfold ec_ways_of_2
    refine ec_filt (δ1 := [.fz (.int d), .fz (.int n), .fz (.int m), .fz (.lst ((List.range (m + 1)).map fun y : Nat => D.tup [xfD d n y, .int y])), .no, .no]) (fun y : Nat => D.tup [xfD d n y, .int y]) (fun y : Nat => D.tup [.int (isq (n + d * y * y).toNat), .int y]) _ (List.range (m + 1)) (by simp? (disch := first | assumption | omega) only [mul_l, mul_r, div_int, mod_int, pow_int]) (by rw [List.length_range]; omega) (by simp? only []) (fun y hy => ?_) (by simp? only [])
    unfold xfD
    have i1 : isND true D.non D.non = some (.v (.bl false)) := rfl
    have i2 : ∀ j : Int, isND true (D.int j) D.non = some (.v (.bl true)) := fun _ => rfl
    cases hb : isS (n + d * y * y) <;> simp? (disch := first | assumption | omega) only [mul_l, mul_r, div_int, mod_int, pow_int, ev_lcOne, i1, i2]
  rw [q_ways_of, sd_ways_of]
  simp? (disch := first | assumption | omega) only [mul_l, mul_r, div_int, mod_int, pow_int, cs, check_size_ok hn h0, check_number_ok (n := (m : Int)) (lo := 0) (hi := 10000) (by omega) (by omega), e1, e2, sorted_pairs, sortP_id (W_pw (k := m + 1) (n := n) hd)]
  unfold W
  rw [sortP_id (W_pw (k := m + 1) (n := n) hd)]
end
theorem brah {d a b x y n s : Int} (h1 : a * a = n + d * b * b) (h2 : x * x - d * y * y = s) : (a * x + d * b * y) * (a * x + d * b * y) - d * (a * y + b * x) * (a * y + b * x) = n * s := by
  have h1 : a * a - d * b * b = n := by omega
  subst h1 h2
  grind
theorem sh_pairs {ps : List (Int × Int)} (h : ∀ p ∈ ps, (-18446744073709551616 < p.1 ∧ p.1 < 18446744073709551616) ∧ (-18446744073709551616 < p.2 ∧ p.2 < 18446744073709551616)) (hl : ps.length ≤ 2000) : reprD [.tup (ps.map pD)] = some (.v (.str (shw (.tup (ps.map pD))))) := by
  obtain ⟨m, e, l⟩ := shL_all (k := 63) (a := 4010) (ds := ps.map pD) (fun d hd => by
    obtain ⟨p, hp, rfl⟩ := List.mem_map.mp hd
    obtain ⟨h1, h2⟩ := h p hp
    unfold pD
    have q1 := shSz_int (k := 0) (small_1920 h1)
    have q2 := shSz_int (k := 0) (small_1920 h2)
    simp only [shSz] at q1 q2
    exact ⟨4007, by simp only [shSz, shSzL, q1, q2]; rfl, by omega⟩)
  exact repr_ok (n := m + 3) (by unfold shSz; dsimp only; rw [e]; rfl) (by rw [List.length_map] at l; omega)

def dL : List Int := [2, 3, 5, 6, 7, 8, 10, 11, 12, 13, 14, 15, 17, 18, 19, 20, 21, 23, 24, 26, 29, 34, 37, 41, 46, 53]
theorem chk_1 : dL.all (fun d => match sem_unit [.int d], sem_check_surd [.int d] with
  | some (.ret (.tup [.int x, .int y])), some (.ret .non) => decide (x * x - d * y * y = 1 ∧ (0 < x ∧ x < 1000000000) ∧ (0 < y ∧ y < 1000000000))
  | _, _ => false) = true := by decide +kernel
theorem dL_bd : ∀ d ∈ dL, 2 ≤ d ∧ d ≤ 53 := by decide
theorem unit_ok {d : Int} (hd : d ∈ dL) : sem_check_surd [.int d] = some (.ret .non) ∧ ∃ x y, sem_unit [.int d] = some (.ret (.tup [.int x, .int y])) ∧ x * x - d * y * y = 1 ∧ (0 < x ∧ x < 1000000000) ∧ (0 < y ∧ y < 1000000000) := by
  have q := List.all_eq_true.mp chk_1 d hd
  split at q
  · rename_i x y e1 e2
    exact ⟨e2, x, y, e1, of_decide_eq_true q⟩
  · cases q
theorem surd_ok {h : List D} (H : Hand h) : ∃ d h', sem__law_surd [.lst h] = some (.ret (.int d), h') ∧ d ∈ dL ∧ Hand h' := by
  obtain ⟨m, h1, e1, hm, H1⟩ := any_mem (ds := dL.map D.int) H (by decide) (by decide)
  obtain ⟨d, hd, rfl⟩ := List.mem_map.mp hm
  refine ⟨d, h1, ?_, hd, H1⟩
  have e1 : sem__law_any [.lst h, .lst [.int 2, .int 3, .int 5, .int 6, .int 7, .int 8, .int 10, .int 11, .int 12, .int 13, .int 14, .int 15, .int 17, .int 18, .int 19, .int 20, .int 21, .int 23, .int 24, .int 26, .int 29, .int 34, .int 37, .int 41, .int 46, .int 53]] = _ := e1
  rw [q__law_surd, sd__law_surd]
  simp? (disch := first | assumption | omega) only [mul_l, mul_r, div_int, mod_int, pow_int, e1]

--@ isq
--@ wd
--+ surd1
theorem mul_s {i j : Int} (hi : -1000000000000000000000000000000000000000000000000000000000000 < i ∧ i < 1000000000000000000000000000000000000000000000000000000000000) (hj : -1000000000000000000000000000000000000000000000000000000000000 < j ∧ j < 1000000000000000000000000000000000000000000000000000000000000) : mulD (.int i) (.int j) = some (.v (.int (i * j))) := by
  have k : (1000000000000000000000000000000000000000000000000000000000000 : Nat) ≤ 2 ^ 400000 := Nat.le_trans (m := 2 ^ 200) (by decide) (Nat.pow_le_pow_right (by decide) (by decide))
  exact mul_big (Nat.lt_of_lt_of_le (by omega) k) (Nat.lt_of_lt_of_le (by omega) k)
theorem dm {d b M : Int} (hd : 2 ≤ d ∧ d ≤ 53) (hb : -M < b ∧ b < M) : -(53 * M) < d * b ∧ d * b < 53 * M := by
  have k1 := Int.mul_le_mul_of_nonneg_left (show b ≤ M - 1 by omega) (show 0 ≤ d by omega)
  have k2 := Int.mul_le_mul_of_nonneg_left (show -(M - 1) ≤ b by omega) (show 0 ≤ d by omega)
  have k3 := Int.mul_le_mul_of_nonneg_right hd.2 (show 0 ≤ M - 1 by omega)
  rw [Int.mul_neg] at k2
  omega
def alB (d n a b c e : Int) : Bool := decide (n ∣ a * c - d * b * e) && decide (n ∣ a * e - b * c)
theorem alB_symm {d n a b c e : Int} : alB d n c e a b = alB d n a b c e := by
  unfold alB
  rw [show c * a - d * e * b = a * c - d * b * e by grind, show c * b - e * a = -(a * e - b * c) by grind]
  simp only [Int.dvd_neg]
theorem mod_dv {t n : Int} (h : n ≠ 0) : ∃ r, modD (.int t) (.int n) = some (.v (.int r)) ∧ (r = 0 ↔ n ∣ t) := by
  unfold modD
  by_cases h1 : 0 < n
  · exact ⟨t % n, by simp [h1], (Int.dvd_iff_emod_eq_zero).symm⟩
  · have h2 : n < 0 := by omega
    exact ⟨t.fmod n, by simp [h1, h2], ⟨fun z => Int.dvd_of_fmod_eq_zero z, fun z => Int.fmod_eq_zero_of_dvd z⟩⟩
abbrev Bd40 (a : Int) : Prop := -10000000000000000000000000000000000000000 < a ∧ a < 10000000000000000000000000000000000000000
theorem dm40 {d b : Int} (hd : 2 ≤ d ∧ d ≤ 53) (hb : Bd40 b) : -1000000000000000000000000000000000000000000000000000000000000 < d * b ∧ d * b < 1000000000000000000000000000000000000000000000000000000000000 := by
  have := dm hd hb
  omega
theorem b60 {b : Int} (hb : Bd40 b) : -1000000000000000000000000000000000000000000000000000000000000 < b ∧ b < 1000000000000000000000000000000000000000000000000000000000000 := by
  have h1 := hb.1
  have h2 := hb.2
  omega
section
variable {d n a b c e : Int}
theorem are_alike_ok (hd : 2 ≤ d ∧ d ≤ 53) (hn : n ≠ 0) (ha : Bd40 a) (hb : Bd40 b) (hc : Bd40 c) (he : Bd40 e) : sem_are_alike [.int d, .int n, .tup [.int a, .int b], .tup [.int c, .int e]] = some (.ret (.bl (alB d n a b c e))) := by
  obtain ⟨r1, m1, i1⟩ := mod_dv (t := a * c - d * b * e) hn
  obtain ⟨r2, m2, i2⟩ := mod_dv (t := a * e - b * c) hn
  rw [q_are_alike, sd_are_alike]
  unfold alB
  have d1 : decide (n ∣ a * c - d * b * e) = decide (r1 = 0) := decide_eq_decide.mpr i1.symm
  have d2 : decide (n ∣ a * e - b * c) = decide (r2 = 0) := decide_eq_decide.mpr i2.symm
  rw [d1, d2]
  by_cases z : r1 = 0
  · simp? (disch := first | assumption | omega) only [mul_l, mul_r, div_int, mod_int, pow_int, mul_s (b60 ha) (b60 hc), mul_s (b60 ha) (b60 he), mul_s (b60 hb) (b60 hc), mul_l (i := d) (j := b) (by omega), mul_s (dm40 hd hb) (b60 he), m1, m2, z]
  · simp? (disch := first | assumption | omega) only [mul_l, mul_r, div_int, mod_int, pow_int, mul_s (b60 ha) (b60 hc), mul_s (b60 ha) (b60 he), mul_s (b60 hb) (b60 hc), mul_l (i := d) (j := b) (by omega), mul_s (dm40 hd hb) (b60 he), m1, m2, z]
theorem law_same_ok (hd : 2 ≤ d ∧ d ≤ 53) (hn : n ≠ 0) (ha : Bd40 a) (hb : Bd40 b) (hc : Bd40 c) (he : Bd40 e) : sem__law_is_same [.int d, .int n, .tup [.int a, .int b], .tup [.int c, .int e]] = some (.ret (.bl (alB d n a b c e))) := by
  have hN : (if n < 0 then -n else n) ≠ 0 := by split <;> omega
  have hN' : ∀ t : Int, (if n < 0 then -n else n) ∣ t ↔ n ∣ t := fun t => by
    split
    · exact Int.neg_dvd
    · exact Iff.rfl
  obtain ⟨r1, m1, i1⟩ := mod_dv (t := a * c - d * b * e) hN
  obtain ⟨r2, m2, i2⟩ := mod_dv (t := a * e - b * c) hN
  rw [hN'] at i1 i2
  rw [q__law_is_same, sd__law_is_same]
  unfold alB
  have d1 : decide (n ∣ a * c - d * b * e) = decide (r1 = 0) := decide_eq_decide.mpr i1.symm
  have d2 : decide (n ∣ a * e - b * c) = decide (r2 = 0) := decide_eq_decide.mpr i2.symm
  rw [d1, d2]
  by_cases z : r1 = 0
  · simp? (disch := first | assumption | omega) only [mul_l, mul_r, div_int, mod_int, pow_int, mul_s (b60 ha) (b60 hc), mul_s (b60 ha) (b60 he), mul_s (b60 hb) (b60 hc), mul_l (i := d) (j := b) (by omega), mul_s (dm40 hd hb) (b60 he), m1, m2, z]
  · simp? (disch := first | assumption | omega) only [mul_l, mul_r, div_int, mod_int, pow_int, mul_s (b60 ha) (b60 hc), mul_s (b60 ha) (b60 he), mul_s (b60 hb) (b60 hc), mul_l (i := d) (j := b) (by omega), mul_s (dm40 hd hb) (b60 he), m1, m2, z]
theorem way_ok (hd : 2 ≤ d ∧ d ≤ 53) (ha : Bd40 a) (hb : Bd40 b) : sem_is_way_of [.int d, .int n, .tup [.int a, .int b]] = some (.ret (.bl (decide (a * a - d * b * b = n)))) := by
  have ea : ∀ i : Int, Bd40 i → (if i < 0 then -i else i) < 1000000000000000000000000000000000000000000000000000000000000 := fun i h => by
    have h1 := h.1
    have h2 := h.2
    split <;> omega
  have e1 : ec_is_way_of_1 [.fz (.int d), .fz (.int n), .fz (.tup [.int a, .int b]), .no] = some (.ok (.fresh ([true, true].map D.bl)) [.fz (.int d), .fz (.int n), .fz (.tup [.int a, .int b]), .no]) := by
    unfold ec_is_way_of_1
    refine ec_map (δ1 := [.fz (.int d), .fz (.int n), .fz (.tup [.int a, .int b]), .no]) D.int (fun _ => D.bl true) [a, b] (by simp? only []; rfl) (by simp) (by simp? only []) (fun i hi => ?_) (by simp? only [])
    have hi : Bd40 i := by
      simp at hi
      rcases hi with rfl | rfl <;> assumption
    have := ea i hi
    simp? (disch := first | assumption | omega) only [mul_l, mul_r, div_int, mod_int, pow_int, ev_lcOne, is_integer_int, decide_eq_true this, this]
  rw [q_is_way_of, sd_is_way_of]
  have al : ([true, true].all id) = true := rfl
  simp? (disch := first | assumption | omega) only [mul_l, mul_r, div_int, mod_int, pow_int, e1, all_bls, al, mul_s (b60 ha) (b60 ha), mul_l (i := d) (j := b) (by omega), mul_s (dm40 hd hb) (b60 hb)]
end
theorem no_way {d n : Int} : ∀ v, (v = .non ∨ (∃ i, v = .tup [.int i]) ∨ (∃ ds, v = .lst ds) ∨ v = .tup [.non, .int 0] ∨ v = .tup [.bl true, .int 0] ∨ v = .int 0 ∨ v = .str "way" ∨ Dp v) → sem_is_way_of [.int d, .int n, v] = some (.ret (.bl false)) := by
  rintro v (rfl | ⟨i, rfl⟩ | ⟨ds, rfl⟩ | rfl | rfl | rfl | rfl | ⟨⟨x, rfl⟩ | ⟨x, rfl⟩, _⟩) <;> kernel_rfl
section
variable {d n a b c e : Int}
theorem cls_ok (cs : sem_check_surd [.int d] = some (.ret .non)) (hd : 2 ≤ d ∧ d ≤ 53) (hn : -1000 ≤ n ∧ n ≤ 1000) (h0 : n ≠ 0) (ha : Bd40 a) (hb : Bd40 b) (hc : Bd40 c) (he : Bd40 e) (w1 : a * a - d * b * b = n) (w2 : c * c - d * e * e = n) :
    sem_is_same_class [.int d, .int n, .tup [.int a, .int b], .tup [.int c, .int e]] = some (.ret (.bl (alB d n a b c e))) := by
  rw [q_is_same_class, sd_is_same_class]
  unfold lp_is_same_class_1
  simp? (disch := first | assumption | omega) only [mul_l, mul_r, div_int, mod_int, pow_int, cs, check_size_ok hn h0, way_ok (n := n) hd ha hb, way_ok (n := n) hd hc he, w1, w2, are_alike_ok hd h0 ha hb hc he]
theorem cls_no1 {v : D} {w : D} (cs : sem_check_surd [.int d] = some (.ret .non)) (hn : -1000 ≤ n ∧ n ≤ 1000) (h0 : n ≠ 0) (w1 : sem_is_way_of [.int d, .int n, v] = some (.ret (.bl false))) :
    wordF hs__law_is_refused (sem_is_same_class [.int d, .int n, v, w]) = some (.ret (.bl true)) := by
  have q : sem_is_same_class [.int d, .int n, v, w] = some (.er ⟨"NoWay", none⟩) := by
    rw [q_is_same_class, sd_is_same_class]
    unfold lp_is_same_class_1
    simp? (disch := first | assumption | omega) only [mul_l, mul_r, div_int, mod_int, pow_int, cs, check_size_ok hn h0, w1]
  rw [q]
  kernel_rfl
theorem cls_no2 {v : D} (cs : sem_check_surd [.int d] = some (.ret .non)) (hd : 2 ≤ d ∧ d ≤ 53) (hn : -1000 ≤ n ∧ n ≤ 1000) (h0 : n ≠ 0) (ha : Bd40 a) (hb : Bd40 b) (w0 : a * a - d * b * b = n) (w1 : sem_is_way_of [.int d, .int n, v] = some (.ret (.bl false))) :
    wordF hs__law_is_refused (sem_is_same_class [.int d, .int n, .tup [.int a, .int b], v]) = some (.ret (.bl true)) := by
  have q : sem_is_same_class [.int d, .int n, .tup [.int a, .int b], v] = some (.er ⟨"NoWay", none⟩) := by
    rw [q_is_same_class, sd_is_same_class]
    unfold lp_is_same_class_1
    simp? (disch := first | assumption | omega) only [mul_l, mul_r, div_int, mod_int, pow_int, cs, check_size_ok hn h0, way_ok (n := n) hd ha hb, w0, w1]
  rw [q]
  kernel_rfl
end
def Bn : Nat → Int
  | 0 => 2
  | 1 => 200000000000
  | 2 => 20000000000000000000000
  | _ => 2000000000000000000000000000000000
theorem Bn_bd (i : Nat) : 2 ≤ Bn i ∧ Bn i ≤ 2000000000000000000000000000000000 := by
  unfold Bn
  split <;> decide
theorem Bn_step {i : Nat} (h : i < 3) : 100000000000 * Bn i = Bn (i + 1) := by
  have : i = 0 ∨ i = 1 ∨ i = 2 := by omega
  rcases this with rfl | rfl | rfl <;> decide
theorem stp {d p q x y B : Int} (hd : 2 ≤ d ∧ d ≤ 53) (hp : 0 ≤ p ∧ p < B) (hq : 0 ≤ q ∧ q < B) (hx : 0 < x ∧ x < 1000000000) (hy : 0 < y ∧ y < 1000000000) : (0 ≤ p * x + d * q * y ∧ p * x + d * q * y < 100000000000 * B) ∧ (0 ≤ p * y + q * x ∧ p * y + q * x < 100000000000 * B) := by
  have dq : 0 ≤ d * q ∧ d * q ≤ 53 * B := ⟨Int.mul_nonneg (by omega) hq.1, Int.mul_le_mul hd.2 (by omega) hq.1 (by omega)⟩
  have k1 := Int.mul_nonneg hp.1 (show 0 ≤ x by omega)
  have k2 := Int.mul_nonneg dq.1 (show 0 ≤ y by omega)
  have k3 := Int.mul_nonneg hp.1 (show 0 ≤ y by omega)
  have k4 := Int.mul_nonneg hq.1 (show 0 ≤ x by omega)
  have l1 := Int.mul_le_mul (show p ≤ B by omega) (show x ≤ 1000000000 by omega) (by omega) (by omega)
  have l2 := Int.mul_le_mul dq.2 (show y ≤ 1000000000 by omega) (by omega) (by omega)
  have l3 := Int.mul_le_mul (show p ≤ B by omega) (show y ≤ 1000000000 by omega) (by omega) (by omega)
  have l4 := Int.mul_le_mul (show q ≤ B by omega) (show x ≤ 1000000000 by omega) (by omega) (by omega)
  omega
theorem bnd {d a b p q : Int} (hd : 2 ≤ d ∧ d ≤ 53) (ha : 1 ≤ a ∧ a ≤ 30) (hb : -4 ≤ b ∧ b ≤ 4) (hp : 0 ≤ p ∧ p < 2000000000000000000000000000000000) (hq : 0 ≤ q ∧ q < 2000000000000000000000000000000000) : Bd40 (a * p + d * b * q) ∧ Bd40 (a * q + b * p) := by
  have db := dm hd (b := b) (M := 5) (by omega)
  have k1 := Int.mul_nonneg (show 0 ≤ a by omega) hp.1
  have k2 := Int.mul_nonneg (show 0 ≤ a by omega) hq.1
  have l1 := Int.mul_le_mul ha.2 (show p ≤ 2000000000000000000000000000000000 by omega) hp.1 (by omega)
  have l2 := Int.mul_le_mul ha.2 (show q ≤ 2000000000000000000000000000000000 by omega) hq.1 (by omega)
  have m1 := Int.mul_le_mul_of_nonneg_right (show d * b ≤ 265 by omega) hq.1
  have m2 := Int.mul_le_mul_of_nonneg_right (show -265 ≤ d * b by omega) hq.1
  have m3 := Int.mul_le_mul_of_nonneg_right hb.2 hp.1
  have m4 := Int.mul_le_mul_of_nonneg_right hb.1 hp.1
  unfold Bd40
  omega
theorem chk_2 : dL.all (fun d => (List.range 31).all fun a => (List.range 5).all fun b => (a == 0) || ((a * a : Nat) : Int) != d * (b * b : Nat)) = true := by decide +kernel
theorem n_ne {d a b : Int} (hd : d ∈ dL) (ha : 1 ≤ a ∧ a ≤ 30) (hb : -4 ≤ b ∧ b ≤ 4) : a * a - d * b * b ≠ 0 := fun z => by
  have q := List.all_eq_true.mp chk_2 d hd
  have q := List.all_eq_true.mp q a.toNat (List.mem_range.mpr (by omega))
  have q := List.all_eq_true.mp q b.natAbs (List.mem_range.mpr (by omega))
  rw [Bool.or_eq_true] at q
  rcases q with q | q
  · have := eq_of_beq q
    omega
  · have e1 : ((a.toNat * a.toNat : Nat) : Int) = a * a := by
      rw [Int.natCast_mul, Int.toNat_of_nonneg (by omega)]
    have e2 : ((b.natAbs * b.natAbs : Nat) : Int) = b * b := Int.natAbs_mul_self
    rw [e1, e2, ← Int.mul_assoc] at q
    simp only [bne_iff_ne, ne_eq] at q
    omega
mutual
theorem okEq_mono : ∀ {d : D} {k : Nat}, okEq d k = true → okEq d (k + 1) = true
  | .non, k, h => by simp [okEq]
  | .bl _, k, h => by simp [okEq]
  | .int _, k, h => by simp [okEq]
  | .str _, k, h => by simpa [okEq] using h
  | .tup ds, 0, h => by simp [okEq] at h
  | .tup ds, k + 1, h => by
    simp only [okEq] at h ⊢
    exact okEqL_mono h
  | .lst ds, 0, h => by simp [okEq] at h
  | .lst ds, k + 1, h => by
    simp only [okEq] at h ⊢
    exact okEqL_mono h
  | .scr _, k, h => by simp [okEq] at h
  | .dct _ _, k, h => by simp [okEq] at h
  | .fn _ _, k, h => by simp [okEq] at h
  | .ty _, k, h => by simp [okEq] at h
theorem okEqL_mono : ∀ {ds : List D} {k : Nat}, okEqL ds k = true → okEqL ds (k + 1) = true
  | [], k, h => by simp [okEqL]
  | d :: ds, k, h => by
    unfold okEqL at h ⊢
    rw [Bool.and_eq_true] at h ⊢
    exact ⟨okEq_mono h.1, okEqL_mono h.2⟩
end
theorem right_ok {h : List D} {d a b n : Int} (H : Hand h) (hd : d ∈ dL) (ha : 1 ≤ a ∧ a ≤ 30) (hb : -4 ≤ b ∧ b ≤ 4) (hn : -1000 ≤ n ∧ n ≤ 1000) (w0 : a * a - d * b * b = n) : ∃ h', sem__law_is_right [.lst h, .int d, .int n, .tup [.int a, .int b]] = some (.ret (.bl true), h') ∧ Hand h' := by
  have bd := dL_bd d hd
  have h0 : n ≠ 0 := by rw [← w0]; exact n_ne hd ha hb
  obtain ⟨cs, x, y, eu, un, bx, by'⟩ := unit_ok hd
  obtain ⟨r, h1, e1, a1, b1, H1⟩ := draw_ok h 4 H (by decide) (by decide)
  obtain ⟨r, rfl⟩ := Int.eq_ofNat_of_zero_le a1
  have A40 : Bd40 a := by unfold Bd40; omega
  have B40 : Bd40 b := by unfold Bd40; omega
  obtain ⟨δ', e, p, q, s5, hs, pq, hp, hq, rfl⟩ := forR_plain (g := gN 5) (lo := 0) (n := r) (δ := [.io h1, .fz (.int d), .fz (.int n), .fz (.tup [.int a, .int b]), .fz (.tup [.int a, .int b]), .no, .no, .no, .no, .fz (.int x), .fz (.int y), .no])
    (b := (sAsg (gN 4) (eTup (aCons (eBin addD (eBin mulD (eBin ixD (eVar 4) (eC (.int 0))) (eVar 9)) (eBin mulD (eBin mulD (eVar 1) (eBin ixD (eVar 4) (eC (.int 1)))) (eVar 10))) (aCons (eBin addD (eBin mulD (eBin ixD (eVar 4) (eC (.int 0))) (eVar 10)) (eBin mulD (eBin ixD (eVar 4) (eC (.int 1))) (eVar 9))) aNil)))))
    (P := fun i δ => ∃ p q s5, s5.pl = true ∧ p * p - d * q * q = 1 ∧ (0 ≤ p ∧ p < Bn i) ∧ (0 ≤ q ∧ q < Bn i) ∧ δ = [.io h1, .fz (.int d), .fz (.int n), .fz (.tup [.int a, .int b]), .fz (.tup [.int (a * p + d * b * q), .int (a * q + b * p)]), s5, .no, .no, .no, .fz (.int x), .fz (.int y), .no]) ⟨1, 0, .no, rfl, by omega, by decide, by decide, by simp⟩ (by
      rintro i hi δ ⟨p, q, s5, hs, pq, hp, hq, rfl⟩
      have bi := Bn_bd i
      have st := stp bd hp hq bx by'
      rw [Bn_step (by omega)] at st
      have bc := bnd bd ha hb (p := p) (q := q) (by omega) (by omega)
      have f1 : (a * p + d * b * q) * x + d * (a * q + b * p) * y = a * (p * x + d * q * y) + d * b * (p * y + q * x) := by grind
      have f2 : (a * p + d * b * q) * y + (a * q + b * p) * x = a * (p * y + q * x) + b * (p * x + d * q * y) := by grind
      have f3 := brah (d := d) (a := p) (b := q) (n := 1) (s := 1) (x := x) (y := y) (by omega) un
      refine ⟨[.io h1, .fz (.int d), .fz (.int n), .fz (.tup [.int a, .int b]), .fz (.tup [.int (a * p + d * b * q), .int (a * q + b * p)]), .fz (.int i), .no, .no, .no, .fz (.int x), .fz (.int y), .no], _, by simp? (disch := first | assumption | omega) only [mul_l, mul_r, div_int, mod_int, pow_int, hs, Int.zero_add], ?_, p * x + d * q * y, p * y + q * x, .fz (.int i), rfl, f3, st.1, st.2, rfl⟩
      simp? (disch := first | assumption | omega) only [mul_l, mul_r, div_int, mod_int, pow_int, mul_r (j := x) (by omega), mul_r (j := y) (by omega), mul_l (i := d) (by omega), f1, f2])
  have e : forL _ _ (rangeD 0 r) [.io h1, .fz (.int d), .fz (.int n), .fz (.tup [.int a, .int b]), .fz (.tup [.int a, .int b]), .no, .no, .no, .no, .fz (.int x), .fz (.int y), .no] = _ := e
  have br := Bn_bd r
  have bc := bnd bd ha hb (p := p) (q := q) (by omega) (by omega)
  have al : alB d n a b (a * p + d * b * q) (a * q + b * p) = true := by
    unfold alB
    rw [show a * (a * p + d * b * q) - d * b * (a * q + b * p) = n * p by rw [← w0]; grind, show a * (a * q + b * p) - b * (a * p + d * b * q) = n * q by rw [← w0]; grind]
    simp [Int.dvd_mul_right]
  have w2 := brah (d := d) (a := a) (b := b) (n := n) (s := 1) (x := p) (y := q) (by omega) pq
  rw [Int.mul_one] at w2
  generalize a * p + d * b * q = c at e bc al w2
  generalize a * q + b * p = g at e bc al w2
  have al2 : alB d n a b (0 - c) (0 - g) = true := by
    unfold alB at al ⊢
    rw [show a * (0 - c) - d * b * (0 - g) = -(a * c - d * b * g) by grind, show a * (0 - g) - b * (0 - c) = -(a * g - b * c) by grind]
    simpa only [Int.dvd_neg] using al
  have ws : sem_ways_of [.int d, .int n, .int 60] = _ := ways_ok (m := 60) cs (by omega) hn h0 (by omega)
  have ld : ∀ ds : List D, listD [.tup ds] = some (.l ds) := fun _ => rfl
  have cu : cutD ((W d n 60).map pD) none (some 6) = ((W d n 60).take 6).map pD := by rw [cut_take (by decide), List.map_take]; rfl
  obtain ⟨ps, hps⟩ : ∃ ps, ps = (c, g) :: (0 - c, 0 - g) :: (0 - a, b) :: (W d n 60).take 6 := ⟨_, rfl⟩
  have hO : [D.tup [.int c, .int g], .tup [.int (0 - c), .int (0 - g)], .tup [.int (0 - a), .int b]] ++ ((W d n 60).take 6).map pD = ps.map pD := by rw [hps]; rfl
  have hlen : ([D.tup [.int c, .int g], .tup [.int (0 - c), .int (0 - g)], .tup [.int (0 - a), .int b]] : List D).length + (((W d n 60).take 6).map pD).length ≤ 16777216 := by
    rw [List.length_map, List.length_take]
    simp only [List.length_cons, List.length_nil]
    omega
  have ad := add_lst hlen
  rw [hO] at ad
  have pm : ∀ p ∈ ps, Bd40 p.1 ∧ Bd40 p.2 ∧ p.1 * p.1 - d * p.2 * p.2 = n := fun p hp => by
    rw [hps] at hp
    simp only [List.mem_cons] at hp
    rcases hp with rfl | rfl | rfl | hp
    · exact ⟨bc.1, bc.2, w2⟩
    · have k1 := bc.1
      have k2 := bc.2
      unfold Bd40 at k1 k2 ⊢
      refine ⟨by omega, by omega, ?_⟩
      show (0 - c) * (0 - c) - d * (0 - g) * (0 - g) = n
      rw [← w2]; grind
    · unfold Bd40
      refine ⟨by omega, by omega, ?_⟩
      show (0 - a) * (0 - a) - d * b * b = n
      rw [← w0]; grind
    · obtain ⟨q1, q2, q3, q4⟩ := (W_mem (a := p.1) (b := p.2) (by omega) hn (by omega)).mp (List.mem_of_mem_take hp)
      have : d * p.2 * p.2 ≤ 53 * 60 * 60 := by
        have k1 := Int.mul_le_mul bd.2 (show p.2 ≤ 60 by omega) q2 (by omega)
        exact Int.mul_le_mul k1 (show p.2 ≤ 60 by omega) q2 (by omega)
      have : p.1 < 1000 := by
        by_cases z : p.1 < 1000
        · exact z
        · have := Int.mul_le_mul (show 1000 ≤ p.1 by omega) (show 1000 ≤ p.1 by omega) (by omega) q1
          omega
      unfold Bd40
      omega
  have rb : ∀ f : Bool, reprD [.lst [.bl f, .bl f]] = some (.v (.str (shw (.lst [.bl f, .bl f])))) := fun f => repr_ok (n := 17) (by simp only [shSz, shSzL]; rfl) (by decide)
  obtain ⟨δ2, e2, s7, s11, z7, z11, rfl⟩ := forL_plain (g := gN 7) (b := (sSeq (sAsg (gN 11) (eCall sem__law_is_same (aCons (eVar 1) (aCons (eVar 2) (aCons (eVar 3) (aCons (eVar 7) aNil))))))
   (sIf (tVal (eBin (eqX true) (eB reprD (aCons (eLst (aCons (eCall sem_is_same_class (aCons (eVar 1) (aCons (eVar 2) (aCons (eVar 3) (aCons (eVar 7) aNil))))) (aCons (eCall sem_is_same_class (aCons (eVar 1) (aCons (eVar 2) (aCons (eVar 7) (aCons (eVar 3) aNil))))) aNil))) aNil)) (eB reprD (aCons (eLst (aCons (eVar 11) (aCons (eVar 11) aNil))) aNil))))
    (sRet (eC (.bl false)))
    sNil))) (items := ps.map pD) (δ := [.io h1, .fz (.int d), .fz (.int n), .fz (.tup [.int a, .int b]), .fz (.tup [.int c, .int g]), s5, .fz (.lst (ps.map pD)), .no, .no, .fz (.int x), .fz (.int y), .no])
    (P := fun _ δ => ∃ s7 s11, s7.pl = true ∧ s11.pl = true ∧ δ = [.io h1, .fz (.int d), .fz (.int n), .fz (.tup [.int a, .int b]), .fz (.tup [.int c, .int g]), s5, .fz (.lst (ps.map pD)), s7, .no, .fz (.int x), .fz (.int y), s11]) ⟨.no, .no, rfl, rfl, rfl⟩ (by
      rintro i hi δ ⟨s7, s11, z7, z11, rfl⟩
      rw [List.getElem_map]
      have hm : ps[i]'(by simpa using hi) ∈ ps := List.getElem_mem _
      generalize ps[i]'(by simpa using hi) = p at hm
      obtain ⟨u, v⟩ := p
      obtain ⟨bu, bv, wn⟩ := pm _ hm
      simp only at bu bv wn
      have i1 := law_same_ok (n := n) bd h0 A40 B40 bu bv
      have i2 := cls_ok cs bd hn h0 A40 B40 bu bv w0 wn
      have i3 := cls_ok cs bd hn h0 bu bv A40 B40 wn w0
      rw [alB_symm] at i3
      generalize alB d n a b u v = f at i1 i2 i3
      refine ⟨[.io h1, .fz (.int d), .fz (.int n), .fz (.tup [.int a, .int b]), .fz (.tup [.int c, .int g]), s5, .fz (.lst (ps.map pD)), .fz (.tup [.int u, .int v]), .no, .fz (.int x), .fz (.int y), s11], [.io h1, .fz (.int d), .fz (.int n), .fz (.tup [.int a, .int b]), .fz (.tup [.int c, .int g]), s5, .fz (.lst (ps.map pD)), .fz (.tup [.int u, .int v]), .no, .fz (.int x), .fz (.int y), .fz (.bl f)], by simp? (disch := first | assumption | omega) only [mul_l, mul_r, div_int, mod_int, pow_int, z7, pD], ?_, _, _, rfl, rfl, rfl⟩
      simp? (disch := first | assumption | omega) only [mul_l, mul_r, div_int, mod_int, pow_int, z11, i1, i2, i3, rb])
  have e2 : forL _ _ (ps.map pD) [.io h1, .fz (.int d), .fz (.int n), .fz (.tup [.int a, .int b]), .fz (.tup [.int c, .int g]), s5, .fz (.lst (ps.map pD)), .no, .no, .fz (.int x), .fz (.int y), .no] = _ := e2
  have x0 : ixD (.lst (ps.map pD)) (.int 0) = some (.v (.tup [.int c, .int g])) := by rw [hps]; exact ix_lst (ixk (j := 0) rfl)
  have x1 : ixD (.lst (ps.map pD)) (.int 1) = some (.v (.tup [.int (0 - c), .int (0 - g)])) := by rw [hps]; exact ix_lst (ixk (j := 1) rfl)
  have k0 := cls_ok cs bd hn h0 A40 B40 bc.1 bc.2 w0 w2
  have k1 := cls_ok (c := 0 - c) (e := 0 - g) cs bd hn h0 A40 B40 (pm (0 - c, 0 - g) (by rw [hps]; simp)).1 (pm (0 - c, 0 - g) (by rw [hps]; simp)).2.1 w0 (pm (0 - c, 0 - g) (by rw [hps]; simp)).2.2
  rw [al] at k0
  rw [al2] at k1
  obtain ⟨o, rr, z, h2, da, db, dc, dd, hz, H2⟩ := deep_ok H1
  obtain ⟨v, h3, e3, hv, H3⟩ := any_mem (ds := [.non, .tup [.int (a + 1), .int b], .tup [.int a], .lst [.int a, .int b], .tup [.non, .int 0], .tup [.bl true, .int 0], .int 0, .str "way", z]) H2 (by simp) (by simp)
  have ne : ¬ (a + 1) ^ 2 - d * b ^ 2 = n := by
    rw [← w0, show (a + 1) ^ 2 - d * b ^ 2 = a * a - d * b * b + (2 * a + 1) by grind]
    omega
  have wv : sem_is_way_of [.int d, .int n, v] = some (.ret (.bl false)) := by
    simp only [List.mem_cons, List.not_mem_nil, or_false] at hv
    by_cases hv2 : v = .tup [.int (a + 1), .int b]
    · rw [hv2, way_ok bd (by unfold Bd40; omega) B40, decide_eq_false]
      intro q
      refine ne ?_
      rw [← q]; grind
    · refine no_way v ?_
      rcases hv with rfl | rfl | rfl | rfl | rfl | rfl | rfl | rfl | rfl
      · exact .inl rfl
      · exact absurd rfl hv2
      · exact .inr (.inl ⟨_, rfl⟩)
      · exact .inr (.inr (.inl ⟨_, rfl⟩))
      · exact .inr (.inr (.inr (.inl rfl)))
      · exact .inr (.inr (.inr (.inr (.inl rfl))))
      · exact .inr (.inr (.inr (.inr (.inr (.inl rfl)))))
      · exact .inr (.inr (.inr (.inr (.inr (.inr (.inl rfl))))))
      · exact .inr (.inr (.inr (.inr (.inr (.inr (.inr hz))))))
  have ev : ∃ t, eqX false v (.tup [.int (a + 1), .int b]) = some (.v (.bl t)) := by
    have ok : okEq v 64 = true := by
      simp only [List.mem_cons, List.not_mem_nil, or_false] at hv
      rcases hv with rfl | rfl | rfl | rfl | rfl | rfl | rfl | rfl | rfl
      · simp [okEq]
      · simp [okEq, okEqL]
      · simp [okEq, okEqL]
      · simp [okEq, okEqL]
      · simp [okEq, okEqL]
      · simp [okEq, okEqL]
      · simp [okEq]
      · kernel_rfl
      · rcases hz.1 with ⟨w, rfl⟩ | ⟨w, rfl⟩
        · have := hz.2.2
          simp only [okEq] at this ⊢
          exact okEqL_mono this
        · have := hz.2.2
          simp only [okEq] at this ⊢
          exact okEqL_mono this
    have ok2 : okEq (.tup [.int (a + 1), .int b]) 64 = true := by simp [okEq, okEqL]
    have : eqX false v (.tup [.int (a + 1), .int b]) = eqD false v (.tup [.int (a + 1), .int b]) := by cases v <;> rfl
    rw [this]
    unfold eqD
    rw [ok, ok2]
    exact ⟨_, rfl⟩
  obtain ⟨t, ev⟩ := ev
  have n1 := cls_no1 (w := .tup [.int a, .int b]) cs hn h0 wv
  have n2 := cls_no2 cs bd hn h0 A40 B40 w0 wv
  have tk : List.take 1 [D.int a, D.int b] = [.int a] := rfl
  refine ⟨h3, ?_, H3⟩
  rw [q__law_is_right, sd__law_is_right]
  unfold lp__law_is_right_1 lp__law_is_right_2
  cases t <;> simp? (disch := first | assumption | omega) only [mul_l, mul_r, div_int, mod_int, pow_int, eu, e1, fR1_ok, Int.toNat_natCast, e, ws, ld, slice_lst, cu, ad, e2, x0, x1, k0, k1, slT_take, tk, da, db, dc, e3, ev, pow_int, ne, n1, n2]
theorem law_ok (ns : List Int) (_ : ns.length ≤ 63) : sem_law [.scr (ns.map D.int)] = some (.ret (.bl true)) := by
  obtain ⟨h, e1, H⟩ := hand_ok ns
  obtain ⟨δ', e, h', s2, s3, s4, s5, H', z2, z3, z4, z5, rfl⟩ := forR_plain (g := gN 2) (lo := 0) (n := 6) (δ := [.fz (.scr (ns.map D.int)), .own h, .no, .no, .no, .no])
    (b := (sSeq (sAsg (gN 3) (eCallIo sem__law_surd (aCons (eVar 1) aNil)))
   (sSeq (sAsg (gN 4) (eTup (aCons (eBin addD (eC (.int 1)) (eCallIo sem__law_draw (aCons (eVar 1) (aCons (eC (.int 30)) aNil)))) (aCons (eBin subD (eCallIo sem__law_draw (aCons (eVar 1) (aCons (eC (.int 9)) aNil))) (eC (.int 4))) aNil))))
   (sSeq (sAsg (gN 5) (eBin subD (eBin mulD (eBin ixD (eVar 4) (eC (.int 0))) (eBin ixD (eVar 4) (eC (.int 0)))) (eBin mulD (eBin mulD (eVar 3) (eBin ixD (eVar 4) (eC (.int 1)))) (eBin ixD (eVar 4) (eC (.int 1))))))
   (sIf (tAndD (tVal (eBin leD (eB absD (aCons (eVar 5) aNil)) (eC (.int 1000)))) (tNotD (tTru (eCallIo sem__law_is_right (aCons (eVar 1) (aCons (eVar 3) (aCons (eVar 5) (aCons (eVar 4) aNil))))))))
    (sRet (eC (.bl false)))
    sNil)))))
    (P := fun _ δ => ∃ h s2 s3 s4 s5, Hand h ∧ s2.pl = true ∧ s3.pl = true ∧ s4.pl = true ∧ s5.pl = true ∧ δ = [.fz (.scr (ns.map D.int)), .own h, s2, s3, s4, s5]) ⟨h, .no, .no, .no, .no, H, rfl, rfl, rfl, rfl, rfl⟩ (by
      rintro i hi δ ⟨h, s2, s3, s4, s5, H, z2, z3, z4, z5, rfl⟩
      obtain ⟨d, h1, c1, hd, H1⟩ := surd_ok H
      obtain ⟨x, h2, c2, x0, x1, H2⟩ := draw_ok h1 30 H1 (by decide) (by decide)
      obtain ⟨y, h3, c3, y0, y1, H3⟩ := draw_ok h2 9 H2 (by decide) (by decide)
      have bd := dL_bd d hd
      obtain ⟨a, ha⟩ : ∃ a, a = 1 + x := ⟨_, rfl⟩
      obtain ⟨b, hb⟩ : ∃ b, b = y - 4 := ⟨_, rfl⟩
      have db := dm bd (b := b) (M := 5) (by omega)
      generalize hmm : a * a - d * b * b = k
      by_cases k1 : (if k < 0 then -k else k) ≤ 1000
      · obtain ⟨h4, c4, H4⟩ := right_ok H3 hd (a := a) (b := b) (n := k) (by omega) (by omega) (by split at k1 <;> omega) hmm
        refine ⟨[.fz (.scr (ns.map D.int)), .own h, .fz (.int i), s3, s4, s5], [.fz (.scr (ns.map D.int)), .own h4, .fz (.int i), .fz (.int d), .fz (.tup [.int a, .int b]), .fz (.int k)], by simp? (disch := first | assumption | omega) only [mul_l, mul_r, div_int, mod_int, pow_int, z2, Int.zero_add], ?_, _, _, _, _, _, H4, rfl, rfl, rfl, rfl, rfl⟩
        simp? (disch := first | assumption | omega) only [mul_l, mul_r, div_int, mod_int, pow_int, z3, z4, z5, c1, c2, c3, c4, ← ha, ← hb, mul_l (i := a) (by omega), mul_l (i := d) (by omega), mul_l (i := d * b) (by omega), hmm, k1]
      · refine ⟨[.fz (.scr (ns.map D.int)), .own h, .fz (.int i), s3, s4, s5], [.fz (.scr (ns.map D.int)), .own h3, .fz (.int i), .fz (.int d), .fz (.tup [.int a, .int b]), .fz (.int k)], by simp? (disch := first | assumption | omega) only [mul_l, mul_r, div_int, mod_int, pow_int, z2, Int.zero_add], ?_, _, _, _, _, _, H3, rfl, rfl, rfl, rfl, rfl⟩
        simp? (disch := first | assumption | omega) only [mul_l, mul_r, div_int, mod_int, pow_int, z3, z4, z5, c1, c2, c3, ← ha, ← hb, mul_l (i := a) (by omega), mul_l (i := d) (by omega), mul_l (i := d * b) (by omega), hmm, k1])
  have e : forL _ _ (rangeD 0 6) [.fz (.scr (ns.map D.int)), .own h, .no, .no, .no, .no] = _ := e
  have r1 : sem_is_same_class [.int 2, .int 7, .tup [.int 3, .int 1], .tup [.int 3, .int (-1)]] = some (.ret (.bl false)) := cls_ok (unit_ok (by decide)).1 (by decide) (by decide) (by decide) (by decide) (by decide) (by decide) (by decide) (by decide) (by decide)
  have r2 : sem_is_same_class [.int 2, .int 7, .tup [.int 3, .int 1], .tup [.int (-3), .int (-1)]] = some (.ret (.bl true)) := cls_ok (unit_ok (by decide)).1 (by decide) (by decide) (by decide) (by decide) (by decide) (by decide) (by decide) (by decide) (by decide)
  have r3 : sem_is_same_class [.int 2, .int 7, .tup [.int 3, .int (-1)], .tup [.int 5, .int 3]] = some (.ret (.bl true)) := cls_ok (unit_ok (by decide)).1 (by decide) (by decide) (by decide) (by decide) (by decide) (by decide) (by decide) (by decide) (by decide)
  have q1 : isND true (.bl false) (.bl false) = some (.v (.bl false)) := rfl
  have q2 : isND true (.bl true) (.bl true) = some (.v (.bl false)) := rfl
  rw [q_law, sd_law]
  unfold lp_law_1
  simp? (disch := first | assumption | omega) only [mul_l, mul_r, div_int, mod_int, pow_int, e1, r1, r2, r3, q1, q2, fR1_ok, e]

end Lk57
open PySem PySem.W PyProof.Rows
set_option maxHeartbeats 0 in
theorem PySem.Challenge.cw_rankrows_k57_whole_same_classes_of_ways_holds : PySem.Challenge.rw_rankrows_k57_whole_same_classes_of_ways.Holds := by
  w_on; o_law; k_head; (case hw => w_witness2)
  k_fill
  refine Dn.walkG (l := PySem.Challenge.rw_rankrows_k57_whole_same_classes_of_ways) (n := 63) (k := 9) (x := "script") (sem := fun _ => Lk57.sem_law) rfl (by decide) rfl ⟨rfl, by decide, by decide⟩ (fun w h Y => by first | exact PySem.W.kIn_of Y | exact PySem.W.km_in_of Y) ?F (fun _ => Lk57.law_ok)
  case F =>
    intro w mg fa h TQ KX G hmg
    refine' Lk57.all_mk _ TQ KX G hmg ?a0 ?l0 ?q0 ?k0 ?a1 ?l1 ?q1 ?k1 ?a2 ?l2 ?q2 ?k2 ?a3 ?l3 ?q3 ?k3 ?a4 ?l4 ?q4 ?k4 ?a5 ?l5 ?q5 ?k5 ?a6 ?l6 ?q6 ?k6 ?a7 ?l7 ?q7 ?k7 ?a8 ?l8 ?q8 ?k8 ?a9 ?l9 ?q9 ?k9 ?a10 ?l10 ?q10 ?k10 ?a11 ?l11 ?q11 ?k11 ?a12 ?l12 ?q12 ?k12 ?a13 ?l13 ?q13 ?k13 ?a14 ?l14 ?q14 ?k14 ?a15 ?l15 ?q15 ?k15 ?a16 ?l16 ?q16 ?k16 ?a17 ?l17 ?q17 ?k17 ?a18 ?l18 ?q18 ?k18 ?a19 ?l19 ?q19 ?k19 ?a20 ?l20 ?q20 ?k20 ?a21 ?l21 ?q21 ?k21 ?a22 ?l22 ?q22 ?k22 ?a23 ?l23 ?q23 ?k23 ?lm23 ?lp23 ?ln23 ?lr23 ?a24 ?l24 ?q24 ?k24 ?zc_NoSurd ?zc_NoInteger ?zc_NoWay ?zc_RankError ?zc_NoNumber ?z0 ?z1 ?z2 ?z3 ?z4 ?z5 ?z6 ?e_NoSurd_ ?p_NoSurd_ ?b_NoSurd_ ?y_NoSurd_ ?z8 ?e_NoInteger_ ?p_NoInteger_ ?b_NoInteger_ ?y_NoInteger_ ?z10 ?z11 ?z12 ?e_NoWay_ ?p_NoWay_ ?b_NoWay_ ?y_NoWay_ ?z14 ?h_NoWay_ ?y_RankError_ ?h_RankError_ ?b_RankError_ ?h_NoSurd_ ?ga_NoSurd_ ?gt_NoSurd_ ?cl_NoSurd_ ?mo_NoSurd_ ?se_NoSurd_ ?ve_NoSurd_ ?u_NoSurd_NoWay ?u_NoSurd_RankError ?h_NoInteger_ ?ga_NoInteger_ ?gt_NoInteger_ ?cl_NoInteger_ ?mo_NoInteger_ ?se_NoInteger_ ?ve_NoInteger_ ?u_NoInteger_NoWay ?u_NoInteger_RankError ?ga_NoWay_ ?gt_NoWay_ ?cl_NoWay_ ?mo_NoWay_ ?se_NoWay_ ?ve_NoWay_ ?u_NoWay_NoWay ?u_NoWay_RankError ?e_NoNumber_ ?p_NoNumber_ ?b_NoNumber_ ?y_NoNumber_ ?h_NoNumber_ ?ga_NoNumber_ ?gt_NoNumber_ ?cl_NoNumber_ ?mo_NoNumber_ ?se_NoNumber_ ?ve_NoNumber_ ?u_NoNumber_NoWay ?u_NoNumber_RankError ?on_ ?ot_ ?z31 ?z32 ?z33 ?z34 ?z35
    (case a0 => k_is); (case l0 => k_is); (case q0 => k_is); (case k0 => k_is); (case a1 => k_is); (case l1 => k_is); (case q1 => k_is); (case k1 => k_is); (case a2 => k_is); (case l2 => k_is); (case q2 => k_is); (case k2 => k_is); (case a3 => k_is); (case l3 => k_is); (case q3 => k_is); (case k3 => k_is); (case a4 => k_is); (case l4 => k_is); (case q4 => k_is); (case k4 => k_is); (case a5 => k_is); (case l5 => k_is); (case q5 => k_is); (case k5 => k_is); (case a6 => k_is); (case l6 => k_is); (case q6 => k_is); (case k6 => k_is); (case a7 => k_is); (case l7 => k_is); (case q7 => k_is); (case k7 => k_is); (case a8 => k_is); (case l8 => k_is); (case q8 => k_is); (case k8 => k_is); (case a9 => k_is); (case l9 => k_is); (case q9 => k_is); (case k9 => k_is); (case a10 => k_is); (case l10 => k_is); (case q10 => k_is); (case k10 => k_is); (case a11 => k_is); (case l11 => k_is); (case q11 => k_is); (case k11 => k_is); (case a12 => k_is); (case l12 => k_is); (case q12 => k_is); (case k12 => k_is); (case a13 => k_is); (case l13 => k_is); (case q13 => k_is); (case k13 => k_is); (case a14 => k_is); (case l14 => k_is); (case q14 => k_is); (case k14 => k_is); (case a15 => k_is); (case l15 => k_is); (case q15 => k_is); (case k15 => k_is); (case a16 => k_is); (case l16 => k_is); (case q16 => k_is); (case k16 => k_is); (case a17 => k_is); (case l17 => k_is); (case q17 => k_is); (case k17 => k_is); (case a18 => k_is); (case l18 => k_is); (case q18 => k_is); (case k18 => k_is); (case a19 => k_is); (case l19 => k_is); (case q19 => k_is); (case k19 => k_is); (case a20 => k_is); (case l20 => k_is); (case q20 => k_is); (case k20 => k_is); (case a21 => k_is); (case l21 => k_is); (case q21 => k_is); (case k21 => k_is); (case a22 => k_is); (case l22 => k_is); (case q22 => k_is); (case k22 => k_is); (case a23 => k_is); (case l23 => k_is); (case q23 => k_is); (case k23 => k_is); (case lm23 => k_is); (case lp23 => rfl); (case ln23 => kernel_rfl); (case lr23 => rfl); (case a24 => k_is); (case l24 => k_is); (case q24 => k_is); (case k24 => k_is); (case zc_NoSurd => k_is); (case zc_NoInteger => k_is); (case zc_NoWay => k_is); (case zc_RankError => k_is); (case zc_NoNumber => k_is); (case z0 => k_is); (case z1 => k_is); (case z2 => k_is); (case z3 => k_is); (case z4 => k_is); (case z5 => k_is); (case z6 => k_is); (case e_NoSurd_ => k_exc); (case p_NoSurd_ => k_is); (case b_NoSurd_ => k_is); (case y_NoSurd_ => k_is); (case z8 => k_is); (case e_NoInteger_ => k_exc); (case p_NoInteger_ => k_is); (case b_NoInteger_ => k_is); (case y_NoInteger_ => k_is); (case z10 => k_is); (case z11 => k_is); (case z12 => k_is); (case e_NoWay_ => k_exc); (case p_NoWay_ => k_is); (case b_NoWay_ => k_is); (case y_NoWay_ => k_is); (case z14 => k_is); (case h_NoWay_ => k_is); (case y_RankError_ => k_is); (case h_RankError_ => k_is); (case b_RankError_ => k_is); (case h_NoSurd_ => k_is); (case ga_NoSurd_ => k_is); (case gt_NoSurd_ => k_is); (case cl_NoSurd_ => k_is); (case mo_NoSurd_ => k_is); (case se_NoSurd_ => k_is); (case ve_NoSurd_ => k_is); (case u_NoSurd_NoWay => k_is); (case u_NoSurd_RankError => k_is); (case h_NoInteger_ => k_is); (case ga_NoInteger_ => k_is); (case gt_NoInteger_ => k_is); (case cl_NoInteger_ => k_is); (case mo_NoInteger_ => k_is); (case se_NoInteger_ => k_is); (case ve_NoInteger_ => k_is); (case u_NoInteger_NoWay => k_is); (case u_NoInteger_RankError => k_is); (case ga_NoWay_ => k_is); (case gt_NoWay_ => k_is); (case cl_NoWay_ => k_is); (case mo_NoWay_ => k_is); (case se_NoWay_ => k_is); (case ve_NoWay_ => k_is); (case u_NoWay_NoWay => k_is); (case u_NoWay_RankError => k_is); (case e_NoNumber_ => k_exc); (case p_NoNumber_ => k_is); (case b_NoNumber_ => k_is); (case y_NoNumber_ => k_is); (case h_NoNumber_ => k_is); (case ga_NoNumber_ => k_is); (case gt_NoNumber_ => k_is); (case cl_NoNumber_ => k_is); (case mo_NoNumber_ => k_is); (case se_NoNumber_ => k_is); (case ve_NoNumber_ => k_is); (case u_NoNumber_NoWay => k_is); (case u_NoNumber_RankError => k_is); (case on_ => k_is); (case ot_ => k_is); (case z31 => k_is); (case z32 => k_is); (case z33 => k_is); (case z34 => k_is); (case z35 => k_is)

