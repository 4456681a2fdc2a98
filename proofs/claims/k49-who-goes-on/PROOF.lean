import PyProof.Rows.All
import Wide.All
import OpenK.AllK
import Wide.FinOn
import HandS.ForMost
import HandS.Flow
import HandS.Style
import HandS.TupAny
import HandS.Deep
import HandS.IsInst
import HandS.Wide
import HandS.TupLe
import KE.GoesEnum
import KE.SortData
import PyProof.Rows.EnumRows
import PySem.Challenge.RW_marksrounded_k49_whole_who_goes_on
set_option Elab.async false
set_option linter.all false
set_option maxRecDepth 100000
set_option maxHeartbeats 4000000
namespace MM
open PySem PySem.Spec PyProof.Rows L2

/-- immutable data -/
inductive D where
  | non | bl (b : Bool) | int (i : Int) | str (x : Str) | tup (xs : List D) | opq (v : V) | scr (ns : List Int)
/-- values of the layer: data, lists of data, lists and tuples that hold lists -/
inductive A where
  | d (x : D) | ls (xs : List D) | lst (xs : List A) | tpl (xs : List A) | dd (kvs : List (D × D))

def isMut : HO → Bool
  | .lst _ => true
  | .dK _ => true
  | .dT _ => true
  | _ => false

/-- the script's ints at a, a list that nobody changes -/
def ScrAt (K : PySem.W.Frag) (H : Hp) (a : Addr) (ns : List Int) : Prop := (∃ ob, H a = some (.frz ob (.lst (ns.map V.int)))) ∨ SqL K (fun _ => none) a (ns.map V.int)
theorem ScrAt.mono {K : PySem.W.Frag} {H H' : Hp} {a : Addr} {ns : List Int} (ht : ∀ b u, H b = some u → isMut u = false → H' b = some u) (h : ScrAt K H a ns) : ScrAt K H' a ns := by
  rcases h with ⟨ob, h⟩ | h
  · exact .inl ⟨ob, ht _ _ h rfl⟩
  · exact .inr h
theorem ScrAt.seq {K : PySem.W.Frag} {H : Hp} {a : Addr} {ns : List Int} (h : ScrAt K H a ns) : SqL K H a (ns.map V.int) := by
  rcases h with ⟨ob, h⟩ | ((h | ⟨ob, h⟩) | h)
  · exact .inl (.inr ⟨ob, h⟩)
  · cases h
  · cases h
  · exact .inr h
mutual
def RepD (K : PySem.W.Frag) (H : Hp) : D → V → Prop
  | .non, v => v = .non
  | .bl b, v => v = .bl b
  | .int i, v => v = .int i
  | .str x, v => v = .str x
  | .tup xs, v => ∃ a ys, v = .ref a ∧ SqT K H a ys ∧ RepDs K H xs ys
  | .opq w, v => v = w
  | .scr ns, v => ∃ a, v = .ref a ∧ ScrAt K H a ns
def RepDs (K : PySem.W.Frag) (H : Hp) : List D → List V → Prop
  | [], ys => ys = []
  | x :: xs, ys => ∃ y r, ys = y :: r ∧ RepD K H x y ∧ RepDs K H xs r
end

/-- a dict of data at a -/
def DctAt (K : PySem.W.Frag) (H : Hp) (a : Addr) (kvs : List (D × D)) : Prop :=
  ∃ ks : List V, ∃ vs : List V, RepDs K H (kvs.map (·.1)) ks ∧ RepDs K H (kvs.map (·.2)) vs ∧
    ((∃ l : List (Key × V), H a = some (.dK l) ∧ l.map (fun p => kV p.1) = ks ∧ l.map (·.2) = vs) )

mutual
def Rep (K : PySem.W.Frag) (H : Hp) : A → V → List Addr → Prop
  | .d x, v, fp => RepD K H x v ∧ fp = []
  | .ls xs, v, fp => ∃ a ys, v = .ref a ∧ H a = some (.lst ys) ∧ RepDs K H xs ys ∧ fp = [a]
  | .lst xs, v, fp => ∃ a ys f, v = .ref a ∧ H a = some (.lst ys) ∧ Reps K H xs ys f ∧ fp = a :: f
  | .tpl xs, v, fp => ∃ a ys, v = .ref a ∧ SqT K H a ys ∧ Reps K H xs ys fp
  | .dd kvs, v, fp => ∃ a, v = .ref a ∧ DctAt K H a kvs ∧ fp = [a]
def Reps (K : PySem.W.Frag) (H : Hp) : List A → List V → List Addr → Prop
  | [], ys, fp => ys = [] ∧ fp = []
  | x :: xs, ys, fp => ∃ y r f g, ys = y :: r ∧ fp = f ++ g ∧ Rep K H x y f ∧ Reps K H xs r g
end

/-- what a step leaves as it was: all that is tracked and not owned -/
def Le (o : List Addr) (H : Hp) (o' : List Addr) (H' : Hp) : Prop := ∀ b u, H b = some u → b ∉ o → H' b = some u ∧ b ∉ o'
theorem Le.refl {o : List Addr} {H : Hp} : Le o H o H := fun _ _ h n => ⟨h, n⟩
theorem Le.trans {o o1 o2 : List Addr} {H H1 H2 : Hp} (a : Le o H o1 H1) (b : Le o1 H1 o2 H2) : Le o H o2 H2 := fun c u h n =>
  let ⟨h1, n1⟩ := a c u h n
  b c u h1 n1

theorem sqT_mono {K : PySem.W.Frag} {H H' : Hp} {a : Addr} {ys : List V} (ht : ∀ b u, H b = some u → isMut u = false → H' b = some u) (h : SqT K H a ys) : SqT K H' a ys := by
  rcases h with (h | ⟨ob, h⟩) | h
  · exact .inl (.inl (ht _ _ h rfl))
  · exact .inl (.inr ⟨ob, ht _ _ h rfl⟩)
  · exact .inr h

mutual
theorem RepD.mono {K : PySem.W.Frag} {H H' : Hp} (ht : ∀ b u, H b = some u → isMut u = false → H' b = some u) : ∀ {x : D} {v : V}, RepD K H x v → RepD K H' x v
  | .non, _, h => h
  | .bl _, _, h => h
  | .int _, _, h => h
  | .str _, _, h => h
  | .opq _, _, h => h
  | .scr ns, v, h => by
    unfold RepD at h ⊢
    obtain ⟨a, e, h⟩ := h
    exact ⟨a, e, h.mono ht⟩
  | .tup xs, v, h => by
    unfold RepD at h ⊢
    obtain ⟨a, ys, e, s, r⟩ := h
    exact ⟨a, ys, e, sqT_mono ht s, RepDs.mono ht r⟩
theorem RepDs.mono {K : PySem.W.Frag} {H H' : Hp} (ht : ∀ b u, H b = some u → isMut u = false → H' b = some u) : ∀ {xs : List D} {ys : List V}, RepDs K H xs ys → RepDs K H' xs ys
  | [], _, h => h
  | x :: xs, ys, h => by
    unfold RepDs at h ⊢
    obtain ⟨y, r, e, h1, h2⟩ := h
    exact ⟨y, r, e, RepD.mono ht h1, RepDs.mono ht h2⟩
end
theorem DctAt.mono {K : PySem.W.Frag} {H H' : Hp} {a : Addr} {kvs : List (D × D)} (ht : ∀ b u, H b = some u → isMut u = false → H' b = some u) (ha : ∀ u, H a = some u → H' a = some u) (h : DctAt K H a kvs) : DctAt K H' a kvs := by
  obtain ⟨ks, vs, h1, h2, l, h3, h4⟩ := h
  exact ⟨ks, vs, h1.mono ht, h2.mono ht, l, ha _ h3, h4⟩
mutual
theorem Rep.mono {K : PySem.W.Frag} {H H' : Hp} (ht : ∀ b u, H b = some u → isMut u = false → H' b = some u) : ∀ {x : A} {v : V} {fp : List Addr}, Rep K H x v fp → (∀ b ∈ fp, ∀ u, H b = some u → H' b = some u) → Rep K H' x v fp
  | .d x, v, fp, h, _ => by
    unfold Rep at h ⊢
    exact ⟨h.1.mono ht, h.2⟩
  | .ls xs, v, fp, h, k => by
    unfold Rep at h ⊢
    obtain ⟨a, ys, e, h1, h2, rfl⟩ := h
    exact ⟨a, ys, e, k a (by simp) _ h1, h2.mono ht, rfl⟩
  | .lst xs, v, fp, h, k => by
    unfold Rep at h ⊢
    obtain ⟨a, ys, f, e, h1, h2, rfl⟩ := h
    exact ⟨a, ys, f, e, k a (by simp) _ h1, Reps.mono ht h2 (fun b hb => k b (by simp [hb])), rfl⟩
  | .tpl xs, v, fp, h, k => by
    unfold Rep at h ⊢
    obtain ⟨a, ys, e, h1, h2⟩ := h
    exact ⟨a, ys, e, sqT_mono ht h1, Reps.mono ht h2 k⟩
  | .dd kvs, v, fp, h, k => by
    unfold Rep at h ⊢
    obtain ⟨a, e, h1, rfl⟩ := h
    exact ⟨a, e, h1.mono ht (k a (by simp)), rfl⟩
theorem Reps.mono {K : PySem.W.Frag} {H H' : Hp} (ht : ∀ b u, H b = some u → isMut u = false → H' b = some u) : ∀ {xs : List A} {ys : List V} {fp : List Addr}, Reps K H xs ys fp → (∀ b ∈ fp, ∀ u, H b = some u → H' b = some u) → Reps K H' xs ys fp
  | [], _, _, h, _ => h
  | x :: xs, ys, fp, h, k => by
    unfold Reps at h ⊢
    obtain ⟨y, r, f, g, e, rfl, h1, h2⟩ := h
    exact ⟨y, r, f, g, e, rfl, Rep.mono ht h1 (fun b hb => k b (by simp [hb])), Reps.mono ht h2 (fun b hb => k b (by simp [hb]))⟩
end
mutual
theorem Rep.mem {K : PySem.W.Frag} {H : Hp} : ∀ {x : A} {v : V} {fp : List Addr}, Rep K H x v fp → ∀ b ∈ fp, ∃ u, H b = some u ∧ isMut u = true
  | .d x, v, fp, h => by
    unfold Rep at h
    obtain ⟨_, rfl⟩ := h
    simp
  | .ls xs, v, fp, h => by
    unfold Rep at h
    obtain ⟨a, ys, e, h1, h2, rfl⟩ := h
    intro b hb
    obtain rfl : b = a := by simpa using hb
    exact ⟨_, h1, rfl⟩
  | .lst xs, v, fp, h => by
    unfold Rep at h
    obtain ⟨a, ys, f, e, h1, h2, rfl⟩ := h
    intro b hb
    rcases List.mem_cons.mp hb with rfl | hb
    · exact ⟨_, h1, rfl⟩
    · exact Reps.mem h2 b hb
  | .tpl xs, v, fp, h => by
    unfold Rep at h
    obtain ⟨a, ys, e, h1, h2⟩ := h
    exact Reps.mem h2
  | .dd kvs, v, fp, h => by
    unfold Rep at h
    obtain ⟨a, e, ⟨ks, vs, _, _, l, h1, _⟩, rfl⟩ := h
    intro b hb
    obtain rfl : b = a := by simpa using hb
    exact ⟨_, h1, rfl⟩
theorem Reps.mem {K : PySem.W.Frag} {H : Hp} : ∀ {xs : List A} {ys : List V} {fp : List Addr}, Reps K H xs ys fp → ∀ b ∈ fp, ∃ u, H b = some u ∧ isMut u = true
  | [], _, _, h => by
    unfold Reps at h
    obtain ⟨_, rfl⟩ := h
    simp
  | x :: xs, ys, fp, h => by
    unfold Reps at h
    obtain ⟨y, r, f, g, e, rfl, h1, h2⟩ := h
    intro b hb
    rcases List.mem_append.mp hb with hb | hb
    · exact Rep.mem h1 b hb
    · exact Reps.mem h2 b hb
end
end MM
namespace MM
open PySem PySem.Spec PyProof.Rows L2

theorem Reps.append {K : PySem.W.Frag} {H : Hp} : ∀ {xs : List A} {ys : List V} {f : List Addr} {xs' : List A} {ys' : List V} {g : List Addr}, Reps K H xs ys f → Reps K H xs' ys' g → Reps K H (xs ++ xs') (ys ++ ys') (f ++ g)
  | [], ys, f, xs', ys', g, h, h' => by
    unfold Reps at h
    obtain ⟨rfl, rfl⟩ := h
    exact h'
  | x :: xs, ys, f, xs', ys', g, h, h' => by
    unfold Reps at h
    obtain ⟨y, r, f1, f2, rfl, rfl, h1, h2⟩ := h
    show Reps K H (x :: (xs ++ xs')) _ _
    unfold Reps
    exact ⟨y, r ++ ys', f1, f2 ++ g, rfl, by rw [List.append_assoc], h1, Reps.append h2 h'⟩
theorem Reps.len {K : PySem.W.Frag} {H : Hp} : ∀ {xs : List A} {ys : List V} {f : List Addr}, Reps K H xs ys f → xs.length = ys.length
  | [], ys, f, h => by
    unfold Reps at h
    obtain ⟨rfl, rfl⟩ := h
    rfl
  | x :: xs, ys, f, h => by
    unfold Reps at h
    obtain ⟨y, r, f1, f2, rfl, rfl, h1, h2⟩ := h
    simp [Reps.len h2]
/-- the parts ahead of i, at i, behind i -/
theorem Reps.at {K : PySem.W.Frag} {H : Hp} : ∀ {xs : List A} {ys : List V} {f : List Addr} {i : Nat} {x : A} {y : V}, Reps K H xs ys f → xs[i]? = some x → ys[i]? = some y →
    ∃ f1 fi f2, f = f1 ++ fi ++ f2 ∧ Rep K H x y fi ∧ Reps K H (xs.take i) (ys.take i) f1 ∧ Reps K H (xs.drop (i + 1)) (ys.drop (i + 1)) f2
  | [], ys, f, i, x, y, h, e, e' => by simp at e
  | x :: xs, ys, f, 0, x', y', h, e, e' => by
    unfold Reps at h
    obtain ⟨y, r, f1, f2, rfl, rfl, h1, h2⟩ := h
    simp at e e'
    subst e e'
    refine ⟨[], f1, f2, rfl, h1, ?_, h2⟩
    show Reps K H [] [] []
    unfold Reps
    exact ⟨rfl, rfl⟩
  | x :: xs, ys, f, i + 1, x', y', h, e, e' => by
    unfold Reps at h
    obtain ⟨y, r, f1, f2, rfl, rfl, h1, h2⟩ := h
    simp at e e'
    obtain ⟨g1, gi, g2, rfl, r1, r2, r3⟩ := Reps.at h2 e e'
    refine ⟨f1 ++ g1, gi, g2, by simp [List.append_assoc], r1, ?_, r3⟩
    show Reps K H (x :: xs.take i) (y :: r.take i) (f1 ++ g1)
    unfold Reps
    exact ⟨y, r.take i, f1, g1, rfl, rfl, h1, r2⟩
theorem Reps.one {K : PySem.W.Frag} {H : Hp} {x : A} {y : V} {f : List Addr} (h : Rep K H x y f) : Reps K H [x] [y] f := by
  unfold Reps
  refine ⟨y, [], f, [], rfl, by simp, h, ?_⟩
  unfold Reps
  exact ⟨rfl, rfl⟩
theorem Reps.nil {K : PySem.W.Frag} {H : Hp} : Reps K H [] [] [] := by
  unfold Reps
  exact ⟨rfl, rfl⟩
theorem Reps.cons {K : PySem.W.Frag} {H : Hp} {x : A} {y : V} {f : List Addr} {xs : List A} {ys : List V} {g : List Addr} (h : Rep K H x y f) (h' : Reps K H xs ys g) : Reps K H (x :: xs) (y :: ys) (f ++ g) := by
  unfold Reps
  exact ⟨y, ys, f, g, rfl, rfl, h, h'⟩
theorem set_parts {α : Type} : ∀ {xs : List α} {i : Nat} {x : α}, i < xs.length → xs.set i x = xs.take i ++ x :: xs.drop (i + 1) := by
  intro xs i x h
  rw [List.set_eq_take_append_cons_drop, if_pos h]
/-- another thing put at i -/
theorem Reps.set {K : PySem.W.Frag} {H : Hp} {xs : List A} {ys : List V} {f : List Addr} {i : Nat} {x : A} {y : V} (h : Reps K H xs ys f) (e : xs[i]? = some x) (e' : ys[i]? = some y) :
    ∃ f1 fi f2, f = f1 ++ fi ++ f2 ∧ Rep K H x y fi ∧ ∀ {x' : A} {y' : V} {g : List Addr}, Rep K H x' y' g → Reps K H (xs.set i x') (ys.set i y') (f1 ++ g ++ f2) := by
  obtain ⟨f1, fi, f2, rfl, r1, r2, r3⟩ := Reps.at h e e'
  refine ⟨f1, fi, f2, rfl, r1, fun {x' y' g} r => ?_⟩
  have hx : i < xs.length := (List.getElem?_eq_some_iff.mp e).1
  have hy : i < ys.length := (List.getElem?_eq_some_iff.mp e').1
  rw [set_parts hx, set_parts hy, List.append_assoc]
  exact Reps.append r2 (Reps.cons r r3)

/-! ### the layer's state -/
abbrev Slot := Option (Bool × A)
def ownA : Slot → A
  | some (true, a) => a
  | _ => .d .non
def ownV : Slot → Option V → V
  | some (true, _), some v => v
  | _, _ => .non
def ownVs (sa : List Slot) (σ : L2.St) : List V := List.zipWith ownV sa σ
/-- what is held: val: a value, owned or not; peek j: what stands in slot j when it is asked -/
inductive R where
  | val (own : Bool) (a : A) | peek (j : Nat)
abbrev Tmp := List (A × V)
def RepS (K : PySem.W.Frag) (H : Hp) (o : List Addr) (a : A) (v : V) : Prop := ∃ fp, Rep K H a v fp ∧ ∀ b ∈ fp, b ∉ o
structure SRel (K : PySem.W.Frag) (o : List Addr) (T : Tmp) (sa : List Slot) (σ : L2.St) (H : Hp) : Prop where
  len : sa.length = σ.length
  sl : ∀ (i : Nat) fl a, sa[i]? = some (some (fl, a)) → ∃ v, σ[i]? = some (some v) ∧ (fl = false → RepS K H o a v)
  own : Reps K H (T.map (·.1) ++ sa.map ownA) (T.map (·.2) ++ ownVs sa σ) o
  nd : o.Nodup
def pushT : R → V → Tmp → Tmp
  | .val true a, v, T => (a, v) :: T
  | _, _, T => T
def RR (K : PySem.W.Frag) (H : Hp) (o : List Addr) (σ : L2.St) : R → V → Prop
  | .val false a, v => RepS K H o a v
  | .val true _, _ => True
  | .peek j, v => σ[j]? = some (some v)
abbrev SM (α : Type) := List Slot → Option (α × List Slot)
def bnd {α β : Type} (m : SM α) (f : α → SM β) : SM β := fun s => match m s with
  | some (a, s') => f a s'
  | none => none
def ret {α : Type} (a : α) : SM α := fun s => some (a, s)
theorem bnd_some {α β : Type} {m : SM α} {f : α → SM β} {s : List Slot} {r : β × List Slot} (h : bnd m f s = some r) : ∃ a s', m s = some (a, s') ∧ f a s' = some r := by
  unfold bnd at h
  split at h
  · rename_i a s' e
    exact ⟨a, s', e, h⟩
  · cases h
def tOf (K : PySem.W.Frag) (m : SM R) : TE := fun σ H Q => ∃ o T sa r sa', m sa = some (r, sa') ∧ SRel K o T sa σ H ∧
  ∀ o' v H', Le o H o' H' → SRel K o' (pushT r v T) sa' σ H' → RR K H' o' σ r v → Q v H'
def tOfT (K : PySem.W.Frag) (m : SM Bool) : TT := fun σ H Q => ∃ o T sa b sa', m sa = some (b, sa') ∧ SRel K o T sa σ H ∧
  ∀ o' H', Le o H o' H' → SRel K o' T sa' σ H' → Q b H'
def pushTs : List R → List V → Tmp → Tmp
  | [], _, T => T
  | r :: rs, v :: vs, T => pushTs rs vs (pushT r v T)
  | _ :: _, [], T => T
inductive RRs (K : PySem.W.Frag) (H : Hp) (o : List Addr) (σ : L2.St) : List R → List V → Prop where
  | nil : RRs K H o σ [] []
  | cons {r : R} {v : V} {rs : List R} {vs : List V} : RR K H o σ r v → RRs K H o σ rs vs → RRs K H o σ (r :: rs) (v :: vs)
def tOfA (K : PySem.W.Frag) (m : SM (List R)) : TA := fun σ H Q => ∃ o T sa rs sa', m sa = some (rs, sa') ∧ SRel K o T sa σ H ∧
  ∀ o' vs H', Le o H o' H' → SRel K o' (pushTs rs vs T) sa' σ H' → RRs K H' o' σ rs vs → Q vs H'
abbrev PM (X : Cx) (e : Expr) (m : SM R) : Prop := PE X e (tOf X.K m)
abbrev PMT (X : Cx) (e : Expr) (m : SM Bool) : Prop := PT X e (tOfT X.K m)
abbrev PMA (X : Cx) (es : List Expr) (m : SM (List R)) : Prop := PA X es (tOfA X.K m)

/-! ### weaker readings -/
theorem PE.weak {X : Cx} {e : Expr} {t u : TE} (h : PE X e t) (w : ∀ σ H Q, u σ H Q → t σ H Q) : PE X e u := ⟨fun pins s σ H Q I q => h.run pins s σ H Q I (w σ H Q q)⟩
theorem PT.weak {X : Cx} {e : Expr} {t u : TT} (h : PT X e t) (w : ∀ σ H Q, u σ H Q → t σ H Q) : PT X e u := ⟨fun pins s σ H Q I q => h.run pins s σ H Q I (w σ H Q q)⟩
theorem PA.weak {X : Cx} {e : List Expr} {t u : TA} (h : PA X e t) (w : ∀ σ H Q, u σ H Q → t σ H Q) : PA X e u := ⟨fun p pins s σ H Q I q => h.run p pins s σ H Q I (w σ H Q q)⟩
theorem PS.weak {X : Cx} {e : Stmt} {t u : TS} (h : PS X e t) (w : ∀ D σ H, u D σ H → t D σ H) : PS X e u := ⟨fun pins s σ H D I q => h.run pins s σ H D I (w D σ H q)⟩
theorem PSs.weak {X : Cx} {e : List Stmt} {t u : TS} (h : PSs X e t) (w : ∀ D σ H, u D σ H → t D σ H) : PSs X e u := ⟨fun pins s σ H D I q => h.run pins s σ H D I (w D σ H q)⟩

/-! ### monotony -/
section
variable {K : PySem.W.Frag} {H H' : Hp} {o o' : List Addr} {T : Tmp} {sa : List Slot} {σ : L2.St}
theorem SRel.mut (S : SRel K o T sa σ H) : ∀ b ∈ o, ∃ u, H b = some u ∧ isMut u = true := S.own.mem
theorem SRel.not (S : SRel K o T sa σ H) {b : Addr} {u : HO} (e : H b = some u) (n : isMut u = false) : b ∉ o := fun hb => by
  obtain ⟨u', e', m⟩ := S.mut b hb
  rw [e] at e'
  cases e'
  rw [n] at m
  cases m
theorem SRel.imm (S : SRel K o T sa σ H) (l : Le o H o' H') : ∀ b u, H b = some u → isMut u = false → H' b = some u := fun b u e n => (l b u e (S.not e n)).1
theorem RepS.mono {a : A} {v : V} (S : SRel K o T sa σ H) (l : Le o H o' H') (r : RepS K H o a v) : RepS K H' o' a v := by
  obtain ⟨fp, r, n⟩ := r
  refine ⟨fp, r.mono (S.imm l) (fun b hb u e => (l b u e (n b hb)).1), fun b hb => ?_⟩
  obtain ⟨u, e, _⟩ := r.mem b hb
  exact (l b u e (n b hb)).2
theorem RR.mono {r : R} {v : V} (S : SRel K o T sa σ H) (l : Le o H o' H') (h : RR K H o σ r v) : RR K H' o' σ r v := by
  cases r with
  | val fl a =>
    cases fl with
    | true => exact True.intro
    | false => exact RepS.mono S l h
  | peek j => exact h
theorem RRs.mono {rs : List R} {vs : List V} (S : SRel K o T sa σ H) (l : Le o H o' H') (h : RRs K H o σ rs vs) : RRs K H' o' σ rs vs := by
  induction h with
  | nil => exact .nil
  | cons h1 _ ih => exact .cons (h1.mono S l) ih
end

/-! ### what a held thing is -/
def rv : R → List Slot → Option A
  | .val _ a, _ => some a
  | .peek j, sa => match sa[j]? with
    | some (some p) => some p.2
    | _ => none
section
variable {K : PySem.W.Frag} {H H' : Hp} {o o' : List Addr} {T : Tmp} {sa : List Slot} {σ : L2.St}
theorem ownVs_get {j : Nat} {s : Slot} {v : Option V} (e : sa[j]? = some s) (e' : σ[j]? = some v) : (ownVs sa σ)[j]? = some (ownV s v) := by
  unfold ownVs
  rw [List.getElem?_zipWith, e, e']
theorem SRel.slot (S : SRel K o T sa σ H) {j : Nat} {p : Bool × A} {v : V} (e : sa[j]? = some (some p)) (e' : σ[j]? = some (some v)) : ∃ fp, Rep K H p.2 v fp ∧ (p.1 = true → ∀ b ∈ fp, b ∈ o) := by
  obtain ⟨fl, a⟩ := p
  cases fl with
  | false =>
    obtain ⟨v', e1, h⟩ := S.sl j false a e
    rw [e'] at e1
    cases e1
    obtain ⟨fp, r, _⟩ := h rfl
    exact ⟨fp, r, fun z => nomatch z⟩
  | true =>
    have h1 : (T.map (·.1) ++ sa.map ownA)[T.length + j]? = some a := by
      rw [List.getElem?_append_right (by simp)]
      simp [e, ownA]
    have h2 : (T.map (·.2) ++ ownVs sa σ)[T.length + j]? = some v := by
      rw [List.getElem?_append_right (by simp)]
      have := ownVs_get e e'
      simpa [ownV] using this
    obtain ⟨f1, fi, f2, rfl, r, _⟩ := S.own.at h1 h2
    exact ⟨fi, r, fun _ b hb => by simp [hb]⟩
/-- the top temporary -/
theorem SRel.top {a : A} {v : V} (S : SRel K o ((a, v) :: T) sa σ H) : ∃ fp o', o = fp ++ o' ∧ Rep K H a v fp ∧ SRel K o' T sa σ H := by
  have h := S.own
  simp only [List.map_cons, List.cons_append] at h
  unfold Reps at h
  obtain ⟨y, r, f, g, e, rfl, h1, h2⟩ := h
  cases e
  refine ⟨f, g, rfl, h1, S.len, fun i fl a' e => ?_, h2, (List.nodup_append.mp S.nd).2.1⟩
  obtain ⟨v', e1, q⟩ := S.sl i fl a' e
  refine ⟨v', e1, fun z => ?_⟩
  obtain ⟨fp, r', n⟩ := q z
  exact ⟨fp, r', fun b hb hg => n b hb (List.mem_append_right _ hg)⟩
theorem Le.drop {f g : List Addr} : Le (f ++ g) H g H := fun b u e n => ⟨e, fun z => n (List.mem_append_right _ z)⟩
theorem SRel.pop {r : R} {v : V} (S : SRel K o (pushT r v T) sa σ H) : ∃ o', SRel K o' T sa σ H ∧ Le o H o' H := by
  cases r with
  | val fl a =>
    cases fl with
    | true =>
      obtain ⟨f, g, rfl, _, S'⟩ := SRel.top S
      exact ⟨g, S', Le.drop⟩
    | false => exact ⟨o, S, Le.refl⟩
  | peek j => exact ⟨o, S, Le.refl⟩
theorem rv_rep {r : R} {v : V} {a : A} (S : SRel K o (pushT r v T) sa σ H) (h : RR K H o σ r v) (e : rv r sa = some a) : ∃ fp, Rep K H a v fp := by
  cases r with
  | val fl a' =>
    have e : a' = a := Option.some.inj e
    subst e
    cases fl with
    | true =>
      obtain ⟨f, g, rfl, r, _⟩ := SRel.top S
      exact ⟨f, r⟩
    | false =>
      obtain ⟨fp, r, _⟩ := h
      exact ⟨fp, r⟩
  | peek j =>
    have e : (match sa[j]? with
      | some (some p) => some p.2
      | _ => none) = some a := e
    split at e
    · rename_i p q
      cases e
      obtain ⟨fp, r, _⟩ := SRel.slot S q h
      exact ⟨fp, r⟩
    · cases e
end
end MM
namespace MM
open PySem PySem.Spec PyProof.Rows L2

def fin : A → R
  | .d x => .val false (.d x)
  | a => .val true a
/-- new things stand at free places, all else is as it was -/
structure Fresh (H H' : Hp) (o : List Addr) : Prop where
  same : ∀ b u, H b = some u → H' b = some u
  nd : o.Nodup
  new : ∀ b ∈ o, H b = none
theorem Fresh.refl {H : Hp} : Fresh H H [] := ⟨fun _ _ h => h, List.nodup_nil, fun _ h => nomatch h⟩

section
variable {K : PySem.W.Frag} {H H' : Hp} {o o' : List Addr} {T : Tmp} {sa : List Slot} {σ : L2.St}
theorem RepS.fresh {a : A} {v : V} (S : SRel K o T sa σ H) (F : Fresh H H' o') (r : RepS K H o a v) : RepS K H' (o' ++ o) a v := by
  obtain ⟨fp, r, n⟩ := r
  refine ⟨fp, r.mono (fun b u e _ => F.same b u e) (fun b _ u e => F.same b u e), fun b hb z => ?_⟩
  rcases List.mem_append.mp z with z | z
  · obtain ⟨u, e, _⟩ := r.mem b hb
    rw [F.new b z] at e
    cases e
  · exact n b hb z
theorem Le.fresh (S : SRel K o T sa σ H) (F : Fresh H H' o') : Le o H (o' ++ o) H' := fun b u e n => ⟨F.same b u e, fun z => by
  rcases List.mem_append.mp z with z | z
  · rw [F.new b z] at e
    cases e
  · exact n z⟩
theorem SRel.fresh {c : A} {v : V} (S : SRel K o T sa σ H) (F : Fresh H H' o') (r : Rep K H' c v o') :
    SRel K (o' ++ o) (pushT (fin c) v T) sa σ H' ∧ Le o H (o' ++ o) H' ∧ RR K H' (o' ++ o) σ (fin c) v := by
  have hs : ∀ (i : Nat) fl a, sa[i]? = some (some (fl, a)) → ∃ v, σ[i]? = some (some v) ∧ (fl = false → RepS K H' (o' ++ o) a v) := fun i fl a e => by
    obtain ⟨v, e1, q⟩ := S.sl i fl a e
    exact ⟨v, e1, fun z => RepS.fresh S F (q z)⟩
  have own' : Reps K H' (T.map (·.1) ++ sa.map ownA) (T.map (·.2) ++ ownVs sa σ) o := S.own.mono (fun b u e _ => F.same b u e) (fun b _ u e => F.same b u e)
  have nd' : (o' ++ o).Nodup := List.nodup_append.mpr ⟨F.nd, S.nd, fun a ha b hb e => by
    subst e
    obtain ⟨u, e, _⟩ := S.mut a hb
    rw [F.new a ha] at e
    cases e⟩
  refine ⟨?_, Le.fresh S F, ?_⟩
  · cases c with
    | d x =>
      have h : RepD K H' x v ∧ o' = [] := by unfold Rep at r; exact r
      obtain ⟨_, rfl⟩ := h
      exact ⟨S.len, hs, own', nd'⟩
    | _ => exact ⟨S.len, hs, Reps.cons r own', nd'⟩
  · cases c with
    | d x =>
      have h : RepD K H' x v ∧ o' = [] := by unfold Rep at r; exact r
      obtain ⟨h, rfl⟩ := h
      refine ⟨[], ?_, fun _ h => nomatch h⟩
      unfold Rep
      exact ⟨h, rfl⟩
    | _ => exact True.intro
end

/-! ### operations by values -/
def Pr1 (K : PySem.W.Frag) (r : V → Hp → VK → Prop) (f : A → Option A) : Prop := ∀ (H : Hp) (a : A) (x : V) (fa : List Addr) (c : A) (Q : VK), Rep K H a x fa → f a = some c →
  (∀ v H' o', Fresh H H' o' → Rep K H' c v o' → Q v H') → r x H Q
def Pr2 (K : PySem.W.Frag) (r : R2) (f : A → A → Option A) : Prop := ∀ (H : Hp) (a b : A) (x y : V) (fa fb : List Addr) (c : A) (Q : VK), Rep K H a x fa → Rep K H b y fb → f a b = some c →
  (∀ v H' o', Fresh H H' o' → Rep K H' c v o' → Q v H') → r x y H Q
def PrN (K : PySem.W.Frag) (r : List V → Hp → VK → Prop) (f : List A → Option A) : Prop := ∀ (H : Hp) (as : List A) (xs : List V) (fa : List Addr) (c : A) (Q : VK), Reps K H as xs fa → f as = some c →
  (∀ v H' o', Fresh H H' o' → Rep K H' c v o' → Q v H') → r xs H Q

def app1 (f : A → Option A) (r : R) : SM R := fun sa => match rv r sa with
  | some a => match f a with
    | some c => some (fin c, sa)
    | none => none
  | none => none
def app2 (f : A → A → Option A) (r1 r2 : R) : SM R := fun sa => match rv r1 sa, rv r2 sa with
  | some a, some b => match f a b with
    | some c => some (fin c, sa)
    | none => none
  | _, _ => none
def rvs : List R → List Slot → Option (List A)
  | [], _ => some []
  | r :: rs, sa => match rv r sa, rvs rs sa with
    | some a, some as => some (a :: as)
    | _, _ => none
def appN (f : List A → Option A) (rs : List R) : SM R := fun sa => match rvs rs sa with
  | some as => match f as with
    | some c => some (fin c, sa)
    | none => none
  | none => none
def m1 (f : A → Option A) (ma : SM R) : SM R := bnd ma fun r => app1 f r
def m2 (f : A → A → Option A) (ma mb : SM R) : SM R := bnd ma fun r1 => bnd mb fun r2 => app2 f r1 r2
def mN (f : List A → Option A) (ms : SM (List R)) : SM R := bnd ms fun rs => appN f rs
theorem app1_some {f : A → Option A} {r r' : R} {sa sa' : List Slot} (h : app1 f r sa = some (r', sa')) : ∃ a c, rv r sa = some a ∧ f a = some c ∧ r' = fin c ∧ sa' = sa := by
  unfold app1 at h
  split at h
  · rename_i a ea
    split at h
    · rename_i c ec
      cases h
      exact ⟨a, c, ea, ec, rfl, rfl⟩
    · cases h
  · cases h
theorem app2_some {f : A → A → Option A} {r1 r2 r' : R} {sa sa' : List Slot} (h : app2 f r1 r2 sa = some (r', sa')) : ∃ a b c, rv r1 sa = some a ∧ rv r2 sa = some b ∧ f a b = some c ∧ r' = fin c ∧ sa' = sa := by
  unfold app2 at h
  split at h
  · rename_i a b ea eb
    split at h
    · rename_i c ec
      cases h
      exact ⟨a, b, c, ea, eb, ec, rfl, rfl⟩
    · cases h
  · cases h
theorem appN_some {f : List A → Option A} {rs : List R} {r' : R} {sa sa' : List Slot} (h : appN f rs sa = some (r', sa')) : ∃ as c, rvs rs sa = some as ∧ f as = some c ∧ r' = fin c ∧ sa' = sa := by
  unfold appN at h
  split at h
  · rename_i a ea
    split at h
    · rename_i c ec
      cases h
      exact ⟨a, c, ea, ec, rfl, rfl⟩
    · cases h
  · cases h
section
variable {K : PySem.W.Frag} {H H' : Hp} {o o' : List Addr} {T : Tmp} {sa sa' : List Slot} {σ : L2.St}
theorem pushTs_pop : ∀ {rs : List R} {vs : List V} {T : Tmp} {o : List Addr}, SRel K o (pushTs rs vs T) sa σ H → ∃ o', SRel K o' T sa σ H ∧ Le o H o' H
  | [], vs, T, o, S => ⟨o, S, Le.refl⟩
  | r :: rs, [], T, o, S => ⟨o, S, Le.refl⟩
  | r :: rs, v :: vs, T, o, S => by
    obtain ⟨o1, S1, L1⟩ := pushTs_pop (rs := rs) (vs := vs) S
    obtain ⟨o2, S2, L2⟩ := SRel.pop S1
    exact ⟨o2, S2, L1.trans L2⟩
theorem rvs_rep : ∀ {rs : List R} {vs : List V} {T : Tmp} {o : List Addr} {as : List A}, SRel K o (pushTs rs vs T) sa σ H → RRs K H o σ rs vs → rvs rs sa = some as → ∃ fp, Reps K H as vs fp
  | [], vs, T, o, as, S, h, e => by
    cases h
    cases e
    exact ⟨[], Reps.nil⟩
  | r :: rs, vs, T, o, as, S, h, e => by
    cases h with
    | @cons _ v _ vs h1 h2 =>
      unfold rvs at e
      split at e
      · rename_i a as' ea eas
        cases e
        have S' : SRel K o (pushTs rs vs (pushT r v T)) sa σ H := S
        obtain ⟨f2, r2⟩ := rvs_rep S' h2 eas
        obtain ⟨o1, S1, L1⟩ := pushTs_pop S'
        obtain ⟨f1, r1⟩ := rv_rep S1 (h1.mono S L1) ea
        exact ⟨f1 ++ f2, Reps.cons r1 r2⟩
      · cases e
end

section
variable {X : Cx} {a b : Expr} {ma mb : SM R} {pos : Pos}
theorem step1 {r : V → Hp → VK → Prop} {f : A → Option A} (p : Pr1 X.K r f) {σ : L2.St} {H : Hp} {Q : VK} (h : tOf X.K (m1 f ma) σ H Q) : tOf X.K ma σ H fun x H1 => r x H1 Q := by
  obtain ⟨o, T, sa, r', sa', e, S, q⟩ := h
  obtain ⟨r1, s1, e1, e2⟩ := bnd_some e
  obtain ⟨a, c, ea, ec, rfl, rfl⟩ := app1_some e2
  refine ⟨o, T, sa, r1, _, e1, S, fun o1 v H1 L1 S1 R1 => ?_⟩
  obtain ⟨fp, ra⟩ := rv_rep S1 R1 ea
  refine p H1 a v fp c Q ra ec fun v' H' o' F r' => ?_
  obtain ⟨o2, S2, L2⟩ := SRel.pop S1
  obtain ⟨S3, L3, R3⟩ := SRel.fresh S2 F r'
  exact q _ v' H' ((L1.trans L2).trans L3) S3 R3
theorem step2 {r : R2} {f : A → A → Option A} (p : Pr2 X.K r f) {σ : L2.St} {H : Hp} {Q : VK} (h : tOf X.K (m2 f ma mb) σ H Q) : tOf X.K ma σ H fun x H1 => tOf X.K mb σ H1 fun y H2 => r x y H2 Q := by
  obtain ⟨o, T, sa, r', sa', e, S, q⟩ := h
  obtain ⟨r1, s1, e1, e2⟩ := bnd_some e
  obtain ⟨r2, s2, e2, e3⟩ := bnd_some e2
  obtain ⟨a, b, c, ea, eb, ec, rfl, rfl⟩ := app2_some e3
  refine ⟨o, T, sa, r1, s1, e1, S, fun o1 v H1 L1 S1 R1 => ?_⟩
  refine ⟨o1, pushT r1 v T, s1, r2, _, e2, S1, fun o2 v2 H2 L2 S2 R2 => ?_⟩
  obtain ⟨fb, rb⟩ := rv_rep S2 R2 eb
  obtain ⟨o3, S3, L3⟩ := SRel.pop S2
  obtain ⟨fa, ra⟩ := rv_rep S3 ((R1.mono S1 L2).mono S2 L3) ea
  refine p H2 a b v v2 fa fb c Q ra rb ec fun v' H' o' F r' => ?_
  obtain ⟨o4, S4, L4⟩ := SRel.pop S3
  obtain ⟨S5, L5, R5⟩ := SRel.fresh S4 F r'
  exact q _ v' H' ((((L1.trans L2).trans L3).trans L4).trans L5) S5 R5
theorem stepN {r : List V → Hp → VK → Prop} {f : List A → Option A} {ms : SM (List R)} (p : PrN X.K r f) {σ : L2.St} {H : Hp} {Q : VK} (h : tOf X.K (mN f ms) σ H Q) : tOfA X.K ms σ H fun xs H1 => r xs H1 Q := by
  obtain ⟨o, T, sa, r', sa', e, S, q⟩ := h
  obtain ⟨rs, s1, e1, e2⟩ := bnd_some e
  obtain ⟨as, c, ea, ec, rfl, rfl⟩ := appN_some e2
  refine ⟨o, T, sa, rs, _, e1, S, fun o1 vs H1 L1 S1 R1 => ?_⟩
  obtain ⟨fp, ra⟩ := rvs_rep S1 R1 ea
  refine p H1 as vs fp c Q ra ec fun v' H' o' F r' => ?_
  obtain ⟨o2, S2, L2⟩ := pushTs_pop S1
  obtain ⟨S3, L3, R3⟩ := SRel.fresh S2 F r'
  exact q _ v' H' ((L1.trans L2).trans L3) S3 R3

/-! ### rules: operators, calls -/
theorem pm_op {op : Operator} {r : R2} {f : A → A → Option A} (ho : OpR X (binaryOp op) r) (p : Pr2 X.K r f) (ha : PM X a ma) (hb : PM X b mb) : PM X (.BinOp a op b pos) (m2 f ma mb) := PE.weak (pe_op ho ha hb) fun σ H Q h => step2 p h
end
end MM
namespace MM
open PySem PySem.Spec PyProof.Rows L2

/-! ### names, constants -/
def mC (x : D) : SM R := ret (.val false (.d x))
def mV (j : Nat) : SM R := fun sa => match sa[j]? with
  | some (some _) => some (.peek j, sa)
  | _ => none
def mMv (j : Nat) : SM R := fun sa => match sa[j]? with
  | some (some (fl, a)) => some (.val fl a, sa.set j none)
  | _ => none
/-- what is to be kept: a slot's own list is from then on shared -/
def use (r : R) : SM (Bool × A) := match r with
  | .val fl a => ret (fl, a)
  | .peek j => fun sa => match sa[j]? with
    | some (some (_, a)) => some ((false, a), sa.set j (some (false, a)))
    | _ => none
section
variable {K : PySem.W.Frag} {H H' : Hp} {o o' : List Addr} {T : Tmp} {sa sa' : List Slot} {σ : L2.St}
theorem RepS.d {x : D} {v : V} (h : RepD K H x v) : RepS K H o (.d x) v := ⟨[], by unfold Rep; exact ⟨h, rfl⟩, fun _ h => nomatch h⟩
theorem ownVs_set {sa : List Slot} {σ : L2.St} {i : Nat} {s : Slot} {v : Option V} (h : i < sa.length) (h' : i < σ.length) : ownVs (sa.set i s) (σ.set i v) = (ownVs sa σ).set i (ownV s v) := by
  unfold ownVs
  apply List.ext_getElem?
  intro j
  rw [List.getElem?_zipWith]
  by_cases e : j = i
  · subst e
    rw [List.getElem?_set_self h, List.getElem?_set_self h', List.getElem?_set_self (by simp; omega)]
  · rw [List.getElem?_set_ne (Ne.symm e), List.getElem?_set_ne (Ne.symm e), List.getElem?_set_ne (Ne.symm e), List.getElem?_zipWith]
theorem ownVs_set1 {sa : List Slot} {σ : L2.St} {i : Nat} {s : Slot} {v : Option V} (h : i < sa.length) (hv : σ[i]? = some v) : ownVs (sa.set i s) σ = (ownVs sa σ).set i (ownV s v) := by
  have h' : i < σ.length := (List.getElem?_eq_some_iff.mp hv).1
  have e : σ.set i v = σ := by
    apply List.ext_getElem?
    intro j
    by_cases e : j = i
    · subst e
      rw [List.getElem?_set_self h', hv]
    · rw [List.getElem?_set_ne (Ne.symm e)]
  have := ownVs_set (s := s) (v := v) h h'
  rw [e] at this
  exact this
theorem RepS.sub {a : A} {v : V} (h : ∀ b, b ∈ o' → b ∈ o) (r : RepS K H o a v) : RepS K H o' a v := by
  obtain ⟨fp, r, n⟩ := r
  exact ⟨fp, r, fun b hb z => n b hb (h b z)⟩
/-- slot j is let go -/
theorem SRel.out {j : Nat} {p : Bool × A} {v : V} (S : SRel K o T sa σ H) (e : sa[j]? = some (some p)) (e' : σ[j]? = some (some v)) :
    ∃ fi o', Rep K H p.2 v fi ∧ SRel K o' T (sa.set j none) σ H ∧ (∀ b, b ∈ o' → b ∈ o) ∧ (p.1 = true → (∀ b, b ∈ o → b ∈ fi ∨ b ∈ o') ∧ (fi ++ o').Nodup ∧ (∀ b ∈ fi, b ∈ o)) ∧ (p.1 = false → o' = o ∧ ∀ b ∈ fi, b ∉ o) := by
  have hj : j < sa.length := (List.getElem?_eq_some_iff.mp e).1
  have h1 : (T.map (·.1) ++ sa.map ownA)[T.length + j]? = some (ownA (some p)) := by
    rw [List.getElem?_append_right (by simp)]
    simp [e]
  have h2 : (T.map (·.2) ++ ownVs sa σ)[T.length + j]? = some (ownV (some p) (some v)) := by
    rw [List.getElem?_append_right (by simp)]
    simpa using ownVs_get e e'
  obtain ⟨f1, fi, f2, rfl, r, put⟩ := S.own.set h1 h2
  have put' := put (x' := .d .non) (y' := .non) (g := []) (by unfold Rep; exact ⟨by unfold RepD; rfl, rfl⟩)
  have sx : (T.map (·.1) ++ sa.map ownA).set (T.length + j) (.d .non) = T.map (·.1) ++ (sa.set j none).map ownA := by
    rw [List.set_append_right _ _ (by simp)]
    simp [List.map_set, ownA]
  have sy : (T.map (·.2) ++ ownVs sa σ).set (T.length + j) .non = T.map (·.2) ++ ownVs (sa.set j none) σ := by
    rw [List.set_append_right _ _ (by simp), ownVs_set1 hj e']
    simp [ownV]
  rw [sx, sy, List.append_nil] at put'
  have nd := S.nd
  have nd' : (fi ++ (f1 ++ f2)).Nodup := by
    rw [List.append_assoc] at nd
    exact (List.perm_append_comm_assoc fi f1 f2).symm.nodup nd
  have sub : ∀ b, b ∈ f1 ++ f2 → b ∈ f1 ++ fi ++ f2 := fun b hb => by
    simp only [List.mem_append] at hb ⊢
    rcases hb with h | h
    · exact .inl (.inl h)
    · exact .inr h
  have S' : SRel K (f1 ++ f2) T (sa.set j none) σ H := by
    refine ⟨by simp [S.len], fun i fl a q => ?_, put', (List.nodup_append.mp nd').2.1⟩
    by_cases hi : i = j
    · subst hi
      rw [List.getElem?_set_self hj] at q
      cases q
    · rw [List.getElem?_set_ne (Ne.symm hi)] at q
      obtain ⟨w, e1, z⟩ := S.sl i fl a q
      exact ⟨w, e1, fun y => (z y).sub sub⟩
  obtain ⟨fl, a⟩ := p
  cases fl with
  | true =>
    refine ⟨fi, f1 ++ f2, r, S', sub, fun _ => ⟨fun b hb => ?_, nd', fun b hb => by simp [hb]⟩, fun z => Bool.noConfusion z⟩
    simp only [List.mem_append] at hb ⊢
    rcases hb with (h | h) | h
    · exact .inr (.inl h)
    · exact .inl h
    · exact .inr (.inr h)
  | false =>
    have hr : Rep K H (.d .non) .non fi := r
    have : fi = [] := by
      unfold Rep at hr
      exact hr.2
    subst this
    obtain ⟨w, e1, z⟩ := S.sl j false a e
    rw [e'] at e1
    cases e1
    obtain ⟨fp, rp, n⟩ := z rfl
    refine ⟨fp, f1 ++ f2, rp, S', sub, (fun z => Bool.noConfusion z), fun _ => ⟨by simp, n⟩⟩
/-- a thing is put into slot j -/
theorem SRel.put {j : Nat} {fl : Bool} {a : A} {v : V} (S : SRel K o (pushT (.val fl a) v T) sa σ H) (R : RR K H o σ (.val fl a) v) (hj : j < sa.length) :
    ∃ o', SRel K o' T (sa.set j (some (fl, a))) (σ.set j (some v)) H ∧ Le o H o' H := by
  -- first what stands there goes
  have hs : j < σ.length := by rw [← S.len]; exact hj
  have clear : ∀ {T : Tmp} {o : List Addr}, SRel K o T sa σ H → ∃ o', SRel K o' T (sa.set j none) σ H ∧ (∀ b, b ∈ o' → b ∈ o) := fun {T o} S => by
    cases q : sa[j] with
    | none =>
      have : sa.set j none = sa := by
        apply List.ext_getElem?
        intro i
        by_cases e : i = j
        · subst e
          rw [List.getElem?_set_self hj, List.getElem?_eq_getElem hj, q]
        · rw [List.getElem?_set_ne (Ne.symm e)]
      rw [this]
      exact ⟨o, S, fun _ h => h⟩
    | some p =>
      have e : sa[j]? = some (some p) := by rw [List.getElem?_eq_getElem hj, q]
      obtain ⟨w, e1, _⟩ := S.sl j p.1 p.2 e
      obtain ⟨fi, o', _, S', sub, _⟩ := SRel.out S e e1
      exact ⟨o', S', sub⟩
  cases fl with
  | false =>
    obtain ⟨o', S', sub⟩ := clear S
    refine ⟨o', ⟨by simp [S.len], fun i fl' a' q => ?_, ?_, S'.nd⟩, fun b u e n => ⟨e, fun z => n (sub b z)⟩⟩
    · by_cases hi : i = j
      · subst hi
        rw [List.getElem?_set_self hj] at q
        cases q
        exact ⟨v, List.getElem?_set_self hs, fun _ => RepS.sub sub R⟩
      · rw [List.getElem?_set_ne (Ne.symm hi)] at q
        obtain ⟨w, e1, z⟩ := S'.sl i fl' a' (by rw [List.getElem?_set_ne (Ne.symm hi)]; exact q)
        exact ⟨w, by rw [List.getElem?_set_ne (Ne.symm hi)]; exact e1, z⟩
    · have h := S'.own
      have e1 : (sa.set j (some (false, a))).map ownA = (sa.set j none).map ownA := by simp [List.map_set, ownA]
      have e2 : ownVs (sa.set j (some (false, a))) (σ.set j (some v)) = ownVs (sa.set j none) σ := by
        rw [ownVs_set hj hs, ownVs_set1 hj (List.getElem?_eq_getElem hs)]
        simp [ownV]
      rw [e1, e2]
      exact h
  | true =>
    obtain ⟨o', S', sub⟩ := clear S
    have h := S'.own
    have h : Reps K H (a :: (T.map (·.1) ++ (sa.set j none).map ownA)) (v :: (T.map (·.2) ++ ownVs (sa.set j none) σ)) o' := h
    unfold Reps at h
    obtain ⟨y, r, f, g, e, rfl, ra, h⟩ := h
    cases e
    have h1 : (T.map (·.1) ++ (sa.set j none).map ownA)[T.length + j]? = some (.d .non) := by
      rw [List.getElem?_append_right (by simp)]
      simp [hj, ownA]
    have h2 : (T.map (·.2) ++ ownVs (sa.set j none) σ)[T.length + j]? = some .non := by
      rw [List.getElem?_append_right (by simp)]
      have := ownVs_get (sa := sa.set j none) (σ := σ) (j := j) (List.getElem?_set_self hj) (List.getElem?_eq_getElem hs)
      simpa [ownV] using this
    obtain ⟨f1, fi, f2, rfl, r0, put⟩ := Reps.set h h1 h2
    have : fi = [] := by
      unfold Rep at r0
      exact r0.2
    subst this
    have own' := put ra
    have sx : (T.map (·.1) ++ (sa.set j none).map ownA).set (T.length + j) a = T.map (·.1) ++ (sa.set j (some (true, a))).map ownA := by
      rw [List.set_append_right _ _ (by simp)]
      simp [List.map_set, ownA]
    have sy : (T.map (·.2) ++ ownVs (sa.set j none) σ).set (T.length + j) v = T.map (·.2) ++ ownVs (sa.set j (some (true, a))) (σ.set j (some v)) := by
      rw [List.set_append_right _ _ (by simp), ownVs_set hj hs, ownVs_set1 hj (List.getElem?_eq_getElem hs)]
      simp [ownV]
    rw [sx, sy] at own'
    have nd := S'.nd
    have mem : ∀ b, b ∈ f1 ++ f ++ f2 → b ∈ f ++ (f1 ++ [] ++ f2) := fun b hb => by
      simp only [List.mem_append, List.append_nil] at hb ⊢
      rcases hb with (h | h) | h
      · exact .inr (.inl h)
      · exact .inl h
      · exact .inr (.inr h)
    refine ⟨f1 ++ f ++ f2, ⟨by simp [S.len], fun i fl' a' q => ?_, own', ?_⟩, fun b u e n => ⟨e, fun z => n (sub b (mem b z))⟩⟩
    · by_cases hi : i = j
      · subst hi
        rw [List.getElem?_set_self hj] at q
        cases q
        exact ⟨v, List.getElem?_set_self hs, fun z => nomatch z⟩
      · rw [List.getElem?_set_ne (Ne.symm hi)] at q
        obtain ⟨w, e1, z⟩ := S'.sl i fl' a' (by rw [List.getElem?_set_ne (Ne.symm hi)]; exact q)
        exact ⟨w, by rw [List.getElem?_set_ne (Ne.symm hi)]; exact e1, fun y => RepS.sub mem (z y)⟩
    · rw [List.append_nil] at nd
      rw [List.append_assoc]
      exact (List.perm_append_comm_assoc f1 f f2).symm.nodup nd
theorem bnd_use {r : R} {fl : Bool} {a : A} {v : V} (S : SRel K o (pushT r v T) sa σ H) (R : RR K H o σ r v) (e : use r sa = some ((fl, a), sa')) :
    ∃ o', SRel K o' (pushT (.val fl a) v T) sa' σ H ∧ Le o H o' H ∧ RR K H o' σ (.val fl a) v ∧ sa'.length = sa.length := by
  cases r with
  | val fl' a' =>
    cases e
    exact ⟨o, S, Le.refl, R, rfl⟩
  | peek j =>
    have e : (match sa[j]? with
      | some (some (_, a)) => some (((false, a) : Bool × A), sa.set j (some (false, a)))
      | _ => none) = some ((fl, a), sa') := e
    split at e
    · rename_i fl0 a0 q
      cases e
      have hj : j < sa.length := (List.getElem?_eq_some_iff.mp q).1
      have R : σ[j]? = some (some v) := R
      obtain ⟨fi, o', ra, S', sub, h1, h2⟩ := SRel.out S q R
      have nfi : ∀ b ∈ fi, b ∉ o' := fun b hb z => by
        cases fl0 with
        | true => exact (List.nodup_append.mp (h1 rfl).2.1).2.2 b hb b z rfl
        | false =>
          obtain ⟨rfl, n⟩ := h2 rfl
          exact n b hb z
      have rs : RepS K H o' a v := ⟨fi, ra, nfi⟩
      obtain ⟨o2, S2, l2⟩ := SRel.put (j := j) (fl := false) (a := a) (v := v) (T := T) S' rs (by simpa using hj)
      have e2 : (sa.set j none).set j (some (false, a)) = sa.set j (some (false, a)) := by simp
      have e3 : σ.set j (some v) = σ := by
        apply List.ext_getElem?
        intro i
        by_cases e : i = j
        · subst e
          rw [List.getElem?_set_self (List.getElem?_eq_some_iff.mp R).1, R]
        · rw [List.getElem?_set_ne (Ne.symm e)]
      rw [e2, e3] at S2
      have L1 : Le o H o' H := fun b u e n => ⟨e, fun z => n (sub b z)⟩
      exact ⟨o2, S2, L1.trans l2, RepS.mono S' l2 rs, by simp⟩
    · cases e
end
section
variable {X : Cx} {pos : Pos}
theorem pm_v {x : Str} {i : Nat} (h : PE X (.Name x pos) (tVar i)) : PM X (.Name x pos) (mV i) := PE.weak h fun σ H Q h => by
  obtain ⟨o, T, sa, r, sa', e, S, q⟩ := h
  unfold mV at e
  split at e
  · rename_i p ep
    cases e
    obtain ⟨v, e1, _⟩ := S.sl i p.1 p.2 ep
    exact ⟨v, e1, q o v H Le.refl S e1⟩
  · cases e
theorem pm_mv {x : Str} {i : Nat} (h : PE X (.Name x pos) (tVar i)) : PM X (.Name x pos) (mMv i) := PE.weak h fun σ H Q h => by
  obtain ⟨o, T, sa, r, sa', e, S, q⟩ := h
  unfold mMv at e
  split at e
  · rename_i fl a ep
    cases e
    obtain ⟨v, e1, _⟩ := S.sl i fl a ep
    refine ⟨v, e1, ?_⟩
    obtain ⟨fi, o', ra, S', sub, h1, h2⟩ := SRel.out S ep e1
    cases fl with
    | false =>
      obtain ⟨rfl, n⟩ := h2 rfl
      exact q o' v H Le.refl S' ⟨fi, ra, n⟩
    | true =>
      obtain ⟨m, nd, mo⟩ := h1 rfl
      refine q (fi ++ o') v H (fun b u e n => ⟨e, fun z => ?_⟩) ⟨S'.len, fun i' fl' a' q' => ?_, Reps.cons ra S'.own, nd⟩ True.intro
      · rcases List.mem_append.mp z with z | z
        · exact n (mo b z)
        · exact n (sub b z)
      · obtain ⟨w, e1, z⟩ := S.sl i' fl' a' (by
          by_cases hi : i' = i
          · subst hi
            rw [List.getElem?_set_self (List.getElem?_eq_some_iff.mp ep).1] at q'
            cases q'
          · rw [List.getElem?_set_ne (Ne.symm hi)] at q'
            exact q')
        exact ⟨w, e1, fun y => RepS.sub (fun b hb => by
          rcases List.mem_append.mp hb with hb | hb
          · exact mo b hb
          · exact sub b hb) (z y)⟩
  · cases e
theorem pm_c {e : Expr} {x : D} {v : V} (h : PE X e (tC v)) (r : ∀ K H, RepD K H x v) : PM X e (mC x) := PE.weak h fun σ H Q h => by
  obtain ⟨o, T, sa, r', sa', e, S, q⟩ := h
  cases e
  exact q o v H Le.refl S (RepS.d (r _ _))
theorem pm_int {i : Int} {j} : PM X (.Constant (.int i) j pos) (mC (.int i)) := pm_c pe_int fun K H => by unfold RepD; rfl
theorem pm_bl {b : Bool} {j} : PM X (.Constant (.bool b) j pos) (mC (.bl b)) := pm_c pe_bl fun K H => by unfold RepD; rfl
theorem pm_non {j} : PM X (.Constant .none j pos) (mC .non) := pm_c pe_non fun K H => by unfold RepD; rfl
theorem pm_str {x : Str} {j} : PM X (.Constant (.str x) j pos) (mC (.str x)) := pm_c pe_str fun K H => by unfold RepD; rfl
end
end MM
namespace MM
open PySem PySem.Spec PyProof.Rows L2

/-! ### what operations do with values -/
abbrev A.i (n : Int) : A := .d (.int n)
abbrev A.b (b : Bool) : A := .d (.bl b)
abbrev A.s (x : Str) : A := .d (.str x)
abbrev A.n : A := .d .non
abbrev A.t (xs : List D) : A := .d (.tup xs)

def mulB (i j : Int) : Bool := decide (-(2 ^ 64) < i ∧ i < 2 ^ 64) || decide (-(2 ^ 64) < j ∧ j < 2 ^ 64) || decide (i.natAbs.log2 + j.natAbs.log2 < 1000000)
def divB (j : Int) : Bool := decide (j ≠ 0 ∧ j.natAbs < 1073741824) || decide (0 < j ∧ j.natAbs.log2 < 9000)
def szB (n : Nat) : Bool := decide (n ≤ 16777216)
theorem szB_ok {n : Nat} (h : szB n = true) : n ≤ sizeLine := by
  have := of_decide_eq_true h
  rw [sizeLine_eq]
  exact this
/-- data in a list of values -/
def allD : List A → Option (List D)
  | [] => some []
  | .d x :: r => (allD r).map (x :: ·)
  | _ :: _ => none
def mkL (xs : List A) : A := match allD xs with
  | some ds => .ls ds
  | none => .lst xs
def mkT (xs : List A) : A := match allD xs with
  | some ds => .d (.tup ds)
  | none => .tpl xs
theorem allD_map : ∀ ds : List D, allD (ds.map .d) = some ds
  | [] => rfl
  | d :: ds => by
    show (allD (ds.map .d)).map (d :: ·) = _
    rw [allD_map ds]
    rfl
theorem allD_eq : ∀ {xs : List A} {ds : List D}, allD xs = some ds → xs = ds.map .d
  | [], ds, h => by cases h; rfl
  | .d x :: r, ds, h => by
    have h : (allD r).map (x :: ·) = some ds := h
    cases e : allD r with
    | none => rw [e] at h; cases h
    | some q =>
      rw [e] at h
      cases h
      rw [allD_eq e]
      rfl
  | .ls _ :: _, _, h => by cases h
  | .lst _ :: _, _, h => by cases h
  | .tpl _ :: _, _, h => by cases h
  | .dd _ :: _, _, h => by cases h
section
variable {K : PySem.W.Frag} {H : Hp}
theorem Reps.data : ∀ {ds : List D} {ys : List V} {f : List Addr}, Reps K H (ds.map .d) ys f → RepDs K H ds ys ∧ f = []
  | [], ys, f, h => by
    unfold Reps at h
    obtain ⟨rfl, rfl⟩ := h
    unfold RepDs
    exact ⟨rfl, rfl⟩
  | d :: ds, ys, f, h => by
    have h : Reps K H (.d d :: ds.map .d) ys f := h
    unfold Reps at h
    obtain ⟨y, r, f1, f2, rfl, rfl, h1, h2⟩ := h
    obtain ⟨h3, rfl⟩ := Reps.data h2
    unfold Rep at h1
    obtain ⟨h1, rfl⟩ := h1
    unfold RepDs
    exact ⟨⟨y, r, rfl, h1, h3⟩, rfl⟩
theorem Reps.ofData : ∀ {ds : List D} {ys : List V}, RepDs K H ds ys → Reps K H (ds.map .d) ys []
  | [], ys, h => by
    unfold RepDs at h
    subst h
    exact Reps.nil
  | d :: ds, ys, h => by
    unfold RepDs at h
    obtain ⟨y, r, rfl, h1, h2⟩ := h
    have : Rep K H (.d d) y [] := by unfold Rep; exact ⟨h1, rfl⟩
    exact Reps.cons this (Reps.ofData h2)
theorem RepDs.len : ∀ {ds : List D} {ys : List V}, RepDs K H ds ys → ds.length = ys.length
  | [], ys, h => by
    unfold RepDs at h
    subst h
    rfl
  | d :: ds, ys, h => by
    unfold RepDs at h
    obtain ⟨y, r, rfl, h1, h2⟩ := h
    simp [RepDs.len h2]
theorem RepDs.get : ∀ {ds : List D} {ys : List V} {i : Nat} {d : D}, RepDs K H ds ys → ds[i]? = some d → ∃ y, ys[i]? = some y ∧ RepD K H d y
  | [], ys, i, d, h, e => by simp at e
  | d' :: ds, ys, 0, d, h, e => by
    unfold RepDs at h
    obtain ⟨y, r, rfl, h1, h2⟩ := h
    simp at e
    subst e
    exact ⟨y, rfl, h1⟩
  | d' :: ds, ys, i + 1, d, h, e => by
    unfold RepDs at h
    obtain ⟨y, r, rfl, h1, h2⟩ := h
    simp at e
    obtain ⟨z, e1, e2⟩ := RepDs.get h2 e
    exact ⟨z, by simpa using e1, e2⟩
theorem RepDs.append : ∀ {ds es : List D} {ys zs : List V}, RepDs K H ds ys → RepDs K H es zs → RepDs K H (ds ++ es) (ys ++ zs)
  | [], es, ys, zs, h, h' => by
    unfold RepDs at h
    subst h
    exact h'
  | d :: ds, es, ys, zs, h, h' => by
    unfold RepDs at h
    obtain ⟨y, r, rfl, h1, h2⟩ := h
    show RepDs K H (d :: (ds ++ es)) _
    unfold RepDs
    exact ⟨y, r ++ zs, rfl, h1, RepDs.append h2 h'⟩
theorem RepDs.take : ∀ {ds : List D} {ys : List V} (n : Nat), RepDs K H ds ys → RepDs K H (ds.take n) (ys.take n)
  | _, _, 0, _ => by
    simp
    unfold RepDs
    rfl
  | [], ys, n + 1, h => by
    unfold RepDs at h
    subst h
    simp
    unfold RepDs
    rfl
  | d :: ds, ys, n + 1, h => by
    unfold RepDs at h
    obtain ⟨y, r, rfl, h1, h2⟩ := h
    show RepDs K H (d :: ds.take n) (y :: r.take n)
    unfold RepDs
    exact ⟨y, r.take n, rfl, h1, RepDs.take n h2⟩
theorem RepDs.drop : ∀ {ds : List D} {ys : List V} (n : Nat), RepDs K H ds ys → RepDs K H (ds.drop n) (ys.drop n)
  | _, _, 0, h => h
  | [], ys, n + 1, h => by
    unfold RepDs at h
    subst h
    simp
    unfold RepDs
    rfl
  | d :: ds, ys, n + 1, h => by
    unfold RepDs at h
    obtain ⟨y, r, rfl, h1, h2⟩ := h
    exact RepDs.drop n h2
theorem repD_d {x : D} {v : V} {f : List Addr} (h : Rep K H (.d x) v f) : RepD K H x v := by
  unfold Rep at h
  exact h.1
theorem rep_d {x : D} {v : V} (h : RepD K H x v) : Rep K H (.d x) v [] := by
  unfold Rep
  exact ⟨h, rfl⟩
theorem rep_int {i : Int} : Rep K H (.d (.int i)) (.int i) [] := rep_d (by unfold RepD; rfl)
theorem rep_bl {i : Bool} : Rep K H (.d (.bl i)) (.bl i) [] := rep_d (by unfold RepD; rfl)
theorem rep_str {i : Str} : Rep K H (.d (.str i)) (.str i) [] := rep_d (by unfold RepD; rfl)
theorem rep_non : Rep K H (.d .non) .non [] := rep_d (by unfold RepD; rfl)
theorem int_of {i : Int} {v : V} {f : List Addr} (h : Rep K H (.d (.int i)) v f) : v = .int i := by
  have := repD_d h
  unfold RepD at this
  exact this
theorem bl_of {i : Bool} {v : V} {f : List Addr} (h : Rep K H (.d (.bl i)) v f) : v = .bl i := by
  have := repD_d h
  unfold RepD at this
  exact this
theorem str_of {i : Str} {v : V} {f : List Addr} (h : Rep K H (.d (.str i)) v f) : v = .str i := by
  have := repD_d h
  unfold RepD at this
  exact this
theorem non_of {v : V} {f : List Addr} (h : Rep K H (.d .non) v f) : v = .non := by
  have := repD_d h
  unfold RepD at this
  exact this
theorem tup_of {xs : List D} {v : V} {f : List Addr} (h : Rep K H (.d (.tup xs)) v f) : ∃ a ys, v = .ref a ∧ SqT K H a ys ∧ RepDs K H xs ys := by
  have := repD_d h
  unfold RepD at this
  exact this
theorem opq_of {w v : V} {f : List Addr} (h : Rep K H (.d (.opq w)) v f) : v = w := by
  have := repD_d h
  unfold RepD at this
  exact this
theorem ls_of {xs : List D} {v : V} {f : List Addr} (h : Rep K H (.ls xs) v f) : ∃ a ys, v = .ref a ∧ H a = some (.lst ys) ∧ RepDs K H xs ys ∧ f = [a] := by
  unfold Rep at h
  exact h
theorem lst_of {xs : List A} {v : V} {f : List Addr} (h : Rep K H (.lst xs) v f) : ∃ a ys g, v = .ref a ∧ H a = some (.lst ys) ∧ Reps K H xs ys g ∧ f = a :: g := by
  unfold Rep at h
  exact h
theorem tpl_of {xs : List A} {v : V} {f : List Addr} (h : Rep K H (.tpl xs) v f) : ∃ a ys, v = .ref a ∧ SqT K H a ys ∧ Reps K H xs ys f := by
  unfold Rep at h
  exact h
end
/-- a new object, tracked -/
theorem Fresh.one {H : Hp} {p : Addr} {o : HO} (h : H p = none) : Fresh H (upd H p o) [p] := ⟨fun b u e => by rw [upd_ne (ne_of_none e h)]; exact e, by simp, fun b hb => by
  have : b = p := by simpa using hb
  rw [this]
  exact h⟩
theorem Fresh.new0 {H : Hp} {p : Addr} {o : HO} (h : H p = none) : Fresh H (upd H p o) [] := ⟨fun b u e => by rw [upd_ne (ne_of_none e h)]; exact e, by simp, fun _ h => nomatch h⟩
theorem Fresh.immu {H H' : Hp} {o : List Addr} (F : Fresh H H' o) : ∀ b u, H b = some u → isMut u = false → H' b = some u := fun b u e _ => F.same b u e
theorem Reps.fresh {K : PySem.W.Frag} {H H' : Hp} {o : List Addr} (F : Fresh H H' o) {xs : List A} {ys : List V} {f : List Addr} (h : Reps K H xs ys f) : Reps K H' xs ys f := h.mono F.immu fun b _ u e => F.same b u e
theorem RepDs.fresh {K : PySem.W.Frag} {H H' : Hp} {o : List Addr} (F : Fresh H H' o) {xs : List D} {ys : List V} (h : RepDs K H xs ys) : RepDs K H' xs ys := h.mono F.immu
theorem RepD.fresh {K : PySem.W.Frag} {H H' : Hp} {o : List Addr} (F : Fresh H H' o) {x : D} {y : V} (h : RepD K H x y) : RepD K H' x y := h.mono F.immu
/-- a new list of data -/
theorem rep_ls {K : PySem.W.Frag} {H : Hp} {p : Addr} {xs : List D} {ys : List V} (h : RepDs K H xs ys) (n : H p = none) : Rep K (upd H p (.lst ys)) (.ls xs) (.ref p) [p] := by
  unfold Rep
  exact ⟨p, ys, rfl, upd_same, RepDs.fresh (Fresh.one n) h, rfl⟩
/-- a new tuple of data -/
theorem rep_tup {K : PySem.W.Frag} {H : Hp} {p : Addr} {xs : List D} {ys : List V} (h : RepDs K H xs ys) (n : H p = none) : Rep K (upd H p (.tup ys)) (.d (.tup xs)) (.ref p) [] := by
  refine rep_d ?_
  unfold RepD
  exact ⟨p, ys, rfl, .inl (.inl upd_same), RepDs.fresh (Fresh.new0 n) h⟩
theorem rep_tupAt {K : PySem.W.Frag} {H : Hp} {p : Addr} {xs : List D} {ys : List V} (h : RepDs K H xs ys) (n : SqT K H p ys) : Rep K H (.d (.tup xs)) (.ref p) [] := by
  refine rep_d ?_
  unfold RepD
  exact ⟨p, ys, rfl, n, h⟩

/-! ### arithmetic -/
def addA : A → A → Option A
  | .d (.int i), .d (.int j) => some (.i (i + j))
  | .d (.str x), .d (.str y) => if szB (x.length + y.length) then some (.s (x ++ y)) else none
  | .d (.tup xs), .d (.tup ys) => if szB (xs.length + ys.length) then some (.t (xs ++ ys)) else none
  | .ls xs, .ls ys => if szB (xs.length + ys.length) then some (.ls (xs ++ ys)) else none
  | _, _ => none
def subA : A → A → Option A
  | .d (.int i), .d (.int j) => some (.i (i - j))
  | _, _ => none
def mulA : A → A → Option A
  | .d (.int i), .d (.int j) => if mulB i j then some (.i (i * j)) else none
  | .ls xs, .d (.int k) => if decide (k < 2 ^ 63 ∧ -(2 ^ 63) ≤ k) && szB (xs.length * k.toNat) then some (.ls (List.replicate k.toNat xs).flatten) else none
  | _, _ => none
def fdivA : A → A → Option A
  | .d (.int i), .d (.int j) => if divB j then some (.i (i.fdiv j)) else none
  | _, _ => none
def modA : A → A → Option A
  | .d (.int i), .d (.int j) => if j = 0 then none else some (.i (i.fmod j))
  | _, _ => none
def negA : A → Option A
  | .d (.int i) => some (.i (-i))
  | _ => none
def rAddA (K : PySem.W.Frag) : R2 := fun x y H Q => ((rI0 fun i j => .int (i + j)) x y H Q ∨ (∃ i j, x = .str i ∧ y = .str j ∧ i.length + j.length ≤ sizeLine ∧ Q (.str (i ++ j)) H)) ∨ (rCatA K x y H Q ∨ rCat x y H Q)
section
variable {X : Cx}
theorem pr_add {K : PySem.W.Frag} : Pr2 K (rAddA K) addA := by
  intro H a b x y fa fb c Q ra rb e q
  unfold addA at e
  split at e
  · cases e
    exact .inl (.inl ⟨_, _, int_of ra, int_of rb, q _ H [] Fresh.refl rep_int⟩)
  · split at e
    · rename_i hz
      cases e
      exact .inl (.inr ⟨_, _, str_of ra, str_of rb, szB_ok hz, q _ H [] Fresh.refl rep_str⟩)
    · cases e
  · split at e
    · rename_i xs ys hz
      cases e
      obtain ⟨p, us, rfl, hp, ru⟩ := tup_of ra
      obtain ⟨p2, ws, rfl, hp2, rw'⟩ := tup_of rb
      have l1 := ru.len
      have l2 := rw'.len
      refine .inr (.inl ⟨p, p2, us, ws, rfl, rfl, hp, hp2, by rw [← l1, ← l2]; exact szB_ok hz, fun z => ?_, fun _ z => ?_, fun _ _ l hl => q _ _ [] (Fresh.new0 hl) (rep_tup (ru.append rw') hl)⟩)
      · subst z
        have : xs = [] := List.eq_nil_of_length_eq_zero l1
        subst this
        exact q _ H [] Fresh.refl (rep_d (repD_d rb))
      · subst z
        have : ys = [] := List.eq_nil_of_length_eq_zero l2
        subst this
        rw [List.append_nil] at q
        exact q _ H [] Fresh.refl (rep_d (repD_d ra))
    · cases e
  · split at e
    · rename_i xs ys hz
      cases e
      obtain ⟨p, us, rfl, hp, ru, rfl⟩ := ls_of ra
      obtain ⟨p2, ws, rfl, hp2, rw', rfl⟩ := ls_of rb
      have l1 := ru.len
      have l2 := rw'.len
      exact .inr (.inr ⟨p, p2, us, ws, rfl, rfl, hp, hp2, by rw [← l1, ← l2]; exact szB_ok hz, fun l hl => q _ _ [l] (Fresh.one hl) (rep_ls (ru.append rw') hl)⟩)
    · cases e
  · cases e
theorem op_addA : OpR X (binaryOp .Add) (rAddA X.K) := (op_add.or op_add_str).or (op_catA.or op_cat)
theorem pr_sub {K : PySem.W.Frag} : Pr2 K (rI0 fun i j => .int (i - j)) subA := by
  intro H a b x y fa fb c Q ra rb e q
  unfold subA at e
  split at e
  · cases e
    exact ⟨_, _, int_of ra, int_of rb, q _ H [] Fresh.refl rep_int⟩
  · cases e
def rMulA : R2 := fun x y H Q => (rI CMul (fun i j => .int (i * j)) x y H Q ∨ rI CMulW (fun i j => .int (i * j)) x y H Q) ∨ rRep x y H Q
theorem op_mulA : OpR X (binaryOp .Mult) rMulA := (op_mul.or op_mulW).or op_rep
theorem rep_flat {K : PySem.W.Frag} {H : Hp} {xs : List D} {ys : List V} (h : RepDs K H xs ys) : ∀ n : Nat, RepDs K H (List.replicate n xs).flatten (List.replicate n ys).flatten
  | 0 => by
    simp
    unfold RepDs
    rfl
  | n + 1 => by
    simp only [List.replicate_succ, List.flatten_cons]
    exact h.append (rep_flat h n)
theorem pr_mul {K : PySem.W.Frag} : Pr2 K rMulA mulA := by
  intro H a b x y fa fb c Q ra rb e q
  unfold mulA at e
  split at e
  · split at e
    · rename_i hz
      cases e
      unfold mulB at hz
      simp only [Bool.or_eq_true, decide_eq_true_eq] at hz
      rcases hz with (hz | hz) | hz
      · exact .inl (.inl ⟨_, _, int_of ra, int_of rb, .inl hz, q _ H [] Fresh.refl rep_int⟩)
      · exact .inl (.inl ⟨_, _, int_of ra, int_of rb, .inr hz, q _ H [] Fresh.refl rep_int⟩)
      · exact .inl (.inr ⟨_, _, int_of ra, int_of rb, hz, q _ H [] Fresh.refl rep_int⟩)
    · cases e
  · split at e
    · rename_i xs k hz
      cases e
      obtain ⟨p, us, rfl, hp, ru, rfl⟩ := ls_of ra
      have l1 := ru.len
      rw [Bool.and_eq_true] at hz
      obtain ⟨h1, h2⟩ := hz
      have h1 := of_decide_eq_true h1
      exact .inr ⟨p, k, us, rfl, int_of rb, hp, h1.2, h1.1, by rw [← l1]; exact szB_ok h2, fun l hl => q _ _ [l] (Fresh.one hl) (rep_ls (rep_flat ru _) hl)⟩
    · cases e
  · cases e
def rDivA : R2 := fun x y H Q => rI CDivN (fun i j => .int (i.fdiv j)) x y H Q ∨ rI CDivW (fun i j => .int (i / j)) x y H Q
theorem op_divA : OpR X (binaryOp .FloorDiv) rDivA := op_fdivN.or op_fdivW
theorem pr_fdiv {K : PySem.W.Frag} : Pr2 K rDivA fdivA := by
  intro H a b x y fa fb c Q ra rb e q
  unfold fdivA at e
  split at e
  · split at e
    · rename_i i j hz
      cases e
      unfold divB at hz
      simp only [Bool.or_eq_true, decide_eq_true_eq] at hz
      rcases hz with hz | hz
      · exact .inl ⟨_, _, int_of ra, int_of rb, hz, q _ H [] Fresh.refl rep_int⟩
      · refine .inr ⟨_, _, int_of ra, int_of rb, hz, ?_⟩
        have := q (.int (i.fdiv j)) H [] Fresh.refl rep_int
        rw [Int.fdiv_eq_ediv_of_nonneg i (by omega)] at this
        exact this
    · cases e
  · cases e
theorem pr_mod {K : PySem.W.Frag} : Pr2 K (rI (fun _ j => j ≠ 0) fun i j => .int (i.fmod j)) modA := by
  intro H a b x y fa fb c Q ra rb e q
  unfold modA at e
  split at e
  · split at e
    · cases e
    · rename_i h
      cases e
      exact ⟨_, _, int_of ra, int_of rb, h, q _ H [] Fresh.refl rep_int⟩
  · cases e
theorem pr_neg {K : PySem.W.Frag} : Pr1 K (rU fun i => .int (-i)) negA := by
  intro H a x fa c Q ra e q
  unfold negA at e
  split at e
  · cases e
    exact ⟨_, int_of ra, q _ H [] Fresh.refl rep_int⟩
  · cases e
end
section
variable {X : Cx} {a b : Expr} {ma mb : SM R} {pos : Pos}
theorem pm_add (ha : PM X a ma) (hb : PM X b mb) : PM X (.BinOp a .Add b pos) (m2 addA ma mb) := pm_op op_addA pr_add ha hb
theorem pm_sub (ha : PM X a ma) (hb : PM X b mb) : PM X (.BinOp a .Sub b pos) (m2 subA ma mb) := pm_op op_sub pr_sub ha hb
theorem pm_mul (ha : PM X a ma) (hb : PM X b mb) : PM X (.BinOp a .Mult b pos) (m2 mulA ma mb) := pm_op op_mulA pr_mul ha hb
theorem pm_fdiv (ha : PM X a ma) (hb : PM X b mb) : PM X (.BinOp a .FloorDiv b pos) (m2 fdivA ma mb) := pm_op op_divA pr_fdiv ha hb
theorem pm_mod (ha : PM X a ma) (hb : PM X b mb) : PM X (.BinOp a .Mod b pos) (m2 modA ma mb) := pm_op op_modN pr_mod ha hb
theorem pm_neg (ha : PM X a ma) : PM X (.UnaryOp .USub a pos) (m1 negA ma) := PE.weak (pe_un un_neg ha) fun σ H Q h => step1 pr_neg h
end
end MM
namespace MM
open PySem PySem.Spec PyProof.Rows L2

/-! ### data as the library's data -/
mutual
def toPD : D → Option PyData
  | .non => some .none
  | .bl b => some (.bool b)
  | .int i => some (.int i)
  | .str x => if PyData.strOk x then some (.str x) else none
  | .tup xs => (toPDs xs).map .tuple
  | .opq _ => none
  | .scr _ => none
def toPDs : List D → Option (List PyData)
  | [] => some []
  | x :: xs => match toPD x, toPDs xs with
    | some d, some ds => some (d :: ds)
    | _, _ => none
end
mutual
def toP : A → Option PyData
  | .d x => toPD x
  | .ls xs => (toPDs xs).map .list
  | .lst xs => (toPs xs).map .list
  | .tpl xs => (toPs xs).map .tuple
  | .dd _ => none
def toPs : List A → Option (List PyData)
  | [] => some []
  | x :: xs => match toP x, toPs xs with
    | some d, some ds => some (d :: ds)
    | _, _ => none
end
section
variable {K : PySem.W.Frag} {H : Hp}
mutual
theorem RepD.dp : ∀ {x : D} {v : V} {d : PyData}, RepD K H x v → toPD x = some d → Dp K H v d
  | .non, v, d, h, e => by
    unfold RepD at h; subst h; cases e; exact .non
  | .bl b, v, d, h, e => by
    unfold RepD at h; subst h; cases e; exact .bl b
  | .int i, v, d, h, e => by
    unfold RepD at h; subst h; cases e; exact .int i
  | .str x, v, d, h, e => by
    unfold RepD at h; subst h
    unfold toPD at e
    split at e
    · cases e; exact .str x
    · cases e
  | .opq w, v, d, h, e => by cases e
  | .scr w, v, d, h, e => by cases e
  | .tup xs, v, d, h, e => by
    unfold RepD at h
    obtain ⟨a, ys, rfl, s, r⟩ := h
    unfold toPD at e
    cases q : toPDs xs with
    | none => rw [q] at e; cases e
    | some ds =>
      rw [q] at e
      cases e
      exact .tup s (RepDs.dp r q)
theorem RepDs.dp : ∀ {xs : List D} {vs : List V} {ds : List PyData}, RepDs K H xs vs → toPDs xs = some ds → DpAll K H vs ds
  | [], vs, ds, h, e => by
    unfold RepDs at h; subst h; cases e; exact .nil
  | x :: xs, vs, ds, h, e => by
    unfold RepDs at h
    obtain ⟨y, r, rfl, h1, h2⟩ := h
    unfold toPDs at e
    split at e
    · rename_i d ds' e1 e2
      cases e
      exact .cons (RepD.dp h1 e1) (RepDs.dp h2 e2)
    · cases e
end
mutual
theorem Rep.dp : ∀ {x : A} {v : V} {f : List Addr} {d : PyData}, Rep K H x v f → toP x = some d → Dp K H v d
  | .d x, v, f, d, h, e => RepD.dp (repD_d h) e
  | .ls xs, v, f, d, h, e => by
    obtain ⟨a, ys, rfl, s, r, _⟩ := ls_of h
    unfold toP at e
    cases q : toPDs xs with
    | none => rw [q] at e; cases e
    | some ds =>
      rw [q] at e
      cases e
      exact .lst (.of s) (RepDs.dp r q)
  | .lst xs, v, f, d, h, e => by
    obtain ⟨a, ys, g, rfl, s, r, _⟩ := lst_of h
    unfold toP at e
    cases q : toPs xs with
    | none => rw [q] at e; cases e
    | some ds =>
      rw [q] at e
      cases e
      exact .lst (.of s) (Reps.dp r q)
  | .tpl xs, v, f, d, h, e => by
    obtain ⟨a, ys, rfl, s, r⟩ := tpl_of h
    unfold toP at e
    cases q : toPs xs with
    | none => rw [q] at e; cases e
    | some ds =>
      rw [q] at e
      cases e
      exact .tup s (Reps.dp r q)
  | .dd _, v, f, d, h, e => by cases e
theorem Reps.dp : ∀ {xs : List A} {vs : List V} {f : List Addr} {ds : List PyData}, Reps K H xs vs f → toPs xs = some ds → DpAll K H vs ds
  | [], vs, f, ds, h, e => by
    unfold Reps at h
    obtain ⟨rfl, rfl⟩ := h
    cases e; exact .nil
  | x :: xs, vs, f, ds, h, e => by
    unfold Reps at h
    obtain ⟨y, r, f1, f2, rfl, rfl, h1, h2⟩ := h
    unfold toPs at e
    split at e
    · rename_i d ds' e1 e2
      cases e
      exact .cons (Rep.dp h1 e1) (Reps.dp h2 e2)
    · cases e
end
end

/-! ### comparisons -/
def eqA (a b : A) : Option Bool := match toP a, toP b with
  | some d, some e => if SeqAt.shaped d && SeqAt.shaped e then some (PyData.eqv d e) else none
  | _, _ => none
def neA (a b : A) : Option Bool := (eqA a b).map not
def strLt (x y : Str) : Bool := decide (x.cps.toList < y.cps.toList)
def ltA : A → A → Option Bool
  | .d (.int i), .d (.int j) => some (decide (i < j))
  | .d (.str x), .d (.str y) => some (strLt x y)
  | _, _ => none
def leA : A → A → Option Bool
  | .d (.int i), .d (.int j) => some (decide (i ≤ j))
  | .d (.str x), .d (.str y) => some (!strLt y x)
  | _, _ => none
def gtA : A → A → Option Bool
  | .d (.int i), .d (.int j) => some (decide (j < i))
  | .d (.str x), .d (.str y) => some (strLt y x)
  | _, _ => none
def geA : A → A → Option Bool
  | .d (.int i), .d (.int j) => some (decide (j ≤ i))
  | .d (.str x), .d (.str y) => some (!strLt x y)
  | _, _ => none
def isNon : A → Option Bool
  | .d .non => some true
  | .d (.opq _) => none
  | .d (.scr _) => none
  | _ => some false
/-- is None, is True, is False -/
def isA : A → A → Option Bool
  | a, .d .non => isNon a
  | .d (.bl a), .d (.bl b) => some (decide (a = b))
  | _, _ => none
def isnA (a b : A) : Option Bool := (isA a b).map not
/-- the items of a list or tuple as data -/
def itemsP (b : A) : Option (Bool × List PyData) := match toP b with
  | some (.list ds) => some (true, ds)
  | some (.tuple ds) => some (false, ds)
  | _ => none
def inA : A → A → Option Bool
  | .d (.str x), .d (.str y) => some (!(Builtin.Str.occurrences y x 0 y.length 1).isEmpty)
  | a, b => match toP a, itemsP b with
    | some d, some (_, ds) => if SeqAt.shaped d && PyData.canLayAll0 ds then some (ds.any fun z => PyData.eqv z d) else none
    | _, _ => none
def ninA (a b : A) : Option Bool := (inA a b).map not
def Pr2b (K : PySem.W.Frag) (r : R2) (g : A → A → Option Bool) : Prop := ∀ (H : Hp) (a b : A) (x y : V) (fa fb : List Addr) (c : Bool) (Q : VK), Rep K H a x fa → Rep K H b y fb → g a b = some c → Q (.bl c) H → r x y H Q
section
variable {X : Cx}
theorem pr_eq : Pr2b X.K (rEqD X.K) eqA := by
  intro H a b x y fa fb c Q ra rb e q
  unfold eqA at e
  split at e
  · rename_i d e' e1 e2
    split at e
    · rename_i hs
      cases e
      rw [Bool.and_eq_true] at hs
      exact ⟨d, e', ra.dp e1, rb.dp e2, hs.1, hs.2, q⟩
    · cases e
  · cases e
theorem pr_ne : Pr2b X.K (rNeD X.K) neA := by
  intro H a b x y fa fb c Q ra rb e q
  unfold neA eqA at e
  split at e
  · rename_i d e' e1 e2
    split at e
    · rename_i hs
      cases e
      rw [Bool.and_eq_true] at hs
      exact ⟨d, e', ra.dp e1, rb.dp e2, hs.1, hs.2, q⟩
    · cases e
  · cases e
abbrev rOr (r r' : R2) : R2 := fun x y H Q => r x y H Q ∨ r' x y H Q
theorem pr_lt : Pr2b X.K (rOr (rI0 fun i j => .bl (decide (i < j))) (fun x y H Q => ∃ i j, x = .str i ∧ y = .str j ∧ Q (.bl (decide (i.cps.toList < j.cps.toList))) H)) ltA := by
  intro H a b x y fa fb c Q ra rb e q
  unfold ltA at e
  split at e
  · cases e; exact .inl ⟨_, _, int_of ra, int_of rb, q⟩
  · cases e; exact .inr ⟨_, _, str_of ra, str_of rb, q⟩
  · cases e
theorem pr_le : Pr2b X.K (rOr (rI0 fun i j => .bl (decide (i ≤ j))) (fun x y H Q => ∃ i j, x = .str i ∧ y = .str j ∧ Q (.bl (!decide (j.cps.toList < i.cps.toList))) H)) leA := by
  intro H a b x y fa fb c Q ra rb e q
  unfold leA at e
  split at e
  · cases e; exact .inl ⟨_, _, int_of ra, int_of rb, q⟩
  · cases e; exact .inr ⟨_, _, str_of ra, str_of rb, q⟩
  · cases e
theorem pr_gt : Pr2b X.K (rOr (rI0 fun i j => .bl (decide (j < i))) (fun x y H Q => ∃ i j, x = .str i ∧ y = .str j ∧ Q (.bl (decide (j.cps.toList < i.cps.toList))) H)) gtA := by
  intro H a b x y fa fb c Q ra rb e q
  unfold gtA at e
  split at e
  · cases e; exact .inl ⟨_, _, int_of ra, int_of rb, q⟩
  · cases e; exact .inr ⟨_, _, str_of ra, str_of rb, q⟩
  · cases e
theorem pr_ge : Pr2b X.K (rOr (rI0 fun i j => .bl (decide (j ≤ i))) (fun x y H Q => ∃ i j, x = .str i ∧ y = .str j ∧ Q (.bl (!decide (i.cps.toList < j.cps.toList))) H)) geA := by
  intro H a b x y fa fb c Q ra rb e q
  unfold geA at e
  split at e
  · cases e; exact .inl ⟨_, _, int_of ra, int_of rb, q⟩
  · cases e; exact .inr ⟨_, _, str_of ra, str_of rb, q⟩
  · cases e
theorem isNon_dec {K : PySem.W.Frag} {H : Hp} {a : A} {x : V} {f : List Addr} {c : Bool} (r : Rep K H a x f) (e : isNon a = some c) : decide (x = .non) = c := by
  cases a with
  | d z =>
    have r := repD_d r
    cases z with
    | non => unfold RepD at r; subst r; cases e; rfl
    | bl b => unfold RepD at r; subst r; cases e; rfl
    | int b => unfold RepD at r; subst r; cases e; rfl
    | str b => unfold RepD at r; subst r; cases e; rfl
    | tup b => unfold RepD at r; obtain ⟨a, ys, rfl, _⟩ := r; cases e; rfl
    | opq b => cases e
    | scr b => cases e
  | ls xs => obtain ⟨a, ys, rfl, _⟩ := ls_of r; cases e; rfl
  | lst xs => obtain ⟨a, ys, g, rfl, _⟩ := lst_of r; cases e; rfl
  | tpl xs => obtain ⟨a, ys, rfl, _⟩ := tpl_of r; cases e; rfl
  | dd xs => unfold Rep at r; obtain ⟨a, rfl, _⟩ := r; cases e; rfl
def rIsA : R2 := rOr (fun x y H Q => y = .non ∧ Q (.bl (decide (x = .non))) H) (fun x y H Q => ∃ a b, x = .bl a ∧ y = .bl b ∧ Q (.bl (decide (a = b))) H)
def rIsnA : R2 := rOr (fun x y H Q => y = .non ∧ Q (.bl (!decide (x = .non))) H) (fun x y H Q => ∃ a b, x = .bl a ∧ y = .bl b ∧ Q (.bl (!decide (a = b))) H)
theorem pr_is : Pr2b X.K rIsA isA := by
  intro H a b x y fa fb c Q ra rb e q
  unfold isA at e
  split at e
  · refine .inl ⟨non_of rb, ?_⟩
    rw [isNon_dec ra e]
    exact q
  · cases e; exact .inr ⟨_, _, bl_of ra, bl_of rb, q⟩
  · cases e
theorem pr_isn : Pr2b X.K rIsnA isnA := by
  intro H a b x y fa fb c Q ra rb e q
  unfold isnA at e
  cases h : isA a b with
  | none => rw [h] at e; cases e
  | some k =>
    rw [h] at e
    cases e
    unfold isA at h
    split at h
    · refine .inl ⟨non_of rb, ?_⟩
      rw [isNon_dec ra h]
      exact q
    · cases h; exact .inr ⟨_, _, bl_of ra, bl_of rb, q⟩
    · cases h
theorem op_isA : OpR X (compareOp .Is) rIsA := op_isN.or op_is_bl
theorem op_isnA : OpR X (compareOp .IsNot) rIsnA := op_notN.or op_isnot_bl
/-- in, not in -/
def rInX (K : PySem.W.Frag) (neg : Bool) : R2 := fun x y H Q => (∃ i j, x = .str i ∧ y = .str j ∧ Q (.bl (if neg then !(!(Builtin.Str.occurrences j i 0 j.length 1).isEmpty) else !(Builtin.Str.occurrences j i 0 j.length 1).isEmpty)) H) ∨
  ∃ d ds, Dp K H x d ∧ (Dp K H y (.list ds) ∨ Dp K H y (.tuple ds)) ∧ SeqAt.shaped d = true ∧ PyData.canLayAll0 ds = true ∧ Q (.bl (if neg then !(ds.any fun z => PyData.eqv z d) else ds.any fun z => PyData.eqv z d)) H
theorem op_inX (hu : X.A.units + 65 < cLine) : OpR X (compareOp .In) (rInX X.K false) := by
  intro pins s σ H x y v u Q I rx ry h
  rcases h with h | ⟨d, ds, hd, he, sd, se, q⟩
  · exact op_in_str pins s σ H x y v u Q I rx ry h
  · obtain ⟨as, r1⟩ := Dp.reads I d x v hd rx
    have hz : X.A.units + 1 + min (PyData.depthAll ds) d.depth < cLine := room_in_shaped sd hu
    rcases he with he | he
    · obtain ⟨bs, r2⟩ := Dp.reads I (.list ds) y u he ry
      exact SeqAt.in_list_reads r2 r1 se (SeqAt.canLay_of_shaped sd) hz ⟨.bl _, H, I, rfl, q⟩
    · obtain ⟨bs, r2⟩ := Dp.reads I (.tuple ds) y u he ry
      exact SeqAt.in_tuple_reads r2 r1 se (SeqAt.canLay_of_shaped sd) hz ⟨.bl _, H, I, rfl, q⟩
theorem op_ninX (hu : X.A.units + 65 < cLine) : OpR X (compareOp .NotIn) (rInX X.K true) := by
  intro pins s σ H x y v u Q I rx ry h
  rcases h with h | ⟨d, ds, hd, he, sd, se, q⟩
  · exact op_notin_str pins s σ H x y v u Q I rx ry h
  · obtain ⟨as, r1⟩ := Dp.reads I d x v hd rx
    have hz : X.A.units + 1 + min (PyData.depthAll ds) d.depth < cLine := room_in_shaped sd hu
    rcases he with he | he
    · obtain ⟨bs, r2⟩ := Dp.reads I (.list ds) y u he ry
      exact SeqAt.notIn_list_reads r2 r1 se (SeqAt.canLay_of_shaped sd) hz ⟨.bl _, H, I, rfl, q⟩
    · obtain ⟨bs, r2⟩ := Dp.reads I (.tuple ds) y u he ry
      exact SeqAt.notIn_tuple_reads r2 r1 se (SeqAt.canLay_of_shaped sd) hz ⟨.bl _, H, I, rfl, q⟩
theorem inA_cases {neg : Bool} {a b : A} {x y : V} {fa fb : List Addr} {c : Bool} {K : PySem.W.Frag} {H : Hp} {Q : VK} (ra : Rep K H a x fa) (rb : Rep K H b y fb) (e : inA a b = some c) (q : Q (.bl (if neg then !c else c)) H) : rInX K neg x y H Q := by
  unfold inA at e
  split at e
  · cases e
    exact .inl ⟨_, _, str_of ra, str_of rb, q⟩
  · split at e
    · rename_i d k ds e1 e2
      split at e
      · rename_i hs
        cases e
        rw [Bool.and_eq_true] at hs
        unfold itemsP at e2
        split at e2
        · rename_i ds2 e3
          cases e2
          exact .inr ⟨d, _, ra.dp e1, .inl (rb.dp e3), hs.1, hs.2, q⟩
        · rename_i ds2 e3
          cases e2
          exact .inr ⟨d, _, ra.dp e1, .inr (rb.dp e3), hs.1, hs.2, q⟩
        · cases e2
      · cases e
    · cases e
theorem pr_in : Pr2b X.K (rInX X.K false) inA := fun H a b x y fa fb c Q ra rb e q => inA_cases ra rb e q
theorem pr_nin : Pr2b X.K (rInX X.K true) ninA := fun H a b x y fa fb c Q ra rb e q => by
  unfold ninA at e
  cases h : inA a b with
  | none => rw [h] at e; cases e
  | some k =>
    rw [h] at e
    cases e
    exact inA_cases ra rb h q
end
/-! ### a comparison as a value, as a test -/
def cmp2 (g : A → A → Option Bool) (r1 r2 : R) : SM Bool := fun sa => match rv r1 sa, rv r2 sa with
  | some a, some b => (g a b).map fun k => (k, sa)
  | _, _ => none
def tCmpM (g : A → A → Option Bool) (ma mb : SM R) : SM Bool := bnd ma fun r1 => bnd mb fun r2 => cmp2 g r1 r2
def asV (m : SM Bool) : SM R := bnd m fun k => ret (.val false (.d (.bl k)))
theorem cmp2_some {g : A → A → Option Bool} {r1 r2 : R} {k : Bool} {sa sa' : List Slot} (h : cmp2 g r1 r2 sa = some (k, sa')) : ∃ a b, rv r1 sa = some a ∧ rv r2 sa = some b ∧ g a b = some k ∧ sa' = sa := by
  unfold cmp2 at h
  split at h
  · rename_i a b ea eb
    cases e : g a b with
    | none => rw [e] at h; cases h
    | some k' =>
      rw [e] at h
      cases h
      exact ⟨a, b, ea, eb, e, rfl⟩
  · cases h
section
variable {X : Cx} {a b c : Expr} {ma mb mc : SM R} {pos : Pos} {op : CmpOp} {r : R2} {g : A → A → Option Bool}
theorem stepC (p : Pr2b X.K r g) {σ : L2.St} {H : Hp} {Q : Bool → Hp → Prop} (h : tOfT X.K (tCmpM g ma mb) σ H Q) :
    tOf X.K ma σ H fun x H1 => tOf X.K mb σ H1 fun y H2 => r x y H2 fun z H3 => ∃ k, z = .bl k ∧ Q k H3 := by
  obtain ⟨o, T, sa, k, sa', e, S, q⟩ := h
  obtain ⟨r1, s1, e1, e2⟩ := bnd_some e
  obtain ⟨r2, s2, e2, e3⟩ := bnd_some e2
  obtain ⟨a, b, ea, eb, ec, rfl⟩ := cmp2_some e3
  refine ⟨o, T, sa, r1, s1, e1, S, fun o1 v H1 L1 S1 R1 => ?_⟩
  refine ⟨o1, pushT r1 v T, s1, r2, _, e2, S1, fun o2 v2 H2 L2 S2 R2 => ?_⟩
  obtain ⟨fb, rb⟩ := rv_rep S2 R2 eb
  obtain ⟨o3, S3, L3⟩ := SRel.pop S2
  obtain ⟨fa, ra⟩ := rv_rep S3 ((R1.mono S1 L2).mono S2 L3) ea
  obtain ⟨o4, S4, L4⟩ := SRel.pop S3
  exact p H2 a b v v2 fa fb k _ ra rb ec ⟨k, rfl, q _ H2 (((L1.trans L2).trans L3).trans L4) S4⟩
theorem stepV {m : SM Bool} {σ : L2.St} {H : Hp} {Q : VK} (h : tOf X.K (asV m) σ H Q) : tOfT X.K m σ H fun k H1 => Q (.bl k) H1 := by
  obtain ⟨o, T, sa, r, sa', e, S, q⟩ := h
  obtain ⟨k, s1, e1, e2⟩ := bnd_some e
  cases e2
  exact ⟨o, T, sa, k, _, e1, S, fun o1 H1 L1 S1 => q o1 (.bl k) H1 L1 S1 (RepS.d (by unfold RepD; rfl))⟩
theorem tOf.imp {m : SM R} {σ : L2.St} {H : Hp} {Q Q' : VK} (h : tOf X.K m σ H Q) (w : ∀ v H, Q v H → Q' v H) : tOf X.K m σ H Q' := by
  obtain ⟨o, T, sa, r, sa', e, S, q⟩ := h
  exact ⟨o, T, sa, r, sa', e, S, fun o' v H' L S' R => w _ _ (q o' v H' L S' R)⟩
def Mono (r : R2) : Prop := ∀ x y H Q Q', (∀ v H, Q v H → Q' v H) → r x y H Q → r x y H Q'
theorem pmt_cmp (ho : OpR X (compareOp op) r) (p : Pr2b X.K r g) (ha : PM X a ma) (hb : PM X b mb) (hm : behindInMarks op b = false) : PMT X (.Compare a [op] [b] pos) (tCmpM g ma mb) :=
  PT.weak (pt_cmpR ho ha hb hm) fun σ H Q h => stepC p h
theorem pm_cmp (ho : OpR X (compareOp op) r) (p : Pr2b X.K r g) (ha : PM X a ma) (hb : PM X b mb) (hm : behindInMarks op b = false) : PM X (.Compare a [op] [b] pos) (asV (tCmpM g ma mb)) :=
  PE.weak (pe_cmpR (r := fun x y H Q => r x y H fun z H3 => ∃ k, z = .bl k ∧ Q (.bl k) H3) (fun pins s σ H x y v u Q I rx ry h => wpAny_mono (ho pins s σ H x y v u _ I rx ry h) (fun w s' ⟨z, H', I', rz, k, e, q⟩ => ⟨z, H', I', rz, by rw [e]; exact q⟩) fun _ _ h => h) ha hb hm) fun σ H Q h => stepC p (stepV h)

variable (hu : X.A.units + 65 < cLine) (ha : PM X a ma) (hb : PM X b mb)
include ha hb
theorem pm_lt : PM X (.Compare a [.Lt] [b] pos) (asV (tCmpM ltA ma mb)) := pm_cmp (op_lt.or op_lt_str) pr_lt ha hb (nomark _)
theorem pm_le : PM X (.Compare a [.LtE] [b] pos) (asV (tCmpM leA ma mb)) := pm_cmp (op_le.or op_le_str) pr_le ha hb (nomark _)
theorem pm_gt : PM X (.Compare a [.Gt] [b] pos) (asV (tCmpM gtA ma mb)) := pm_cmp (op_gt.or op_gt_str) pr_gt ha hb (nomark _)
theorem pm_ge : PM X (.Compare a [.GtE] [b] pos) (asV (tCmpM geA ma mb)) := pm_cmp (op_ge.or op_ge_str) pr_ge ha hb (nomark _)
theorem pm_is : PM X (.Compare a [.Is] [b] pos) (asV (tCmpM isA ma mb)) := pm_cmp op_isA pr_is ha hb (nomark _)
theorem pm_isn : PM X (.Compare a [.IsNot] [b] pos) (asV (tCmpM isnA ma mb)) := pm_cmp op_isnA pr_isn ha hb (nomark _)
theorem pmt_lt : PMT X (.Compare a [.Lt] [b] pos) (tCmpM ltA ma mb) := pmt_cmp (op_lt.or op_lt_str) pr_lt ha hb (nomark _)
theorem pmt_le : PMT X (.Compare a [.LtE] [b] pos) (tCmpM leA ma mb) := pmt_cmp (op_le.or op_le_str) pr_le ha hb (nomark _)
theorem pmt_gt : PMT X (.Compare a [.Gt] [b] pos) (tCmpM gtA ma mb) := pmt_cmp (op_gt.or op_gt_str) pr_gt ha hb (nomark _)
theorem pmt_ge : PMT X (.Compare a [.GtE] [b] pos) (tCmpM geA ma mb) := pmt_cmp (op_ge.or op_ge_str) pr_ge ha hb (nomark _)
theorem pmt_is : PMT X (.Compare a [.Is] [b] pos) (tCmpM isA ma mb) := pmt_cmp op_isA pr_is ha hb (nomark _)
theorem pmt_isn : PMT X (.Compare a [.IsNot] [b] pos) (tCmpM isnA ma mb) := pmt_cmp op_isnA pr_isn ha hb (nomark _)
include hu
theorem pm_eq : PM X (.Compare a [.Eq] [b] pos) (asV (tCmpM eqA ma mb)) := pm_cmp (op_eqD (by omega)) pr_eq ha hb (nomark _)
theorem pm_ne : PM X (.Compare a [.NotEq] [b] pos) (asV (tCmpM neA ma mb)) := pm_cmp (op_neD (by omega)) pr_ne ha hb (nomark _)
theorem pmt_eq : PMT X (.Compare a [.Eq] [b] pos) (tCmpM eqA ma mb) := pmt_cmp (op_eqD (by omega)) pr_eq ha hb (nomark _)
theorem pmt_ne : PMT X (.Compare a [.NotEq] [b] pos) (tCmpM neA ma mb) := pmt_cmp (op_neD (by omega)) pr_ne ha hb (nomark _)
theorem pm_in (hm : behindInMarks .In b = false) : PM X (.Compare a [.In] [b] pos) (asV (tCmpM inA ma mb)) := pm_cmp (op_inX hu) pr_in ha hb hm
theorem pm_nin (hm : behindInMarks .NotIn b = false) : PM X (.Compare a [.NotIn] [b] pos) (asV (tCmpM ninA ma mb)) := pm_cmp (op_ninX hu) pr_nin ha hb hm
theorem pmt_in (hm : behindInMarks .In b = false) : PMT X (.Compare a [.In] [b] pos) (tCmpM inA ma mb) := pmt_cmp (op_inX hu) pr_in ha hb hm
theorem pmt_nin (hm : behindInMarks .NotIn b = false) : PMT X (.Compare a [.NotIn] [b] pos) (tCmpM ninA ma mb) := pmt_cmp (op_ninX hu) pr_nin ha hb hm
end
end MM
namespace MM
open PySem PySem.Spec PyProof.Rows L2

/-! ### truth, not, and, or, if -/
def truA : A → Option Bool
  | .d .non => some false
  | .d (.bl b) => some b
  | .d (.int i) => some (i != 0)
  | .d (.str x) => if szB x.length then some ((x.length : Int) != 0) else none
  | .d (.tup xs) => some (!xs.isEmpty)
  | .d (.opq _) => none
  | .d (.scr _) => none
  | .ls xs => some (!xs.isEmpty)
  | .lst xs => some (!xs.isEmpty)
  | .tpl xs => some (!xs.isEmpty)
  | .dd _ => none
def tru1 (r : R) : SM Bool := fun sa => match rv r sa with
  | some a => (truA a).map fun k => (k, sa)
  | none => none
def mTru (m : SM R) : SM Bool := bnd m tru1
def tNotM (m : SM Bool) : SM Bool := bnd m fun k => ret (!k)
def tAndM (m n : SM Bool) : SM Bool := bnd m fun k => if k then n else ret false
def tOrM (m n : SM Bool) : SM Bool := bnd m fun k => if k then ret true else n
def mIf (t : SM Bool) (ma mb : SM R) : SM R := bnd t fun k => if k then ma else mb
/-- a bool, held -/
def boolOf (r : R) (sa : List Slot) : Option Bool := match r with
  | .val true _ => none
  | r => match rv r sa with
    | some (.d (.bl b)) => some b
    | _ => none
def mAndV (m n : SM R) : SM R := bnd m fun r sa => match boolOf r sa with
  | some true => n sa
  | some false => some (.val false (.d (.bl false)), sa)
  | none => none
def mOrV (m n : SM R) : SM R := bnd m fun r sa => match boolOf r sa with
  | some false => n sa
  | some true => some (.val false (.d (.bl true)), sa)
  | none => none
def mNotV (m : SM R) : SM R := bnd m fun r sa => match boolOf r sa with
  | some k => some (.val false (.d (.bl (!k))), sa)
  | none => none
theorem isEmpty_len {α β : Type} {xs : List α} {ys : List β} (h : xs.length = ys.length) : xs.isEmpty = ys.isEmpty := by
  cases xs <;> cases ys <;> simp_all
theorem truA_ok {K : PySem.W.Frag} {H : Hp} {a : A} {x : V} {f : List Addr} {k : Bool} (r : Rep K H a x f) (e : truA a = some k) : TruV K x H k := by
  cases a with
  | d z =>
    have r' := repD_d r
    cases z with
    | non => unfold RepD at r'; subst r'; cases e; rfl
    | bl b => unfold RepD at r'; subst r'; cases e; rfl
    | int b => unfold RepD at r'; subst r'; cases e; rfl
    | str b =>
      unfold RepD at r'; subst r'
      have e : (if szB b.length then some ((b.length : Int) != 0) else none) = some k := e
      split at e
      · rename_i hz
        cases e
        exact ⟨szB_ok hz, rfl⟩
      · cases e
    | tup b =>
      unfold RepD at r'
      obtain ⟨a, ys, rfl, s, rs⟩ := r'
      cases e
      exact .inr (.inl ⟨ys, s, by rw [isEmpty_len rs.len]⟩)
    | opq b => cases e
    | scr b => cases e
  | ls xs =>
    obtain ⟨a, ys, rfl, s, rs, _⟩ := ls_of r
    cases e
    exact .inl ⟨ys, .of s, by rw [isEmpty_len rs.len]⟩
  | lst xs =>
    obtain ⟨a, ys, g, rfl, s, rs, _⟩ := lst_of r
    cases e
    exact .inl ⟨ys, .of s, by rw [isEmpty_len rs.len]⟩
  | tpl xs =>
    obtain ⟨a, ys, rfl, s, rs⟩ := tpl_of r
    cases e
    exact .inr (.inl ⟨ys, s, by rw [isEmpty_len rs.len]⟩)
  | dd xs => cases e
theorem rvp {r : R} {sa : List Slot} {b : Bool} (h : boolOf r sa = some b) : rv r sa = some (.d (.bl b)) ∧ ∀ v T, pushT r v T = T := by
  unfold boolOf at h
  split at h
  · cases h
  · rename_i hr
    split at h
    · rename_i b' e
      cases h
      refine ⟨e, fun v T => ?_⟩
      match r, hr with
      | .val true a, hr => exact (hr a rfl).elim
      | .val false a, _ => rfl
      | .peek j, _ => rfl
    · cases h
section
variable {X : Cx} {a b c : Expr} {ma mb : SM R} {mc md : SM Bool} {pos : Pos} {rest : List Expr}
theorem pmt_tru (ha : PM X a ma) (he : ∀ whole, isTrue a X.env whole = (do let v ← whole; standAt a.pos; holding [v] (truthy v))) : PMT X a (mTru ma) := PT.weak (pt_truth ha he) fun σ H Q h => by
  obtain ⟨o, T, sa, k, sa', e, S, q⟩ := h
  obtain ⟨r1, s1, e1, e2⟩ := bnd_some e
  unfold tru1 at e2
  split at e2
  · rename_i a ea
    cases ek : truA a with
    | none => rw [ek] at e2; cases e2
    | some k' =>
      rw [ek] at e2
      cases e2
      refine ⟨o, T, sa, r1, _, e1, S, fun o1 v H1 L1 S1 R1 => ?_⟩
      obtain ⟨fp, ra⟩ := rv_rep S1 R1 ea
      obtain ⟨o2, S2, L2⟩ := SRel.pop S1
      exact ⟨k, truA_ok ra ek, q o2 H1 (L1.trans L2) S2⟩
  · cases e2
theorem pmt_not (ha : PMT X a mc) : PMT X (.UnaryOp .Not a pos) (tNotM mc) := PT.weak (pt_not ha) fun σ H Q h => by
  obtain ⟨o, T, sa, k, sa', e, S, q⟩ := h
  obtain ⟨k1, s1, e1, e2⟩ := bnd_some e
  cases e2
  exact ⟨o, T, sa, k1, _, e1, S, fun o1 H1 L1 S1 => q o1 H1 L1 S1⟩
abbrev PMW (X : Cx) (e : Expr) (m : SM Bool) : Prop := PW X e (tOfT X.K m)
theorem PW.weak {e : Expr} {t u : TT} (h : PW X e t) (w : ∀ σ H Q, u σ H Q → t σ H Q) : PW X e u := ⟨fun wh pins s σ H Q I q => h.run wh pins s σ H Q I (w σ H Q q)⟩
theorem PMW.pt {e : Expr} {m : SM Bool} (h : PMW X e m) : PMT X e m := L2.PW.pt h
theorem pmw_and1 (ha : PMT X a mc) : PMW X (.BoolOp .And [a] pos) mc := pw_and1 ha
theorem pmw_or1 (ha : PMT X a mc) : PMW X (.BoolOp .Or [a] pos) mc := pw_or1 ha
theorem pmw_and (ha : PMT X a mc) (hb : PMW X (.BoolOp .And (b :: rest) pos) md) : PMW X (.BoolOp .And (a :: b :: rest) pos) (tAndM mc md) := PW.weak (pw_and ha hb) fun σ H Q h => by
  obtain ⟨o, T, sa, k, sa', e, S, q⟩ := h
  obtain ⟨k1, s1, e1, e2⟩ := bnd_some e
  refine ⟨o, T, sa, k1, s1, e1, S, fun o1 H1 L1 S1 => ?_⟩
  cases k1 with
  | true => exact iteT ⟨o1, T, s1, k, sa', e2, S1, fun o2 H2 L2 S2 => q o2 H2 (L1.trans L2) S2⟩
  | false =>
    cases e2
    exact iteF (q o1 H1 L1 S1)
theorem pmw_or (ha : PMT X a mc) (hb : PMW X (.BoolOp .Or (b :: rest) pos) md) : PMW X (.BoolOp .Or (a :: b :: rest) pos) (tOrM mc md) := PW.weak (pw_or ha hb) fun σ H Q h => by
  obtain ⟨o, T, sa, k, sa', e, S, q⟩ := h
  obtain ⟨k1, s1, e1, e2⟩ := bnd_some e
  refine ⟨o, T, sa, k1, s1, e1, S, fun o1 H1 L1 S1 => ?_⟩
  cases k1 with
  | false => exact iteF ⟨o1, T, s1, k, sa', e2, S1, fun o2 H2 L2 S2 => q o2 H2 (L1.trans L2) S2⟩
  | true =>
    cases e2
    exact iteT (q o1 H1 L1 S1)
theorem pm_if (hc : PMT X c mc) (ha : PM X a ma) (hb : PM X b mb) : PM X (.IfExp c a b pos) (mIf mc ma mb) := PE.weak (pe_ifExp hc ha hb) fun σ H Q h => by
  obtain ⟨o, T, sa, r, sa', e, S, q⟩ := h
  obtain ⟨k1, s1, e1, e2⟩ := bnd_some e
  refine ⟨o, T, sa, k1, s1, e1, S, fun o1 H1 L1 S1 => ?_⟩
  cases k1 with
  | true => exact iteT ⟨o1, T, s1, r, sa', e2, S1, fun o2 v H2 L2 S2 R2 => q o2 v H2 (L1.trans L2) S2 R2⟩
  | false => exact iteF ⟨o1, T, s1, r, sa', e2, S1, fun o2 v H2 L2 S2 R2 => q o2 v H2 (L1.trans L2) S2 R2⟩
theorem pm_one {op : BoolOp} (h : PM X a ma) : PM X (.BoolOp op [a] pos) ma := pe_one h
theorem bool_at {r : R} {sa : List Slot} {k : Bool} {K : PySem.W.Frag} {o : List Addr} {T : Tmp} {σ : L2.St} {H : Hp} {v : V} (S : SRel K o (pushT r v T) sa σ H) (R : RR K H o σ r v) (e : boolOf r sa = some k) : v = .bl k ∧ SRel K o T sa σ H := by
  obtain ⟨h1, h2⟩ := rvp e
  obtain ⟨fp, ra⟩ := rv_rep S R h1
  rw [h2] at S
  exact ⟨bl_of ra, S⟩
theorem repS_bl {K : PySem.W.Frag} {H : Hp} {o : List Addr} {b : Bool} : RepS K H o (.d (.bl b)) (.bl b) := RepS.d (by unfold RepD; rfl)
theorem pm_and (ha : PM X a ma) (hb : PM X (.BoolOp .And (b :: rest) pos) mb) : PM X (.BoolOp .And (a :: b :: rest) pos) (mAndV ma mb) := PE.weak (pe_and ha hb) fun σ H Q h => by
  obtain ⟨o, T, sa, r, sa', e, S, q⟩ := h
  obtain ⟨r1, s1, e1, e2⟩ := bnd_some e
  refine ⟨o, T, sa, r1, s1, e1, S, fun o1 v H1 L1 S1 R1 => ?_⟩
  split at e2
  · rename_i ek
    obtain ⟨rfl, S2⟩ := bool_at S1 R1 ek
    exact ⟨true, rfl, iteT ⟨o1, T, s1, r, sa', e2, S2, fun o2 v H2 L2 S3 R2 => q o2 v H2 (L1.trans L2) S3 R2⟩⟩
  · rename_i ek
    obtain ⟨rfl, S2⟩ := bool_at S1 R1 ek
    cases e2
    exact ⟨false, rfl, iteF (q o1 _ H1 L1 S2 repS_bl)⟩
  · cases e2
theorem pm_or (ha : PM X a ma) (hb : PM X (.BoolOp .Or (b :: rest) pos) mb) : PM X (.BoolOp .Or (a :: b :: rest) pos) (mOrV ma mb) := PE.weak (pe_or ha hb) fun σ H Q h => by
  obtain ⟨o, T, sa, r, sa', e, S, q⟩ := h
  obtain ⟨r1, s1, e1, e2⟩ := bnd_some e
  refine ⟨o, T, sa, r1, s1, e1, S, fun o1 v H1 L1 S1 R1 => ?_⟩
  split at e2
  · rename_i ek
    obtain ⟨rfl, S2⟩ := bool_at S1 R1 ek
    exact ⟨false, rfl, iteF ⟨o1, T, s1, r, sa', e2, S2, fun o2 v H2 L2 S3 R2 => q o2 v H2 (L1.trans L2) S3 R2⟩⟩
  · rename_i ek
    obtain ⟨rfl, S2⟩ := bool_at S1 R1 ek
    cases e2
    exact ⟨true, rfl, iteT (q o1 _ H1 L1 S2 repS_bl)⟩
  · cases e2
theorem pm_not (ha : PM X a ma) : PM X (.UnaryOp .Not a pos) (mNotV ma) := PE.weak (pe_not ha) fun σ H Q h => by
  obtain ⟨o, T, sa, r, sa', e, S, q⟩ := h
  obtain ⟨r1, s1, e1, e2⟩ := bnd_some e
  refine ⟨o, T, sa, r1, s1, e1, S, fun o1 v H1 L1 S1 R1 => ?_⟩
  split at e2
  · rename_i k ek
    obtain ⟨rfl, S2⟩ := bool_at S1 R1 ek
    cases e2
    exact ⟨k, rfl, q o1 _ H1 L1 S2 repS_bl⟩
  · cases e2
end

/-! ### chains a op b op c -/
def tChainM (g g' : A → A → Option Bool) (ma mb mc : SM R) : SM Bool := bnd ma fun r1 => bnd mb fun r2 => bnd (cmp2 g r1 r2) fun k => if k then bnd mc fun r3 => cmp2 g' r2 r3 else ret false
section
variable {X : Cx} {a b c : Expr} {ma mb mc : SM R} {pos : Pos} {op op' : CmpOp} {r r' : R2} {g g' : A → A → Option Bool}
theorem SRel.pop2 {K : PySem.W.Frag} {o : List Addr} {T : Tmp} {sa : List Slot} {σ : L2.St} {H : Hp} {r1 r2 : R} {v1 v2 : V} (S : SRel K o (pushT r2 v2 (pushT r1 v1 T)) sa σ H) : ∃ o', SRel K o' T sa σ H ∧ Le o H o' H := by
  obtain ⟨o1, S1, L1⟩ := SRel.pop S
  obtain ⟨o2, S2, L2⟩ := SRel.pop S1
  exact ⟨o2, S2, L1.trans L2⟩
theorem pmt_chain (ho : OpR X (compareOp op) r) (ho' : OpR X (compareOp op') r') (p : Pr2b X.K r g) (p' : Pr2b X.K r' g') (ha : PM X a ma) (hb : PM X b mb) (hc : PM X c mc)
    (hm : lastMarks [op, op'] [b, c] = false := by with_unfolding_all rfl) : PMT X (.Compare a [op, op'] [b, c] pos) (tChainM g g' ma mb mc) := PT.weak (pt_chain ho ho' ha hb hc hm) fun σ H Q h => by
  obtain ⟨o, T, sa, k, sa', e, S, q⟩ := h
  obtain ⟨r1, s1, e1, e⟩ := bnd_some e
  obtain ⟨r2, s2, e2, e⟩ := bnd_some e
  obtain ⟨k1, s3, e3, e⟩ := bnd_some e
  obtain ⟨a, b, ea, eb, ec, rfl⟩ := cmp2_some e3
  refine ⟨o, T, sa, r1, s1, e1, S, fun o1 v H1 L1 S1 R1 => ?_⟩
  refine ⟨o1, pushT r1 v T, s1, r2, _, e2, S1, fun o2 v2 H2 L2 S2 R2 => ?_⟩
  obtain ⟨fb, rb⟩ := rv_rep S2 R2 eb
  obtain ⟨o3, S3, L3⟩ := SRel.pop S2
  obtain ⟨fa, ra⟩ := rv_rep S3 ((R1.mono S1 L2).mono S2 L3) ea
  refine p H2 a b v v2 fa fb k1 _ ra rb ec ⟨k1, rfl, ?_⟩
  cases k1 with
  | true =>
    refine iteT ?_
    obtain ⟨r3, s4, e4, e5⟩ := bnd_some (show bnd mc (fun r3 => cmp2 g' r2 r3) _ = _ from e)
    obtain ⟨b', c, eb', ec', eg, rfl⟩ := cmp2_some e5
    refine ⟨o2, pushT r2 v2 (pushT r1 v T), _, r3, _, e4, S2, fun o4 v3 H4 L4 S4 R4 => ?_⟩
    obtain ⟨fc, rc⟩ := rv_rep S4 R4 ec'
    obtain ⟨o5, S5, L5⟩ := SRel.pop S4
    obtain ⟨fb', rb'⟩ := rv_rep S5 ((R2.mono S2 L4).mono S4 L5) eb'
    obtain ⟨o6, S6, L6⟩ := SRel.pop2 S5
    exact p' H4 b' c v2 v3 fb' fc k _ rb' rc eg ⟨k, rfl, q o6 H4 ((((L1.trans L2).trans L4).trans L5).trans L6) S6⟩
  | false =>
    refine iteF ⟨false, rfl, ?_⟩
    cases e
    obtain ⟨o6, S6, L6⟩ := SRel.pop2 S2
    exact q o6 H2 ((L1.trans L2).trans L6) S6
theorem pm_chain (ho : OpR X (compareOp op) r) (ho' : OpR X (compareOp op') r') (p : Pr2b X.K r g) (p' : Pr2b X.K r' g') (ha : PM X a ma) (hb : PM X b mb) (hc : PM X c mc)
    (hm : lastMarks [op, op'] [b, c] = false := by with_unfolding_all rfl) : PM X (.Compare a [op, op'] [b, c] pos) (asV (tChainM g g' ma mb mc)) := PE.weak (pe_chain ho ho' ha hb hc hm) fun σ H Q h => by
  have h := stepV h
  obtain ⟨o, T, sa, k, sa', e, S, q⟩ := h
  obtain ⟨r1, s1, e1, e⟩ := bnd_some e
  obtain ⟨r2, s2, e2, e⟩ := bnd_some e
  obtain ⟨k1, s3, e3, e⟩ := bnd_some e
  obtain ⟨a, b, ea, eb, ec, rfl⟩ := cmp2_some e3
  refine ⟨o, T, sa, r1, s1, e1, S, fun o1 v H1 L1 S1 R1 => ?_⟩
  refine ⟨o1, pushT r1 v T, s1, r2, _, e2, S1, fun o2 v2 H2 L2 S2 R2 => ?_⟩
  obtain ⟨fb, rb⟩ := rv_rep S2 R2 eb
  obtain ⟨o3, S3, L3⟩ := SRel.pop S2
  obtain ⟨fa, ra⟩ := rv_rep S3 ((R1.mono S1 L2).mono S2 L3) ea
  refine p H2 a b v v2 fa fb k1 _ ra rb ec ⟨k1, rfl, ?_⟩
  cases k1 with
  | true =>
    refine iteT ?_
    obtain ⟨r3, s4, e4, e5⟩ := bnd_some (show bnd mc (fun r3 => cmp2 g' r2 r3) _ = _ from e)
    obtain ⟨b', c, eb', ec', eg, rfl⟩ := cmp2_some e5
    refine ⟨o2, pushT r2 v2 (pushT r1 v T), _, r3, _, e4, S2, fun o4 v3 H4 L4 S4 R4 => ?_⟩
    obtain ⟨fc, rc⟩ := rv_rep S4 R4 ec'
    obtain ⟨o5, S5, L5⟩ := SRel.pop S4
    obtain ⟨fb', rb'⟩ := rv_rep S5 ((R2.mono S2 L4).mono S4 L5) eb'
    obtain ⟨o6, S6, L6⟩ := SRel.pop2 S5
    exact p' H4 b' c v2 v3 fb' fc k _ rb' rc eg (q o6 H4 ((((L1.trans L2).trans L4).trans L5).trans L6) S6)
  | false =>
    refine iteF ?_
    cases e
    obtain ⟨o6, S6, L6⟩ := SRel.pop2 S2
    exact q o6 H2 ((L1.trans L2).trans L6) S6
variable (ha : PM X a ma) (hb : PM X b mb) (hc : PM X c mc)
include ha hb hc
theorem pm_lele (hm : lastMarks [.LtE, .LtE] [b, c] = false := by with_unfolding_all rfl) : PM X (.Compare a [.LtE, .LtE] [b, c] pos) (asV (tChainM leA leA ma mb mc)) := pm_chain (op_le.or op_le_str) (op_le.or op_le_str) pr_le pr_le ha hb hc hm
theorem pmt_lele (hm : lastMarks [.LtE, .LtE] [b, c] = false := by with_unfolding_all rfl) : PMT X (.Compare a [.LtE, .LtE] [b, c] pos) (tChainM leA leA ma mb mc) := pmt_chain (op_le.or op_le_str) (op_le.or op_le_str) pr_le pr_le ha hb hc hm
theorem pm_lelt (hm : lastMarks [.LtE, .Lt] [b, c] = false := by with_unfolding_all rfl) : PM X (.Compare a [.LtE, .Lt] [b, c] pos) (asV (tChainM leA ltA ma mb mc)) := pm_chain (op_le.or op_le_str) (op_lt.or op_lt_str) pr_le pr_lt ha hb hc hm
theorem pmt_lelt (hm : lastMarks [.LtE, .Lt] [b, c] = false := by with_unfolding_all rfl) : PMT X (.Compare a [.LtE, .Lt] [b, c] pos) (tChainM leA ltA ma mb mc) := pmt_chain (op_le.or op_le_str) (op_lt.or op_lt_str) pr_le pr_lt ha hb hc hm
end

/-! ### argument lists, displays -/
def mNil : SM (List R) := ret []
def mCons (m : SM R) (ms : SM (List R)) : SM (List R) := bnd m fun r => bnd ms fun rs => ret (r :: rs)
/-- what may be put into a display: data, or what is owned -/
def od : R → List Slot → Option A
  | .val true a, _ => some a
  | r, sa => match rv r sa with
    | some (.d x) => some (.d x)
    | _ => none
def ods : List R → List Slot → Option (List A)
  | [], _ => some []
  | r :: rs, sa => match od r sa, ods rs sa with
    | some a, some as => some (a :: as)
    | _, _ => none
def mTup (ms : SM (List R)) : SM R := bnd ms fun rs sa => match ods rs sa with
  | some as => if szB as.length then some (fin (mkT as), sa) else none
  | none => none
def mLst (ms : SM (List R)) : SM R := bnd ms fun rs sa => match ods rs sa with
  | some as => if szB as.length then some (fin (mkL as), sa) else none
  | none => none
section
variable {K : PySem.W.Frag} {H H' : Hp} {o o' : List Addr} {T : Tmp} {sa sa' : List Slot} {σ : L2.St}
theorem od_one {r : R} {v : V} {a : A} {T : Tmp} {o : List Addr} (S : SRel K o (pushT r v T) sa σ H) (R : RR K H o σ r v) (e : od r sa = some a) : ∃ f o', Rep K H a v f ∧ SRel K o' T sa σ H ∧ o = f ++ o' := by
  unfold od at e
  split at e
  · cases e
    obtain ⟨f, o', rfl, ra, S'⟩ := SRel.top S
    exact ⟨f, o', ra, S', rfl⟩
  · rename_i hr
    split at e
    · rename_i x ex
      cases e
      obtain ⟨fp, ra⟩ := rv_rep S R ex
      refine ⟨[], o, rep_d (repD_d ra), ?_, rfl⟩
      match r, hr, S with
      | .val true a, hr, _ => exact (hr a rfl).elim
      | .val false a, _, S => exact S
      | .peek j, _, S => exact S
    · cases e
theorem RR.sub {r : R} {v : V} {o1 : List Addr} (sub : ∀ b, b ∈ o1 → b ∈ o) (h : RR K H o σ r v) : RR K H o1 σ r v := by
  cases r with
  | val fl a =>
    cases fl with
    | true => exact True.intro
    | false => exact RepS.sub sub h
  | peek j => exact h
theorem ods_all : ∀ {rs : List R} {vs : List V} {T : Tmp} {o : List Addr} {as : List A}, SRel K o (pushTs rs vs T) sa σ H → RRs K H o σ rs vs → ods rs sa = some as →
    ∃ fp o', Reps K H as vs fp ∧ SRel K o' T sa σ H ∧ (fp ++ o').Perm o
  | [], vs, T, o, as, S, h, e => by
    cases h
    cases e
    exact ⟨[], o, Reps.nil, S, List.Perm.refl _⟩
  | r :: rs, vs, T, o, as, S, h, e => by
    cases h with
    | @cons _ v _ vs h1 h2 =>
      unfold ods at e
      split at e
      · rename_i a as' ea eas
        cases e
        have S' : SRel K o (pushTs rs vs (pushT r v T)) sa σ H := S
        obtain ⟨fp2, o1, r2, S1, p⟩ := ods_all S' h2 eas
        have sub : ∀ b, b ∈ o1 → b ∈ o := fun b hb => p.subset (List.mem_append_right _ hb)
        have R1 : RR K H o1 σ r v := RR.sub sub h1
        obtain ⟨f, o2, ra, S2, rfl⟩ := od_one S1 R1 ea
        refine ⟨f ++ fp2, o2, Reps.cons ra r2, S2, List.Perm.trans ?_ p⟩
        rw [List.append_assoc]
        exact List.perm_append_comm_assoc f fp2 o2
      · cases e
theorem Le.sub {f : List Addr} (p : ∀ b, b ∈ f → b ∈ o) : Le o H f H := fun b u e n => ⟨e, fun z => n (p b z)⟩
theorem SRel.perm {o1 : List Addr} {a : A} {v : V} {f : List Addr} (S : SRel K o1 T sa σ H) (r : Rep K H a v f) (nd : (f ++ o1).Nodup) (S0 : SRel K o T sa σ H) (p : ∀ b, b ∈ f ++ o1 → b ∈ o) : SRel K (f ++ o1) ((a, v) :: T) sa σ H :=
  ⟨S.len, fun i fl a' e => by
    obtain ⟨w, e1, q⟩ := S0.sl i fl a' e
    exact ⟨w, e1, fun z => RepS.sub p (q z)⟩, Reps.cons r S.own, nd⟩
/-- an owned thing is made of owned things -/
theorem SRel.made {o1 : List Addr} {a : A} {v : V} {f : List Addr} (S : SRel K o1 T sa σ H) (r : Rep K H a v f) (nd : (f ++ o1).Nodup) (sl : ∀ (i : Nat) fl a, sa[i]? = some (some (fl, a)) → ∃ v, σ[i]? = some (some v) ∧ (fl = false → RepS K H (f ++ o1) a v)) :
    SRel K (f ++ o1) (pushT (fin a) v T) sa σ H ∧ RR K H (f ++ o1) σ (fin a) v := by
  cases a with
  | d x =>
    have h := r
    unfold Rep at h
    obtain ⟨h, rfl⟩ := h
    exact ⟨S, RepS.d h⟩
  | ls xs => exact ⟨⟨S.len, sl, Reps.cons r S.own, nd⟩, True.intro⟩
  | lst xs => exact ⟨⟨S.len, sl, Reps.cons r S.own, nd⟩, True.intro⟩
  | tpl xs => exact ⟨⟨S.len, sl, Reps.cons r S.own, nd⟩, True.intro⟩
  | dd xs => exact ⟨⟨S.len, sl, Reps.cons r S.own, nd⟩, True.intro⟩
/-- a new object over them -/
theorem SRel.fresh2 {o1 f : List Addr} {c : A} {v : V} {H' : Hp} {g : List Addr} (S : SRel K o1 T sa σ H) (nd : (f ++ o1).Nodup) (sub : ∀ b, b ∈ f ++ o1 → b ∈ o) (sl : ∀ b ∈ o, ∃ u, H b = some u ∧ isMut u = true)
    (hs : ∀ (i : Nat) fl a, sa[i]? = some (some (fl, a)) → ∃ v, σ[i]? = some (some v) ∧ (fl = false → RepS K H o a v)) (same : ∀ b u, H b = some u → H' b = some u) (hg : ∀ b ∈ g, H b = none) (ndg : g.Nodup) (r : Rep K H' c v (g ++ f)) :
    SRel K ((g ++ f) ++ o1) (pushT (fin c) v T) sa σ H' ∧ RR K H' ((g ++ f) ++ o1) σ (fin c) v ∧ Le o H ((g ++ f) ++ o1) H' := by
  have ng : ∀ b ∈ g, b ∉ o := fun b hb z => by
    obtain ⟨u, e, _⟩ := sl b z
    rw [hg b hb] at e
    cases e
  have L : Le o H ((g ++ f) ++ o1) H' := fun b u e n => ⟨same b u e, fun z => by
    rw [List.append_assoc] at z
    rcases List.mem_append.mp z with z | z
    · rw [hg b z] at e
      cases e
    · exact n (sub b z)⟩
  have own' : Reps K H' (T.map (·.1) ++ sa.map ownA) (T.map (·.2) ++ ownVs sa σ) o1 := S.own.mono (fun b u e _ => same b u e) (fun b _ u e => same b u e)
  have S' : SRel K o1 T sa σ H' := ⟨S.len, fun i fl a e => by
    obtain ⟨w, e1, q⟩ := S.sl i fl a e
    refine ⟨w, e1, fun z => ?_⟩
    obtain ⟨fp, r, n⟩ := q z
    exact ⟨fp, r.mono (fun b u e _ => same b u e) (fun b _ u e => same b u e), n⟩, own', S.nd⟩
  have nd' : ((g ++ f) ++ o1).Nodup := by
    rw [List.append_assoc]
    exact List.nodup_append.mpr ⟨ndg, nd, fun a ha b hb e => by
      subst e
      exact ng a ha (sub a hb)⟩
  obtain ⟨h1, h2⟩ := SRel.made S' r nd' fun i fl a e => by
    obtain ⟨w, e1, q⟩ := hs i fl a e
    refine ⟨w, e1, fun z => ?_⟩
    obtain ⟨fp, r, n⟩ := q z
    refine ⟨fp, r.mono (fun b u e _ => same b u e) (fun b _ u e => same b u e), fun b hb z => ?_⟩
    rw [List.append_assoc] at z
    rcases List.mem_append.mp z with z | z
    · obtain ⟨u, e, _⟩ := r.mem b hb
      rw [hg b z] at e
      cases e
    · exact n b hb (sub b z)
  exact ⟨h1, h2, L⟩
theorem pushTs_slots : ∀ {rs : List R} {vs : List V} {T : Tmp}, SRel K o (pushTs rs vs T) sa σ H → (∀ (i : Nat) fl a, sa[i]? = some (some (fl, a)) → ∃ v, σ[i]? = some (some v) ∧ (fl = false → RepS K H o a v)) := fun S => S.sl
end
section
variable {X : Cx} {e : Expr} {es : List Expr} {m : SM R} {ms : SM (List R)} {pos : Pos}
theorem pma_nil : PMA X [] mNil := PA.weak pa_nil fun σ H Q h => by
  obtain ⟨o, T, sa, rs, sa', e, S, q⟩ := h
  cases e
  exact q o [] H Le.refl S .nil
theorem pma_cons (ha : PM X e m) (hr : PMA X es ms) (hs : starEach (e :: es) X.env = (false, eval e X.env) :: starEach es X.env := by rfl) : PMA X (e :: es) (mCons m ms) := PA.weak (pa_cons ha hr hs) fun σ H Q h => by
  obtain ⟨o, T, sa, rs, sa', e, S, q⟩ := h
  obtain ⟨r1, s1, e1, e2⟩ := bnd_some e
  obtain ⟨rs2, s2, e2, e3⟩ := bnd_some e2
  cases e3
  refine ⟨o, T, sa, r1, s1, e1, S, fun o1 v H1 L1 S1 R1 => ?_⟩
  exact ⟨o1, pushT r1 v T, s1, rs2, _, e2, S1, fun o2 vs H2 L2 S2 R2 => q o2 (v :: vs) H2 (L1.trans L2) S2 (.cons (R1.mono S1 L2) R2)⟩
theorem rep_mkT {K : PySem.W.Frag} {H : Hp} {p : Addr} {as : List A} {vs : List V} {f : List Addr} (r : Reps K H as vs f) (n : H p = none) : Rep K (upd H p (.tup vs)) (mkT as) (.ref p) f := by
  unfold mkT
  split
  · rename_i ds e
    rw [allD_eq e] at r
    obtain ⟨r', rfl⟩ := Reps.data r
    exact rep_tup r' n
  · unfold Rep
    exact ⟨p, vs, rfl, .inl (.inl upd_same), Reps.fresh (Fresh.new0 n) r⟩
theorem rep_mkL {K : PySem.W.Frag} {H : Hp} {p : Addr} {as : List A} {vs : List V} {f : List Addr} (r : Reps K H as vs f) (n : H p = none) : Rep K (upd H p (.lst vs)) (mkL as) (.ref p) (p :: f) := by
  unfold mkL
  split
  · rename_i ds e
    rw [allD_eq e] at r
    obtain ⟨r', rfl⟩ := Reps.data r
    exact rep_ls r' n
  · unfold Rep
    exact ⟨p, vs, f, rfl, upd_same, Reps.fresh (Fresh.one n) r, rfl⟩
theorem pm_tup {x1} (h : PMA X es ms) : PM X (.Tuple es x1 pos) (mTup ms) := PE.weak (pe_tup h) fun σ H Q h => by
  obtain ⟨o, T, sa, r, sa', e, S, q⟩ := h
  obtain ⟨rs, s1, e1, e2⟩ := bnd_some e
  split at e2
  · rename_i as ea
    split at e2
    · rename_i hz
      cases e2
      refine ⟨o, T, sa, rs, _, e1, S, fun o1 vs H1 L1 S1 R1 => ?_⟩
      obtain ⟨fp, o2, rr, S2, p⟩ := ods_all S1 R1 ea
      refine ⟨by rw [← rr.len]; exact szB_ok hz, fun l hl => ?_⟩
      obtain ⟨h1, h2, h3⟩ := SRel.fresh2 (o := o1) (g := []) S2 (p.symm.nodup S1.nd) (fun b hb => p.subset hb) S1.mut S1.sl (Fresh.new0 hl).same (fun _ h => nomatch h) List.nodup_nil (rep_mkT rr hl)
      exact q _ _ _ (L1.trans h3) h1 h2
    · cases e2
  · cases e2
theorem pm_lst (h : PMA X es ms) : PM X (.List es pos) (mLst ms) := PE.weak (pe_lst h) fun σ H Q h => by
  obtain ⟨o, T, sa, r, sa', e, S, q⟩ := h
  obtain ⟨rs, s1, e1, e2⟩ := bnd_some e
  split at e2
  · rename_i as ea
    split at e2
    · rename_i hz
      cases e2
      refine ⟨o, T, sa, rs, _, e1, S, fun o1 vs H1 L1 S1 R1 => ?_⟩
      obtain ⟨fp, o2, rr, S2, p⟩ := ods_all S1 R1 ea
      refine ⟨by rw [← rr.len]; exact szB_ok hz, fun l hl => ?_⟩
      obtain ⟨h1, h2, h3⟩ := SRel.fresh2 (o := o1) (g := [l]) S2 (p.symm.nodup S1.nd) (fun b hb => p.subset hb) S1.mut S1.sl (Fresh.one hl).same (fun b hb => by
        have : b = l := by simpa using hb
        rw [this]; exact hl) (by simp) (rep_mkL rr hl)
      exact q _ _ _ (L1.trans h3) h1 h2
    · cases e2
  · cases e2
end
end MM
namespace MM
open PySem PySem.Spec PyProof.Rows L2

/-! ### subscripts -/
def ixA : A → A → Option A
  | .d (.tup xs), .d (.int i) => (atI xs i).map .d
  | .ls xs, .d (.int i) => (atI xs i).map .d
  | .lst xs, .d (.int i) => atI xs i
  | .tpl xs, .d (.int i) => atI xs i
  | .d (.str s), .d (.int i) => if szB s.length then (atI s.cps.toList i).map fun c => .d (.str ⟨#[c]⟩) else none
  | _, _ => none
def downg (j : Nat) (sa : List Slot) : List Slot := match sa[j]? with
  | some (some (_, a)) => sa.set j (some (false, a))
  | _ => sa
def mIx (ma mb : SM R) : SM R := bnd ma fun r1 => bnd mb fun r2 sa => match rv r1 sa, rv r2 sa with
  | some a, some i => match ixA a i with
    | some (.d z) => some (.val false (.d z), sa)
    | some c => match r1 with
      | .val fl _ => some (.val fl c, sa)
      | .peek j => some (.val false c, downg j sa)
    | none => none
  | _, _ => none
theorem atI_len {α β : Type} {xs : List α} {ys : List β} (h : xs.length = ys.length) (i : Int) : (∃ j : Nat, atI xs i = xs[j]? ∧ atI ys i = ys[j]?) ∨ (atI xs i = none ∧ atI ys i = none) := by
  unfold atI
  rw [← h]
  cases e : ixN xs.length i with
  | none => exact .inr ⟨rfl, rfl⟩
  | some j => exact .inl ⟨j, rfl, rfl⟩
theorem Reps.get {K : PySem.W.Frag} {H : Hp} {xs : List A} {ys : List V} {f : List Addr} {i : Nat} {x : A} (h : Reps K H xs ys f) (e : xs[i]? = some x) : ∃ y g, ys[i]? = some y ∧ Rep K H x y g ∧ g.Sublist f := by
  have hi : i < ys.length := by rw [← h.len]; exact (List.getElem?_eq_some_iff.mp e).1
  obtain ⟨f1, fi, f2, rfl, r, _⟩ := h.at e (List.getElem?_eq_getElem hi)
  exact ⟨_, fi, List.getElem?_eq_getElem hi, r, (List.sublist_append_right _ _).trans (List.sublist_append_left _ _)⟩
theorem ix_ok {K : PySem.W.Frag} {H : Hp} {a b c : A} {x y : V} {fa fb : List Addr} {Q : VK} (ra : Rep K H a x fa) (rb : Rep K H b y fb) (e : ixA a b = some c) (q : ∀ z fc, Rep K H c z fc → fc.Sublist fa → Q z H) : rIx K x y H Q := by
  unfold ixA at e
  split at e
  · rename_i xs i
    obtain ⟨p, ys, rfl, s, r⟩ := tup_of ra
    cases e1 : atI xs i with
    | none => rw [e1] at e; cases e
    | some d =>
      rw [e1] at e
      cases e
      rcases atI_len r.len i with ⟨j, h1, h2⟩ | ⟨h1, _⟩
      · rw [h1] at e1
        obtain ⟨z, ez, rz⟩ := r.get e1
        exact .inr (.inl ⟨p, ys, i, z, rfl, int_of rb, s, h2.trans ez, q z [] (rep_d rz) (List.nil_sublist _)⟩)
      · rw [h1] at e1; cases e1
  · rename_i xs i
    obtain ⟨p, ys, rfl, s, r, _⟩ := ls_of ra
    cases e1 : atI xs i with
    | none => rw [e1] at e; cases e
    | some d =>
      rw [e1] at e
      cases e
      rcases atI_len r.len i with ⟨j, h1, h2⟩ | ⟨h1, _⟩
      · rw [h1] at e1
        obtain ⟨z, ez, rz⟩ := r.get e1
        exact .inl ⟨p, ys, i, z, rfl, int_of rb, .of s, h2.trans ez, q z [] (rep_d rz) (List.nil_sublist _)⟩
      · rw [h1] at e1; cases e1
  · rename_i xs i
    obtain ⟨p, ys, g, rfl, s, r, rfl⟩ := lst_of ra
    rcases atI_len r.len i with ⟨j, h1, h2⟩ | ⟨h1, _⟩
    · rw [h1] at e
      obtain ⟨z, g', ez, rz, sub⟩ := r.get e
      exact .inl ⟨p, ys, i, z, rfl, int_of rb, .of s, h2.trans ez, q z _ rz (sub.trans (List.sublist_cons_self _ _))⟩
    · rw [h1] at e; cases e
  · rename_i xs i
    obtain ⟨p, ys, rfl, s, r⟩ := tpl_of ra
    rcases atI_len r.len i with ⟨j, h1, h2⟩ | ⟨h1, _⟩
    · rw [h1] at e
      obtain ⟨z, g', ez, rz, sub⟩ := r.get e
      exact .inr (.inl ⟨p, ys, i, z, rfl, int_of rb, s, h2.trans ez, q z _ rz sub⟩)
    · rw [h1] at e; cases e
  · rename_i st i
    split at e
    · rename_i hz
      cases e1 : atI st.cps.toList i with
      | none => rw [e1] at e; cases e
      | some d =>
        rw [e1] at e
        cases e
        exact .inr (.inr ⟨st, i, d, str_of ra, int_of rb, szB_ok hz, e1, q _ [] rep_str (List.nil_sublist _)⟩)
    · cases e
  · cases e
section
variable {X : Cx} {a b : Expr} {ma mb : SM R} {pos : Pos}
theorem pm_ix (ha : PM X a ma) (hb : PM X b mb) (hs : PlainIx b) : PM X (.Subscript a b pos) (mIx ma mb) := PE.weak (pe_ix ix_seq ha hb hs) fun σ H Q h => by
  obtain ⟨o, T, sa, r, sa', e, S, q⟩ := h
  obtain ⟨r1, s1, e1, e2⟩ := bnd_some e
  obtain ⟨r2, s2, e2, e3⟩ := bnd_some e2
  refine ⟨o, T, sa, r1, s1, e1, S, fun o1 v H1 L1 S1 R1 => ?_⟩
  refine ⟨o1, pushT r1 v T, s1, r2, _, e2, S1, fun o2 v2 H2 L2 S2 R2 => ?_⟩
  split at e3
  · rename_i a i ea ei
    obtain ⟨fb, rb⟩ := rv_rep S2 R2 ei
    obtain ⟨o3, S3, L3⟩ := SRel.pop S2
    have R1' : RR X.K H2 o3 σ r1 v := (R1.mono S1 L2).mono S2 L3
    have L := (L1.trans L2).trans L3
    split at e3
    · rename_i z ec
      cases e3
      obtain ⟨fa, ra⟩ := rv_rep S3 R1' ea
      refine ix_ok ra rb ec fun y fc ry _ => ?_
      obtain ⟨o4, S4, L4⟩ := SRel.pop S3
      exact q o4 y H2 (L.trans L4) S4 (RepS.d (repD_d ry))
    · rename_i c hc ec
      split at e3
      · rename_i fl a0
        have ea : a0 = a := Option.some.inj ea
        subst ea
        cases e3
        cases fl with
        | true =>
          obtain ⟨f, o4, rfl, ra, S4⟩ := SRel.top S3
          refine ix_ok ra rb ec fun y fc ry sub => ?_
          have nd : (fc ++ o4).Nodup := List.nodup_append.mpr ⟨(List.nodup_append.mp S3.nd).1.sublist sub, S4.nd, fun b hb c hc => (List.nodup_append.mp S3.nd).2.2 b (sub.subset hb) c hc⟩
          have sb : ∀ b, b ∈ fc ++ o4 → b ∈ f ++ o4 := fun b hb => by
            rcases List.mem_append.mp hb with hb | hb
            · exact List.mem_append_left _ (sub.subset hb)
            · exact List.mem_append_right _ hb
          refine q (fc ++ o4) y H2 (L.trans (Le.sub sb)) ⟨S4.len, fun i fl a e => ?_, Reps.cons ry S4.own, nd⟩ True.intro
          obtain ⟨w, e1, z⟩ := S3.sl i fl a e
          exact ⟨w, e1, fun y => RepS.sub sb (z y)⟩
        | false =>
          obtain ⟨fp, ra, n⟩ := R1'
          exact ix_ok ra rb ec fun y fc ry sub => q o3 y H2 L S3 ⟨fc, ry, fun b hb => n b (sub.subset hb)⟩
      · rename_i j
        cases e3
        have eu : ∃ fl, use (.peek j) s2 = some ((false, a), downg j s2) ∧ s2[j]? = some (some (fl, a)) := by
          have ea : (match s2[j]? with
            | some (some p) => some p.2
            | _ => none) = some a := ea
          split at ea
          · rename_i p q
            cases ea
            refine ⟨p.1, ?_, q⟩
            show (match s2[j]? with
              | some (some (_, a)) => some (((false, a) : Bool × A), s2.set j (some (false, a)))
              | _ => none) = _
            unfold downg
            rw [q]
          · cases ea
        obtain ⟨fl, eu, _⟩ := eu
        obtain ⟨o4, S4, L4, R4, _⟩ := bnd_use (T := T) (v := v) S3 R1' eu
        obtain ⟨fp, ra, n⟩ := R4
        exact ix_ok ra rb ec fun y fc ry sub => q o4 y H2 (L.trans L4) S4 ⟨fc, ry, fun b hb => n b (sub.subset hb)⟩
    · cases e3
  · cases e3
end

/-! ### slices -/
theorem scr_of {K : PySem.W.Frag} {H : Hp} {ns : List Int} {v : V} {f : List Addr} (h : Rep K H (.d (.scr ns)) v f) : ∃ a, v = .ref a ∧ ScrAt K H a ns := by
  have := repD_d h
  unfold RepD at this
  exact this
theorem repDs_ints {K : PySem.W.Frag} {H : Hp} : ∀ ns : List Int, RepDs K H (ns.map .int) (ns.map V.int)
  | [] => by
    show RepDs K H [] []
    unfold RepDs
    rfl
  | n :: ns => by
    show RepDs K H (.int n :: ns.map .int) (.int n :: ns.map V.int)
    unfold RepDs
    exact ⟨_, _, rfl, by unfold RepD; rfl, repDs_ints ns⟩
def cutL {α : Type} (xs : List α) (lo hi : Option Int) : List α := (xs.drop (HT.sIx xs.length 0 lo)).take (HT.sIx xs.length xs.length hi - HT.sIx xs.length 0 lo)
theorem cutL_V (xs : List V) (lo hi : Option Int) : cutL xs lo hi = cutV xs lo hi := rfl
def slA (lo hi : Option Int) : A → Option A
  | .d (.tup xs) => some (.t (cutL xs lo hi))
  | .ls xs => some (.ls (cutL xs lo hi))
  | .d (.scr ns) => some (.ls (cutL (ns.map .int) lo hi))
  | .d (.str s) => if szB s.length then some (.s (cutS s lo hi)) else none
  | _ => none
def partN : SM (Option Int) := ret none
def partS (m : SM R) : SM (Option Int) := bnd m fun r sa => match r with
  | .val true _ => none
  | r => match rv r sa with
    | some (.d (.int i)) => some (some i, sa)
    | _ => none
def mSl (m : SM R) (l h : SM (Option Int)) : SM R := bnd m fun r => bnd l fun lo => bnd h fun hi => app1 (slA lo hi) r
def tOfP (K : PySem.W.Frag) (m : SM (Option Int)) : TO := fun σ H Q => ∃ o T sa r sa', m sa = some (r, sa') ∧ SRel K o T sa σ H ∧
  ∀ o' H', Le o H o' H' → SRel K o' T sa' σ H' → Q r H'
theorem RepDs.cut {K : PySem.W.Frag} {H : Hp} {xs : List D} {ys : List V} (r : RepDs K H xs ys) (lo hi : Option Int) : RepDs K H (cutL xs lo hi) (cutV ys lo hi) := by
  unfold cutL cutV
  rw [r.len]
  exact (r.drop _).take _
def rSlX (K : PySem.W.Frag) : V → Option Int → Option Int → Hp → VK → Prop := fun x lo hi H Q => rSlA K x lo hi H Q ∨ (rSlL K x lo hi H Q ∨ rSlS x lo hi H Q)
section
variable {X : Cx} {e : Expr} {lo hi : Option Expr} {m : SM R} {l h : SM (Option Int)} {pos p2 : Pos}
theorem sl_X : SlR X (rSlX X.K) := sl_tupA.or (sl_list.or sl_str)
theorem sl_okA {K : PySem.W.Frag} {H : Hp} {a c : A} {x : V} {f : List Addr} {lo hi : Option Int} {Q : VK} (r : Rep K H a x f) (e : slA lo hi a = some c) (q : ∀ v H' o', Fresh H H' o' → Rep K H' c v o' → Q v H') : rSlX K x lo hi H Q := by
  unfold slA at e
  split at e
  · rename_i xs
    cases e
    obtain ⟨p, ys, rfl, s, rs⟩ := tup_of r
    refine .inl ⟨p, ys, rfl, s, fun ⟨z1, z2⟩ => ?_, fun _ l hl => q _ _ [] (Fresh.new0 hl) (rep_tup (rs.cut lo hi) hl)⟩
    have : cutL xs lo hi = xs := by
      unfold cutL
      rw [rs.len, z1, z2]
      simp [← rs.len]
    rw [this] at q
    exact q _ H [] Fresh.refl (rep_d (repD_d r))
  · cases e
    obtain ⟨p, ys, rfl, s, rs, _⟩ := ls_of r
    exact .inr (.inl ⟨p, ys, rfl, .of s, fun l hl => q _ _ [l] (Fresh.one hl) (rep_ls (rs.cut lo hi) hl)⟩)
  · cases e
    obtain ⟨p, rfl, s⟩ := scr_of r
    exact .inr (.inl ⟨p, _, rfl, s.seq, fun l hl => q _ _ [l] (Fresh.one hl) (rep_ls ((repDs_ints _).cut lo hi) hl)⟩)
  · split at e
    · rename_i hz
      cases e
      exact .inr (.inr ⟨_, str_of r, szB_ok hz, q _ H [] Fresh.refl rep_str⟩)
    · cases e
  · cases e
theorem pmp_none : PO X none (tOfP X.K partN) := ⟨fun pins s σ H Q I h => po_none.run pins s σ H Q I (by
  obtain ⟨o, T, sa, r, sa', e, S, q⟩ := h
  cases e
  exact q o H Le.refl S)⟩
theorem pmp_some {e : Expr} {m : SM R} (h : PM X e m) : PO X (some e) (tOfP X.K (partS m)) := ⟨fun pins s σ H Q I hw => (po_some h).run pins s σ H Q I (by
  obtain ⟨o, T, sa, r, sa', e, S, q⟩ := hw
  obtain ⟨r1, s1, e1, e2⟩ := bnd_some e
  refine ⟨o, T, sa, r1, s1, e1, S, fun o1 v H1 L1 S1 R1 => ?_⟩
  split at e2
  · cases e2
  · rename_i hr
    split at e2
    · rename_i i ei
      cases e2
      obtain ⟨fp, ra⟩ := rv_rep S1 R1 ei
      refine ⟨i, int_of ra, q o1 H1 L1 ?_⟩
      match r1, hr, S1 with
      | .val true a, hr, _ => exact (hr a rfl).elim
      | .val false a, _, S => exact S
      | .peek j, _, S => exact S
    · cases e2)⟩
theorem pm_sl (he : PM X e m) (hl : PO X lo (tOfP X.K l)) (hu : PO X hi (tOfP X.K h)) : PM X (.Subscript e (.Slice lo hi none p2) pos) (mSl m l h) := PE.weak (pe_slice sl_X he hl hu) fun σ H Q hw => by
  obtain ⟨o, T, sa, r, sa', e, S, q⟩ := hw
  obtain ⟨r1, s1, e1, e2⟩ := bnd_some e
  obtain ⟨lo, s2, el, e3⟩ := bnd_some e2
  obtain ⟨hi, s3, eh, e4⟩ := bnd_some e3
  obtain ⟨a, c, ea, ec, rfl, rfl⟩ := app1_some e4
  refine ⟨o, T, sa, r1, s1, e1, S, fun o1 v H1 L1 S1 R1 => ?_⟩
  refine ⟨o1, pushT r1 v T, s1, lo, s2, el, S1, fun o2 H2 L2 S2 => ?_⟩
  refine ⟨o2, pushT r1 v T, s2, hi, _, eh, S2, fun o3 H3 L3 S3 => ?_⟩
  obtain ⟨fp, ra⟩ := rv_rep S3 ((R1.mono S1 L2).mono S2 L3) ea
  refine sl_okA ra ec fun v' H' o' F r' => ?_
  obtain ⟨o4, S4, L4⟩ := SRel.pop S3
  obtain ⟨S5, L5, R5⟩ := SRel.fresh S4 F r'
  exact q _ v' H' ((((L1.trans L2).trans L3).trans L4).trans L5) S5 R5
end

/-! ### calls of builtins -/
section
variable {X : Cx} {e : Expr} {es : List Expr} {ms : SM (List R)} {pos p : Pos} {x : Str} {id T : String} {r : List V → Hp → VK → Prop} {f : List A → Option A}
theorem pm_callB (hc : CallR X (.builtin id) r) (pr : PrN X.K r f) (hg : Gl X x) (hm : X.mg x = none) (hv : bootBuiltins x = some (.builtin id)) (ha : PMA X (e :: es) ms) (hn : x ≠ "__name__" := by decide) (hdb : (x == ("__debug__" : Str)) = false := by decide)
    (he : starEach (e :: es) X.env = (false, eval e X.env) :: starEach es X.env := by rfl) (hpl : (backTo pos (starEach es X.env)).any (·.1) = false := by rfl) : PM X (.Call (.Name x p) (e :: es) [] pos) (mN f ms) :=
  PE.weak (pe_callB hc hg hm hv ha hn hdb he hpl) fun σ H Q h => stepN pr h
theorem pm_callT (hc : CallR X (.type T) r) (pr : PrN X.K r f) (hg : Gl X x) (hm : X.mg x = none) (hv : bootBuiltins x = some (.type T)) (ha : PMA X (e :: es) ms) (hn : x ≠ "__name__" := by decide) (hdb : (x == ("__debug__" : Str)) = false := by decide)
    (he : starEach (e :: es) X.env = (false, eval e X.env) :: starEach es X.env := by rfl) (hpl : (backTo pos (starEach es X.env)).any (·.1) = false := by rfl) : PM X (.Call (.Name x p) (e :: es) [] pos) (mN f ms) :=
  PE.weak (pe_callTy hc hg hm hv ha hn hdb he hpl) fun σ H Q h => stepN pr h
end
section
variable {K : PySem.W.Frag} {H : Hp}
theorem reps1 {a : A} {xs : List V} {f : List Addr} (h : Reps K H [a] xs f) : ∃ x g, xs = [x] ∧ Rep K H a x g := by
  unfold Reps at h
  obtain ⟨y, r, f1, f2, rfl, rfl, h1, h2⟩ := h
  unfold Reps at h2
  obtain ⟨rfl, rfl⟩ := h2
  exact ⟨y, f1, rfl, h1⟩
theorem reps2 {a b : A} {xs : List V} {f : List Addr} (h : Reps K H [a, b] xs f) : ∃ x y g g', xs = [x, y] ∧ Rep K H a x g ∧ Rep K H b y g' := by
  unfold Reps at h
  obtain ⟨y, r, f1, f2, rfl, rfl, h1, h2⟩ := h
  obtain ⟨z, g, rfl, h3⟩ := reps1 h2
  exact ⟨y, z, f1, g, rfl, h1, h3⟩
end
/-- a function of one value, of two -/
def f1 (g : A → Option A) : List A → Option A
  | [a] => g a
  | _ => none
def f2 (g : A → A → Option A) : List A → Option A
  | [a, b] => g a b
  | _ => none
theorem prN1 {K : PySem.W.Frag} {r : List V → Hp → VK → Prop} {g : A → Option A} (h : ∀ (H : Hp) (a : A) (x : V) (fa : List Addr) (c : A) (Q : VK), Rep K H a x fa → g a = some c → (∀ v H' o', Fresh H H' o' → Rep K H' c v o' → Q v H') → r [x] H Q) : PrN K r (f1 g) := by
  intro H as xs fa c Q rs e q
  unfold f1 at e
  split at e
  · obtain ⟨x, fx, rfl, rx⟩ := reps1 rs
    exact h H _ x fx c Q rx e q
  · cases e
theorem prN2 {K : PySem.W.Frag} {r : List V → Hp → VK → Prop} {g : A → A → Option A} (h : ∀ (H : Hp) (a b : A) (x y : V) (fa fb : List Addr) (c : A) (Q : VK), Rep K H a x fa → Rep K H b y fb → g a b = some c → (∀ v H' o', Fresh H H' o' → Rep K H' c v o' → Q v H') → r [x, y] H Q) : PrN K r (f2 g) := by
  intro H as xs fa c Q rs e q
  unfold f2 at e
  split at e
  · obtain ⟨x, y, fx, fy, rfl, rx, ry⟩ := reps2 rs
    exact h H _ _ x y fx fy c Q rx ry e q
  · cases e
def lenA : A → Option A
  | .d (.tup xs) => some (.i xs.length)
  | .ls xs => some (.i xs.length)
  | .lst xs => some (.i xs.length)
  | .tpl xs => some (.i xs.length)
  | .d (.str s) => if szB s.length then some (.i s.length) else none
  | .d (.scr ns) => some (.i ns.length)
  | _ => none
def absA : A → Option A
  | .d (.int i) => some (.i (if i < 0 then -i else i))
  | _ => none
def max2A : A → A → Option A
  | .d (.int i), .d (.int j) => some (.i (if j > i then j else i))
  | _, _ => none
def min2A : A → A → Option A
  | .d (.int i), .d (.int j) => some (.i (if j < i then j else i))
  | _, _ => none
def intA : A → Option A
  | .d (.int i) => some (.i i)
  | .d (.bl b) => some (.i (if b then 1 else 0))
  | _ => none
def strA : A → Option A
  | .d (.int i) => if decide (i.natAbs.log2 < 1920) then some (.s (toString i)) else none
  | _ => none
def listA : A → Option A
  | .d (.tup xs) => some (.ls xs)
  | .ls xs => some (.ls xs)
  | _ => none
def tupleA : A → Option A
  | .d (.tup xs) => some (.t xs)
  | .ls xs => some (.t xs)
  | _ => none
/-- the ints of a list -/
def intsD : List D → Option (List Int)
  | [] => some []
  | .int i :: r => (intsD r).map (i :: ·)
  | _ :: _ => none
def blsD : List D → Option (List Bool)
  | [] => some []
  | .bl i :: r => (blsD r).map (i :: ·)
  | _ :: _ => none
def sumA : A → Option A
  | .ls xs => (intsD xs).map fun ns => .i ns.sum
  | _ => none
def allA : A → Option A
  | .ls xs => (blsD xs).map fun bs => .b (bs.all id)
  | _ => none
def anyA : A → Option A
  | .ls xs => (blsD xs).map fun bs => .b (bs.any id)
  | _ => none
def maxI : List Int → Option Int
  | [] => none
  | x :: r => some (r.foldl max x)
def minI : List Int → Option Int
  | [] => none
  | x :: r => some (r.foldl min x)
def maxA : A → Option A
  | .ls xs => (intsD xs).bind fun ns => (maxI ns).map .i
  | _ => none
def minA : A → Option A
  | .ls xs => (intsD xs).bind fun ns => (minI ns).map .i
  | _ => none
theorem intsD_map : ∀ ns : List Int, intsD (ns.map .int) = some ns
  | [] => rfl
  | n :: ns => by
    show (intsD (ns.map .int)).map (n :: ·) = _
    rw [intsD_map ns]; rfl
theorem blsD_map : ∀ ns : List Bool, blsD (ns.map .bl) = some ns
  | [] => rfl
  | n :: ns => by
    show (blsD (ns.map .bl)).map (n :: ·) = _
    rw [blsD_map ns]; rfl
section
variable {K : PySem.W.Frag} {H : Hp}
theorem ints_rep : ∀ {xs : List D} {ys : List V} {ns : List Int}, RepDs K H xs ys → intsD xs = some ns → ys = ns.map V.int
  | [], ys, ns, h, e => by
    unfold RepDs at h; subst h; cases e; rfl
  | .int i :: r, ys, ns, h, e => by
    unfold RepDs at h
    obtain ⟨y, t, rfl, h1, h2⟩ := h
    have e : (intsD r).map (i :: ·) = some ns := e
    cases q : intsD r with
    | none => rw [q] at e; cases e
    | some ms =>
      rw [q] at e; cases e
      unfold RepD at h1
      subst h1
      rw [ints_rep h2 q]; rfl
  | .non :: _, _, _, _, e => by cases e
  | .bl _ :: _, _, _, _, e => by cases e
  | .str _ :: _, _, _, _, e => by cases e
  | .tup _ :: _, _, _, _, e => by cases e
  | .opq _ :: _, _, _, _, e => by cases e
  | .scr _ :: _, _, _, _, e => by cases e
theorem bls_rep : ∀ {xs : List D} {ys : List V} {ns : List Bool}, RepDs K H xs ys → blsD xs = some ns → ys = ns.map V.bl
  | [], ys, ns, h, e => by
    unfold RepDs at h; subst h; cases e; rfl
  | .bl i :: r, ys, ns, h, e => by
    unfold RepDs at h
    obtain ⟨y, t, rfl, h1, h2⟩ := h
    have e : (blsD r).map (i :: ·) = some ns := e
    cases q : blsD r with
    | none => rw [q] at e; cases e
    | some ms =>
      rw [q] at e; cases e
      unfold RepD at h1
      subst h1
      rw [bls_rep h2 q]; rfl
  | .non :: _, _, _, _, e => by cases e
  | .int _ :: _, _, _, _, e => by cases e
  | .str _ :: _, _, _, _, e => by cases e
  | .tup _ :: _, _, _, _, e => by cases e
  | .opq _ :: _, _, _, _, e => by cases e
  | .scr _ :: _, _, _, _, e => by cases e
theorem maxI_ok : ∀ {r : List Int} {x m : Int}, r.foldl max x = m → m ∈ x :: r ∧ ∀ y ∈ x :: r, y ≤ m
  | [], x, m, h => by
    have h : x = m := h
    subst h; simp
  | z :: r, x, m, h => by
    have h : r.foldl max (max x z) = m := h
    obtain ⟨h1, h2⟩ := maxI_ok h
    refine ⟨?_, fun y hy => ?_⟩
    · rcases List.mem_cons.mp h1 with e | e
      · rw [e]
        rcases Int.le_total x z with h | h
        · rw [Int.max_eq_right h]; simp
        · rw [Int.max_eq_left h]; simp
      · simp [e]
    · have h3 := h2 (max x z) (by simp)
      rcases List.mem_cons.mp hy with rfl | hy
      · exact Int.le_trans (Int.le_max_left _ _) h3
      · rcases List.mem_cons.mp hy with rfl | hy
        · exact Int.le_trans (Int.le_max_right _ _) h3
        · exact h2 y (by simp [hy])
theorem minI_ok : ∀ {r : List Int} {x m : Int}, r.foldl min x = m → m ∈ x :: r ∧ ∀ y ∈ x :: r, m ≤ y
  | [], x, m, h => by
    have h : x = m := h
    subst h; simp
  | z :: r, x, m, h => by
    have h : r.foldl min (min x z) = m := h
    obtain ⟨h1, h2⟩ := minI_ok h
    refine ⟨?_, fun y hy => ?_⟩
    · rcases List.mem_cons.mp h1 with e | e
      · rw [e]
        rcases Int.le_total x z with h | h
        · rw [Int.min_eq_left h]; simp
        · rw [Int.min_eq_right h]; simp
      · simp [e]
    · have h3 := h2 (min x z) (by simp)
      rcases List.mem_cons.mp hy with rfl | hy
      · exact Int.le_trans h3 (Int.min_le_left _ _)
      · rcases List.mem_cons.mp hy with rfl | hy
        · exact Int.le_trans h3 (Int.min_le_right _ _)
        · exact h2 y (by simp [hy])
end
section
variable {X : Cx}
theorem pr_len : PrN X.K (fun xs H Q => ∃ x n, xs = [x] ∧ LenV X.K x H n ∧ Q (.int n) H) (f1 lenA) := prN1 fun H a x fa c Q r e q => by
  unfold lenA at e
  split at e
  · cases e
    obtain ⟨p, ys, rfl, s, rs⟩ := tup_of r
    rw [rs.len] at q
    exact ⟨_, _, rfl, .inr ⟨ys, s, rfl⟩, q _ H [] Fresh.refl rep_int⟩
  · cases e
    obtain ⟨p, ys, rfl, s, rs, _⟩ := ls_of r
    rw [rs.len] at q
    exact ⟨_, _, rfl, .inl ⟨ys, .of s, rfl⟩, q _ H [] Fresh.refl rep_int⟩
  · cases e
    obtain ⟨p, ys, g, rfl, s, rs, _⟩ := lst_of r
    rw [rs.len] at q
    exact ⟨_, _, rfl, .inl ⟨ys, .of s, rfl⟩, q _ H [] Fresh.refl rep_int⟩
  · cases e
    obtain ⟨p, ys, rfl, s, rs⟩ := tpl_of r
    rw [rs.len] at q
    exact ⟨_, _, rfl, .inr ⟨ys, s, rfl⟩, q _ H [] Fresh.refl rep_int⟩
  · split at e
    · rename_i hz
      cases e
      have := str_of r
      subst this
      exact ⟨_, _, rfl, ⟨szB_ok hz, rfl⟩, q _ H [] Fresh.refl rep_int⟩
    · cases e
  · cases e
    obtain ⟨p, rfl, s⟩ := scr_of r
    exact ⟨_, _, rfl, .inl ⟨_, s.seq, rfl⟩, by rw [List.length_map]; exact q _ H [] Fresh.refl rep_int⟩
  · cases e
theorem pr_abs {K : PySem.W.Frag} : PrN K (fun xs H Q => ∃ i, xs = [.int i] ∧ Q (.int (if i < 0 then -i else i)) H) (f1 absA) := prN1 fun H a x fa c Q r e q => by
  unfold absA at e
  split at e
  · cases e
    exact ⟨_, by rw [int_of r], q _ H [] Fresh.refl rep_int⟩
  · cases e
theorem pr_max2 {K : PySem.W.Frag} : PrN K (fun xs H Q => ∃ i j, xs = [.int i, .int j] ∧ Q (.int (if j > i then j else i)) H) (f2 max2A) := prN2 fun H a b x y fa fb c Q r r2 e q => by
  unfold max2A at e
  split at e
  · cases e
    exact ⟨_, _, by rw [int_of r, int_of r2], q _ H [] Fresh.refl rep_int⟩
  · cases e
theorem pr_min2 {K : PySem.W.Frag} : PrN K (fun xs H Q => ∃ i j, xs = [.int i, .int j] ∧ Q (.int (if j < i then j else i)) H) (f2 min2A) := prN2 fun H a b x y fa fb c Q r r2 e q => by
  unfold min2A at e
  split at e
  · cases e
    exact ⟨_, _, by rw [int_of r, int_of r2], q _ H [] Fresh.refl rep_int⟩
  · cases e
theorem pr_int {K : PySem.W.Frag} : PrN K (fun xs H Q => (∃ i, xs = [.int i] ∧ Q (.int i) H) ∨ ∃ k, xs = [.bl k] ∧ Q (.int (if k then 1 else 0)) H) (f1 intA) := prN1 fun H a x fa c Q r e q => by
  unfold intA at e
  split at e
  · cases e
    exact .inl ⟨_, by rw [int_of r], q _ H [] Fresh.refl rep_int⟩
  · cases e
    exact .inr ⟨_, by rw [bl_of r], q _ H [] Fresh.refl rep_int⟩
  · cases e
theorem pr_str {K : PySem.W.Frag} : PrN K (fun xs H Q => ∃ i, xs = [.int i] ∧ i.natAbs.log2 < 1920 ∧ Q (.str (toString i)) H) (f1 strA) := prN1 fun H a x fa c Q r e q => by
  unfold strA at e
  split at e
  · split at e
    · rename_i hz
      cases e
      exact ⟨_, by rw [int_of r], of_decide_eq_true hz, q _ H [] Fresh.refl rep_str⟩
    · cases e
  · cases e
theorem pr_list : PrN X.K (fun xs H Q => ∃ p ys, xs = [.ref p] ∧ (SqL X.K H p ys ∨ SqT X.K H p ys) ∧ ∀ l, H l = none → Q (.ref l) (upd H l (.lst ys))) (f1 listA) := prN1 fun H a x fa c Q r e q => by
  unfold listA at e
  split at e
  · cases e
    obtain ⟨p, ys, rfl, s, rs⟩ := tup_of r
    exact ⟨p, ys, rfl, .inr s, fun l hl => q _ _ [l] (Fresh.one hl) (rep_ls rs hl)⟩
  · cases e
    obtain ⟨p, ys, rfl, s, rs, _⟩ := ls_of r
    exact ⟨p, ys, rfl, .inl (.of s), fun l hl => q _ _ [l] (Fresh.one hl) (rep_ls rs hl)⟩
  · cases e
theorem pr_tuple : PrN X.K (fun xs H Q => ∃ p ys, xs = [.ref p] ∧ ((SqL X.K H p ys ∧ ∀ l, H l = none → Q (.ref l) (upd H l (.tup ys))) ∨ (SqT X.K H p ys ∧ Q (.ref p) H))) (f1 tupleA) := prN1 fun H a x fa c Q r e q => by
  unfold tupleA at e
  split at e
  · cases e
    obtain ⟨p, ys, rfl, s, rs⟩ := tup_of r
    exact ⟨p, ys, rfl, .inr ⟨s, q _ H [] Fresh.refl (rep_tupAt rs s)⟩⟩
  · cases e
    obtain ⟨p, ys, rfl, s, rs, _⟩ := ls_of r
    exact ⟨p, ys, rfl, .inl ⟨.of s, fun l hl => q _ _ [] (Fresh.new0 hl) (rep_tup rs hl)⟩⟩
  · cases e
theorem pr_sum : PrN X.K (rSum X.K) (f1 sumA) := prN1 fun H a x fa c Q r e q => by
  unfold sumA at e
  split at e
  · rename_i xs
    cases h : intsD xs with
    | none => rw [h] at e; cases e
    | some ns =>
      rw [h] at e; cases e
      obtain ⟨p, ys, rfl, s, rs, _⟩ := ls_of r
      rw [ints_rep rs h] at s
      exact ⟨p, ns, rfl, .of s, q _ H [] Fresh.refl rep_int⟩
  · cases e
theorem pr_all : PrN X.K (rAll X.K) (f1 allA) := prN1 fun H a x fa c Q r e q => by
  unfold allA at e
  split at e
  · rename_i xs
    cases h : blsD xs with
    | none => rw [h] at e; cases e
    | some ns =>
      rw [h] at e; cases e
      obtain ⟨p, ys, rfl, s, rs, _⟩ := ls_of r
      rw [bls_rep rs h] at s
      exact ⟨p, ns, rfl, .of s, q _ H [] Fresh.refl rep_bl⟩
  · cases e
theorem pr_any : PrN X.K (rAny X.K) (f1 anyA) := prN1 fun H a x fa c Q r e q => by
  unfold anyA at e
  split at e
  · rename_i xs
    cases h : blsD xs with
    | none => rw [h] at e; cases e
    | some ns =>
      rw [h] at e; cases e
      obtain ⟨p, ys, rfl, s, rs, _⟩ := ls_of r
      rw [bls_rep rs h] at s
      exact ⟨p, ns, rfl, .of s, q _ H [] Fresh.refl rep_bl⟩
  · cases e
theorem pr_max : PrN X.K (rMax X.K) (f1 maxA) := prN1 fun H a x fa c Q r e q => by
  unfold maxA at e
  split at e
  · rename_i xs
    cases h : intsD xs with
    | none => rw [h] at e; cases e
    | some ns =>
      rw [h] at e
      cases ns with
      | nil => cases e
      | cons n ns =>
        cases e
        obtain ⟨p, ys, rfl, s, rs, _⟩ := ls_of r
        rw [ints_rep rs h] at s
        refine ⟨p, n :: ns, rfl, .of s, by simp, fun m hm hle => ?_⟩
        obtain ⟨h1, h2⟩ := maxI_ok (r := ns) (x := n) rfl
        have : m = ns.foldl max n := Int.le_antisymm (h2 m hm) (hle _ h1)
        rw [this]
        exact q _ H [] Fresh.refl rep_int
  · cases e
theorem pr_min : PrN X.K (rMin X.K) (f1 minA) := prN1 fun H a x fa c Q r e q => by
  unfold minA at e
  split at e
  · rename_i xs
    cases h : intsD xs with
    | none => rw [h] at e; cases e
    | some ns =>
      rw [h] at e
      cases ns with
      | nil => cases e
      | cons n ns =>
        cases e
        obtain ⟨p, ys, rfl, s, rs, _⟩ := ls_of r
        rw [ints_rep rs h] at s
        refine ⟨p, n :: ns, rfl, .of s, by simp, fun m hm hle => ?_⟩
        obtain ⟨h1, h2⟩ := minI_ok (r := ns) (x := n) rfl
        have : m = ns.foldl min n := Int.le_antisymm (hle _ h1) (h2 m hm)
        rw [this]
        exact q _ H [] Fresh.refl rep_int
  · cases e
end
end MM
namespace MM
open PySem PySem.Spec PyProof.Rows L2

/-! ### isinstance -/
def tyN : A → Option String
  | .d .non => some "NoneType"
  | .d (.bl _) => some "bool"
  | .d (.int _) => some "int"
  | .d (.str _) => some "str"
  | .d (.tup _) => some "tuple"
  | .d (.opq _) => none
  | .d (.scr _) => none
  | .ls _ => some "list"
  | .lst _ => some "list"
  | .tpl _ => some "tuple"
  | .dd _ => none
inductive Ty where
  | tuple | list | bool | int | str | dict
  deriving DecidableEq
def Ty.nm : Ty → String
  | .tuple => "tuple" | .list => "list" | .bool => "bool" | .int => "int" | .str => "str" | .dict => "dict"
def tyOf : A → Option (Option Ty)
  | .d .non => some none
  | .d (.bl _) => some (some .bool)
  | .d (.int _) => some (some .int)
  | .d (.str _) => some (some .str)
  | .d (.tup _) => some (some .tuple)
  | .d (.opq _) => none
  | .d (.scr _) => none
  | .ls _ => some (some .list)
  | .lst _ => some (some .list)
  | .tpl _ => some (some .tuple)
  | .dd _ => some (some .dict)
def isT (t : Option Ty) (u : Ty) : Bool := decide (t = some u) || (decide (t = some .bool) && decide (u = .int))
def tyStr : Option Ty → String
  | none => "NoneType"
  | some t => t.nm
theorem kit_all (t : Option Ty) (u : Ty) : kitB (tyStr t) u.nm = some (isT t u) := by
  rcases t with _ | t
  · cases u <;> decide +kernel
  · cases t <;> cases u <;> decide +kernel
/-- isinstance(x, T) -/
def isiA (u : Ty) (a : A) : Option Bool := (tyOf a).map fun t => isT t u
theorem tyX_of {K : PySem.W.Frag} {H : Hp} {a : A} {x : V} {f : List Addr} {t : Option Ty} (r : Rep K H a x f) (e : tyOf a = some t) : TyX K H x (.type (tyStr t)) := by
  have tp : ∀ {p : Addr} {ys : List V}, SqT K H p ys → TyX K H (.ref p) (.type "tuple") := fun {p ys} s => by
    rcases s with (h | ⟨ob, h⟩) | ⟨o, its, n, h, c, _⟩
    · exact .base (.tup h)
    · exact .fTuple h
    · exact .kTuple h c
  cases a with
  | d z =>
    have r := repD_d r
    cases z with
    | non => unfold RepD at r; subst r; cases e; exact .base .non
    | bl b => unfold RepD at r; subst r; cases e; exact .base (.bl b)
    | int b => unfold RepD at r; subst r; cases e; exact .base (.int b)
    | str b => unfold RepD at r; subst r; cases e; exact .base (.str b)
    | tup b => unfold RepD at r; obtain ⟨a, ys, rfl, s, _⟩ := r; cases e; exact tp s
    | opq b => cases e
    | scr b => cases e
  | ls xs => obtain ⟨a, ys, rfl, s, _⟩ := ls_of r; cases e; exact .base (.lst s)
  | lst xs => obtain ⟨a, ys, g, rfl, s, _⟩ := lst_of r; cases e; exact .base (.lst s)
  | tpl xs => obtain ⟨a, ys, rfl, s, _⟩ := tpl_of r; cases e; exact tp s
  | dd xs =>
    unfold Rep at r
    obtain ⟨a, rfl, ⟨ks, vs, _, _, l, h, _⟩, _⟩ := r
    cases e
    exact .base (.dK h)
def fIsi (u : Ty) : List A → Option A
  | [a, .d (.opq (.ty n))] => if n = u.nm then (isiA u a).map fun b => .d (.bl b) else none
  | _ => none
theorem pr_isi {K : PySem.W.Frag} (u : Ty) : PrN K (rIsi K) (fIsi u) := by
  intro H as xs fa c Q rs e q
  unfold fIsi at e
  split at e
  · rename_i a n
    obtain ⟨x, y, fx, fy, rfl, rx, ry⟩ := reps2 rs
    have := opq_of ry
    subst this
    split at e
    · rename_i hn
      subst hn
      unfold isiA at e
      cases h : tyOf a with
      | none => rw [h] at e; cases e
      | some t =>
        rw [h] at e
        cases e
        exact ⟨x, .ty u.nm, .type (tyStr t), .type u.nm, isT t u, rfl, .ty _, tyX_of rx h, kit_ty (kit_all t u), q _ H [] Fresh.refl rep_bl⟩
    · cases e
  · cases e
/-- a built-in class as a value -/
theorem pm_ty {X : Cx} {x : Str} {n : String} {pos : Pos} (hg : Gl X x) (hm : X.mg x = none) (hv : bootBuiltins x = some (.type n)) (hn : x ≠ "__name__" := by decide) (hd : (x == ("__debug__" : Str)) = false := by decide) : PM X (.Name x pos) (mC (.opq (.ty n))) :=
  pm_c (pe_bltn (v := .ty n) hg hm hv rfl hn hd) fun K H => by unfold RepD; rfl

/-! ### what stands in a slot is changed -/
section
variable {K : PySem.W.Frag} {H H' : Hp} {o o' : List Addr} {T : Tmp} {sa sa' : List Slot} {σ : L2.St}
theorem SRel.wr {j : Nat} {a : A} {v : V} {fx : List Addr} (S : SRel K o T sa σ H) (e : sa[j]? = some (some (true, a))) (e' : σ[j]? = some (some v)) (nd : (fx ++ o).Nodup) (mx : ∀ b ∈ fx, ∃ u, H b = some u ∧ isMut u = true)
    (sl : ∀ (i : Nat) fl a, sa[i]? = some (some (fl, a)) → ∃ v, σ[i]? = some (some v) ∧ (fl = false → RepS K H (fx ++ o) a v)) :
    ∃ fi, Rep K H a v fi ∧ (∀ b ∈ fi, b ∈ o) ∧ fi.Nodup ∧ (∀ b ∈ fx, b ∉ fi) ∧ ∀ {a' : A} {fi' : List Addr} {H' : Hp}, (∀ b u, H b = some u → b ∉ fi → H' b = some u) → Rep K H' a' v fi' → fi'.Nodup → (∀ b ∈ fi', b ∈ fi ∨ b ∈ fx ∨ H b = none) →
      ∃ o', SRel K o' T (sa.set j (some (true, a'))) σ H' ∧ Le (fx ++ o) H o' H' := by
  have hj : j < sa.length := (List.getElem?_eq_some_iff.mp e).1
  have hs : j < σ.length := (List.getElem?_eq_some_iff.mp e').1
  have h1 : (T.map (·.1) ++ sa.map ownA)[T.length + j]? = some a := by
    rw [List.getElem?_append_right (by simp)]
    simp [e, ownA]
  have h2 : (T.map (·.2) ++ ownVs sa σ)[T.length + j]? = some v := by
    rw [List.getElem?_append_right (by simp)]
    simpa [ownV] using ownVs_get e e'
  obtain ⟨f1, fi, f2, rfl, r, r1, r2⟩ := S.own.at h1 h2
  have ndo := S.nd
  have n1 : ∀ b ∈ f1, b ∉ fi := fun b hb z => by
    rw [List.append_assoc] at ndo
    exact (List.nodup_append.mp ndo).2.2 b hb b (List.mem_append_left _ z) rfl
  have n2 : ∀ b ∈ f2, b ∉ fi := fun b hb z => (List.nodup_append.mp ndo).2.2 b (List.mem_append_right _ z) b hb rfl
  have nx : ∀ b ∈ fx, b ∉ f1 ++ fi ++ f2 := fun b hb z => (List.nodup_append.mp nd).2.2 b hb b z rfl
  refine ⟨fi, r, fun b hb => by simp [hb], ?_, fun b hb z => nx b hb (by simp [z]), fun {a' fi' H'} same r' nd' sub => ?_⟩
  · rw [List.append_assoc] at ndo
    exact (List.nodup_append.mp (List.nodup_append.mp ndo).2.1).1
  have imm : ∀ b u, H b = some u → isMut u = false → H' b = some u := fun b u e m => same b u e fun z => by
    obtain ⟨u', e2, m2⟩ := r.mem b z
    rw [e] at e2
    cases e2
    rw [m] at m2
    cases m2
  have own' : Reps K H' (T.map (·.1) ++ (sa.set j (some (true, a'))).map ownA) (T.map (·.2) ++ ownVs (sa.set j (some (true, a'))) σ) (f1 ++ fi' ++ f2) := by
    have ex : T.map (·.1) ++ (sa.set j (some (true, a'))).map ownA = (T.map (·.1) ++ sa.map ownA).set (T.length + j) a' := by
      rw [List.set_append_right _ _ (by simp)]
      simp [List.map_set, ownA]
    have ey : T.map (·.2) ++ ownVs (sa.set j (some (true, a'))) σ = (T.map (·.2) ++ ownVs sa σ).set (T.length + j) v := by
      rw [List.set_append_right _ _ (by simp), ownVs_set1 hj e']
      simp [ownV]
    rw [ex, ey, set_parts (List.getElem?_eq_some_iff.mp h1).1, set_parts (List.getElem?_eq_some_iff.mp h2).1, List.append_assoc]
    exact Reps.append (r1.mono imm fun b hb u e => same b u e (n1 b hb)) (Reps.cons r' (r2.mono imm fun b hb u e => same b u e (n2 b hb)))
  have nof : ∀ b, b ∈ f1 ∨ b ∈ f2 → b ∉ fi' := fun b hb z => by
    have ho : b ∈ f1 ++ fi ++ f2 := by rcases hb with h | h <;> simp [h]
    rcases sub b z with h | h | h
    · rcases hb with hb | hb
      · exact n1 b hb h
      · exact n2 b hb h
    · exact nx b h ho
    · obtain ⟨u, e, _⟩ := S.mut b ho
      rw [h] at e
      cases e
  have nd2 : (f1 ++ fi' ++ f2).Nodup := by
    rw [List.append_assoc] at ndo ⊢
    have q1 := List.nodup_append.mp ndo
    have q2 := List.nodup_append.mp q1.2.1
    refine List.nodup_append.mpr ⟨q1.1, List.nodup_append.mpr ⟨nd', q2.2.1, fun a ha b hb e => ?_⟩, fun a ha b hb e => ?_⟩
    · subst e
      exact nof a (.inr hb) ha
    · subst e
      rcases List.mem_append.mp hb with hb | hb
      · exact nof a (.inl ha) hb
      · exact q1.2.2 a ha a (List.mem_append_right _ hb) rfl
  have mem' : ∀ b u, H b = some u → b ∉ fx ++ (f1 ++ fi ++ f2) → b ∉ f1 ++ fi' ++ f2 := fun b u e n z => by
    simp only [List.mem_append] at z n
    rcases z with (z | z) | z
    · exact n (.inr (.inl (.inl z)))
    · rcases sub b z with h | h | h
      · exact n (.inr (.inl (.inr h)))
      · exact n (.inl h)
      · rw [h] at e; cases e
    · exact n (.inr (.inr z))
  refine ⟨f1 ++ fi' ++ f2, ⟨by simp [S.len], fun i fl a'' q => ?_, own', nd2⟩, fun b u e n => ⟨same b u e fun z => n (by simp [z]), mem' b u e n⟩⟩
  by_cases hi : i = j
  · subst hi
    rw [List.getElem?_set_self hj] at q
    cases q
    exact ⟨v, e', fun z => nomatch z⟩
  · rw [List.getElem?_set_ne (Ne.symm hi)] at q
    obtain ⟨w, e1, z⟩ := sl i fl a'' q
    refine ⟨w, e1, fun y => ?_⟩
    obtain ⟨fp, rp, n⟩ := z y
    refine ⟨fp, rp.mono imm fun b hb u e => same b u e fun z => n b hb (by simp [z]), fun b hb => ?_⟩
    obtain ⟨u, e, _⟩ := rp.mem b hb
    exact mem' b u e (n b hb)
end
def isL : Option Slot → Bool
  | some (some (_, .ls _)) => true
  | some (some (_, .lst _)) => true
  | _ => false
theorem isL_ok {K : PySem.W.Frag} {H : Hp} {o : List Addr} {T : Tmp} {sa : List Slot} {σ : L2.St} (S : SRel K o T sa σ H) {j : Nat} (h : isL sa[j]? = true) : ∃ p ys, σ[j]? = some (some (.ref p)) ∧ H p = some (.lst ys) := by
  unfold isL at h
  split at h
  · rename_i fl xs e
    obtain ⟨v, e1, _⟩ := S.sl j fl _ e
    obtain ⟨fp, r, _⟩ := SRel.slot S e e1
    obtain ⟨p, ys, rfl, s, _⟩ := ls_of r
    exact ⟨p, ys, e1, s⟩
  · rename_i fl xs e
    obtain ⟨v, e1, _⟩ := S.sl j fl _ e
    obtain ⟨fp, r, _⟩ := SRel.slot S e e1
    obtain ⟨p, ys, g, rfl, s, _⟩ := lst_of r
    exact ⟨p, ys, e1, s⟩
  · cases h
def appA : A → A → Option A
  | .ls xs, .d x => if szB (xs.length + 1) then some (.ls (xs ++ [x])) else none
  | .ls xs, a => if szB (xs.length + 1) then some (.lst (xs.map .d ++ [a])) else none
  | .lst xs, a => if szB (xs.length + 1) then some (.lst (xs ++ [a])) else none
  | _, _ => none
/-- a list grows by one -/
theorem appA_ok {K : PySem.W.Frag} {H : Hp} {l a l' : A} {v y : V} {fi fa : List Addr} (r : Rep K H l v fi) (ra : Rep K H a y fa) (e : appA l a = some l') (nd : fi.Nodup) (nda : fa.Nodup) (dj : ∀ b ∈ fa, b ∉ fi) :
    ∃ p ys, v = .ref p ∧ H p = some (.lst ys) ∧ ys.length < sizeLine ∧ p ∈ fi ∧ Rep K (upd H p (.lst (ys ++ [y]))) l' v (fi ++ fa) ∧ (fi ++ fa).Nodup := by
  have ndf : (fi ++ fa).Nodup := List.nodup_append.mpr ⟨nd, nda, fun b hb c hc e => by subst e; exact dj b hc hb⟩
  have same : ∀ {p : Addr} {ys : List V} {b : Addr} {u : HO}, H p = some (.lst ys) → H b = some u → b ≠ p → (upd H p (.lst (ys ++ [y]))) b = some u := fun {p ys b u} hp e n => by rw [upd_ne n]; exact e
  have imm : ∀ {p : Addr} {ys : List V}, H p = some (.lst ys) → ∀ b u, H b = some u → isMut u = false → (upd H p (.lst (ys ++ [y]))) b = some u := fun {p ys} hp b u e m => by
    refine same hp e fun z => ?_
    subst z
    rw [hp] at e
    cases e
    cases m
  have lt : ∀ n, szB (n + 1) = true → n < sizeLine := fun n h => by have := szB_ok h; omega
  cases l with
  | ls xs =>
    obtain ⟨p, ys, rfl, s, rs, rfl⟩ := ls_of r
    cases a with
    | d x =>
      have h : (if szB (xs.length + 1) then some (A.ls (xs ++ [x])) else none) = some l' := e
      split at h
      · rename_i hz
        cases h
        have ra' := ra
        unfold Rep at ra'
        obtain ⟨rx, rfl⟩ := ra'
        refine ⟨p, ys, rfl, s, by rw [← rs.len]; exact lt _ hz, by simp, ?_, ndf⟩
        unfold Rep
        refine ⟨p, ys ++ [y], rfl, upd_same, RepDs.append (rs.mono (imm s)) ?_, rfl⟩
        unfold RepDs
        exact ⟨y, [], rfl, rx.mono (imm s), by unfold RepDs; rfl⟩
      · cases h
    | _ =>
      have h : (if szB (xs.length + 1) then some (A.lst (xs.map .d ++ [_])) else none) = some l' := e
      split at h
      · rename_i hz
        cases h
        refine ⟨p, ys, rfl, s, by rw [← rs.len]; exact lt _ hz, by simp, ?_, ndf⟩
        unfold Rep
        refine ⟨p, ys ++ [y], fa, rfl, upd_same, ?_, rfl⟩
        have := Reps.append (Reps.ofData (rs.mono (imm s))) (Reps.one (ra.mono (imm s) fun b hb u e => same s e fun z => by
          subst z
          exact dj b hb (by simp)))
        simpa using this
      · cases h
  | lst xs =>
    obtain ⟨p, ys, g, rfl, s, rs, rfl⟩ := lst_of r
    have h : (if szB (xs.length + 1) then some (A.lst (xs ++ [a])) else none) = some l' := e
    split at h
    · rename_i hz
      cases h
      refine ⟨p, ys, rfl, s, by rw [← rs.len]; exact lt _ hz, by simp, ?_, ndf⟩
      unfold Rep
      refine ⟨p, ys ++ [y], g ++ fa, rfl, upd_same, ?_, rfl⟩
      refine Reps.append (rs.mono (imm s) fun b hb u e => same s e fun z => ?_) (Reps.one (ra.mono (imm s) fun b hb u e => same s e fun z => ?_))
      · subst z
        exact (List.nodup_cons.mp nd).1 hb
      · subst z
        exact dj b hb (by simp)
    · cases h
  | d x => cases e
  | tpl x => cases e
  | dd x => cases e
def mAppend (j : Nat) (m : SM R) : SM R := fun sa => if isL sa[j]? then bnd m (fun r sa => match od r sa, sa[j]? with
  | some a, some (some (true, l)) => (appA l a).map fun l' => (.val false (.d .non), sa.set j (some (true, l')))
  | _, _ => none) sa else none
def extA : A → A → Option A
  | .ls xs, .ls ys => if szB (xs.length + ys.length) then some (.ls (xs ++ ys)) else none
  | _, _ => none
def mExtend (j : Nat) (m : SM R) : SM R := fun sa => if isL sa[j]? then bnd m (fun r sa => match rv r sa, sa[j]? with
  | some a, some (some (true, l)) => (extA l a).map fun l' => (.val false (.d .non), sa.set j (some (true, l')))
  | _, _ => none) sa else none
/-- xs.pop(), xs.pop(i) of a list of data -/
def mPop (j : Nat) : SM R := fun sa => match sa[j]? with
  | some (some (true, .ls xs)) => match xs[xs.length - 1]? with
    | some x => some (.val false (.d x), sa.set j (some (true, .ls xs.dropLast)))
    | none => none
  | _ => none
def mPopAt (j : Nat) (m : SM R) : SM R := fun sa => if isL sa[j]? then bnd m (fun r sa => match rv r sa, sa[j]? with
  | some (.d (.int i)), some (some (true, .ls xs)) => match ixN xs.length i with
    | some k => match (if szB xs.length then xs[k]? else none) with
      | some x => some (.val false (.d x), sa.set j (some (true, .ls (xs.eraseIdx k))))
      | none => none
    | none => none
  | _, _ => none) sa else none
theorem RepDs.dropLast {K : PySem.W.Frag} {H : Hp} {xs : List D} {ys : List V} (h : RepDs K H xs ys) : RepDs K H xs.dropLast ys.dropLast := by
  rw [List.dropLast_eq_take, List.dropLast_eq_take, h.len]
  exact h.take _
theorem RepDs.erase {K : PySem.W.Frag} {H : Hp} {xs : List D} {ys : List V} (k : Nat) (h : RepDs K H xs ys) : RepDs K H (xs.eraseIdx k) (ys.eraseIdx k) := by
  rw [List.eraseIdx_eq_take_drop_succ, List.eraseIdx_eq_take_drop_succ]
  exact (h.take _).append (h.drop _)
theorem repD_non {K : PySem.W.Frag} {H : Hp} : RepD K H .non .non := by unfold RepD; rfl
section
variable {X : Cx} {x : Str} {pos apos cpos : Pos} {e : Expr} {j : Nat} {m : SM R}
theorem pm_append (hx : PE X (.Name x pos) (tVar j)) (ha : PM X e m)
    (hbase : attributeBase (.Name x pos) "append" X.env (eval (.Name x pos) X.env) = eval (.Name x pos) X.env := by rfl)
    (hfew : ((backTo cpos (starEach [e] X.env)).all (fun x => !x.1) && (backToKw cpos (keywordEach [] X.env)).all (fun x => x.1.isSome)
      && decide ([e].length + ([] : List Keyword).length + (if ([] : List Keyword).isEmpty then 0 else 1) < 30)) = true := by rfl)
    (hline : (apos.endLine == cpos.line) = true := by rfl) (hs : starEach [e] X.env = (false, eval e X.env) :: starEach [] X.env := by rfl) :
    PM X (.Call (.Attribute (.Name x pos) "append" apos) [e] [] cpos) (mAppend j m) := PE.weak (pe_bm PySem.F.plainAttrs_list PySem.F.slot_list_append PySem.F.type_list_append mt_append hx (pma_cons ha pma_nil hs) hbase hfew hline hs) fun σ H Q h => by
  obtain ⟨o, T, sa, r, sa', e, S, q⟩ := h
  unfold mAppend at e
  split at e
  · rename_i hl
    obtain ⟨p, ys, ep, hp⟩ := isL_ok S hl
    obtain ⟨r1, s1, e1, e2⟩ := bnd_some e
    refine ⟨_, ep, .inl ⟨rfl, ys, .of hp⟩, o, T, sa, [r1], s1, ?_, S, fun o1 vs H1 L1 S1 R1 => ?_⟩
    · unfold mCons bnd
      rw [e1]
      rfl
    · cases R1 with
      | @cons _ v _ _ h1 h2 =>
        cases h2
        split at e2
        · rename_i a l ea el
          cases el' : appA l a with
          | none => rw [el'] at e2; cases e2
          | some l' =>
            rw [el'] at e2
            cases e2
            have S1 : SRel X.K o1 (pushT r1 v T) s1 σ H1 := S1
            obtain ⟨fa, o2, ra, S2, rfl⟩ := od_one S1 h1 ea
            obtain ⟨fi, rl, so, ndi, dj, put⟩ := SRel.wr S2 el ep S1.nd ra.mem S1.sl
            obtain ⟨p', ys', ev, hp', hz, mp, rl', nd'⟩ := appA_ok rl ra el' ndi (List.nodup_append.mp S1.nd).1 dj
            cases ev
            obtain ⟨o3, S3, L3⟩ := put (fun b u e n => by rw [upd_ne (fun z => n (by rw [z]; exact mp))]; exact e) rl' nd' fun b hb => (List.mem_append.mp hb).elim .inl fun z => .inr (.inl z)
            exact ⟨p, ys', v, rfl, rfl, hp', hz, q o3 _ _ (L1.trans L3) S3 (RepS.d repD_non)⟩
        · cases e2
  · cases e
theorem pm_extend (hx : PE X (.Name x pos) (tVar j)) (ha : PM X e m)
    (hbase : attributeBase (.Name x pos) "extend" X.env (eval (.Name x pos) X.env) = eval (.Name x pos) X.env := by rfl)
    (hfew : ((backTo cpos (starEach [e] X.env)).all (fun x => !x.1) && (backToKw cpos (keywordEach [] X.env)).all (fun x => x.1.isSome)
      && decide ([e].length + ([] : List Keyword).length + (if ([] : List Keyword).isEmpty then 0 else 1) < 30)) = true := by rfl)
    (hline : (apos.endLine == cpos.line) = true := by rfl) (hs : starEach [e] X.env = (false, eval e X.env) :: starEach [] X.env := by rfl) :
    PM X (.Call (.Attribute (.Name x pos) "extend" apos) [e] [] cpos) (mExtend j m) := PE.weak (pe_bm PySem.F.plainAttrs_list PySem.F.slot_list_extend PySem.F.type_list_extend mt_extend hx (pma_cons ha pma_nil hs) hbase hfew hline hs) fun σ H Q h => by
  obtain ⟨o, T, sa, r, sa', e, S, q⟩ := h
  unfold mExtend at e
  split at e
  · rename_i hl
    obtain ⟨p, ys, ep, hp⟩ := isL_ok S hl
    obtain ⟨r1, s1, e1, e2⟩ := bnd_some e
    refine ⟨_, ep, .inl ⟨rfl, ys, .of hp⟩, o, T, sa, [r1], s1, ?_, S, fun o1 vs H1 L1 S1 R1 => ?_⟩
    · unfold mCons bnd
      rw [e1]
      rfl
    · cases R1 with
      | @cons _ v _ _ h1 h2 =>
        cases h2
        split at e2
        · rename_i a l ea el
          cases el' : extA l a with
          | none => rw [el'] at e2; cases e2
          | some l' =>
            rw [el'] at e2
            cases e2
            have S1 : SRel X.K o1 (pushT r1 v T) s1 σ H1 := S1
            obtain ⟨fp, ra⟩ := rv_rep S1 h1 ea
            obtain ⟨o2, S2, L2⟩ := SRel.pop S1
            obtain ⟨fi, rl, so, ndi, _, put⟩ := SRel.wr (fx := []) S2 el ep S2.nd (fun _ h => nomatch h) S2.sl
            unfold extA at el'
            split at el'
            · rename_i xs zs
              split at el'
              · rename_i hz
                cases el'
                obtain ⟨p1, ys1, ev, s1', rs1, rfl⟩ := ls_of rl
                cases ev
                obtain ⟨p2, ys2, rfl, s2', rs2, _⟩ := ls_of ra
                have imm : ∀ b u, H1 b = some u → isMut u = false → (upd H1 p (.lst (ys1 ++ ys2))) b = some u := fun b u e m => by
                  rw [upd_ne fun z => by
                    subst z
                    rw [s1'] at e
                    cases e
                    cases m]
                  exact e
                obtain ⟨o3, S3, L3⟩ := put (a' := .ls (xs ++ zs)) (fi' := [p]) (H' := upd H1 p (.lst (ys1 ++ ys2))) (fun b u e n => by rw [upd_ne (fun z => n (by rw [z]; simp))]; exact e) (by
                  unfold Rep
                  exact ⟨p, _, rfl, upd_same, (rs1.mono imm).append (rs2.mono imm), rfl⟩) (by simp) fun b hb => .inl hb
                exact ⟨p, p2, ys1, ys2, rfl, rfl, s1', s2', by rw [← rs1.len, ← rs2.len]; exact szB_ok hz, q o3 _ _ ((L1.trans L2).trans L3) S3 (RepS.d repD_non)⟩
              · cases el'
            · cases el'
        · cases e2
  · cases e
theorem pm_pop (hx : PE X (.Name x pos) (tVar j)) (hbase : attributeBase (.Name x pos) "pop" X.env (eval (.Name x pos) X.env) = eval (.Name x pos) X.env := by rfl) (hline : (apos.endLine == cpos.line) = true := by rfl) :
    PM X (.Call (.Attribute (.Name x pos) "pop" apos) [] [] cpos) (mPop j) := PE.weak (pe_bm0 PySem.F.plainAttrs_list PySem.F.slot_list_pop PySem.F.type_list_pop mt_pop hx hbase hline) fun σ H Q h => by
  obtain ⟨o, T, sa, r, sa', e, S, q⟩ := h
  unfold mPop at e
  split at e
  · rename_i xs el
    split at e
    · rename_i x ex
      cases e
      obtain ⟨v, ep, _⟩ := S.sl j _ _ el
      obtain ⟨fi, rl, so, ndi, _, put⟩ := SRel.wr (fx := []) S el ep S.nd (fun _ h => nomatch h) S.sl
      obtain ⟨p, ys, rfl, s, rs, rfl⟩ := ls_of rl
      obtain ⟨y, ey, ry⟩ := rs.get ex
      rw [rs.len] at ey
      have imm : ∀ b u, H b = some u → isMut u = false → (upd H p (.lst ys.dropLast)) b = some u := fun b u e m => by
        rw [upd_ne fun z => by
          subst z
          rw [s] at e
          cases e
          cases m]
        exact e
      obtain ⟨o3, S3, L3⟩ := put (a' := .ls xs.dropLast) (fi' := [p]) (H' := upd H p (.lst ys.dropLast)) (fun b u e n => by rw [upd_ne (fun z => n (by rw [z]; simp))]; exact e) (by
        unfold Rep
        exact ⟨p, _, rfl, upd_same, (rs.mono imm).dropLast, rfl⟩) (by simp) fun b hb => .inl hb
      exact ⟨_, ep, .inl ⟨rfl, ys, .of s⟩, p, ys, y, rfl, rfl, s, ey, q o3 y _ L3 S3 (RepS.d (ry.mono imm))⟩
    · cases e
  · cases e
theorem pm_popAt (hx : PE X (.Name x pos) (tVar j)) (ha : PM X e m)
    (hbase : attributeBase (.Name x pos) "pop" X.env (eval (.Name x pos) X.env) = eval (.Name x pos) X.env := by rfl)
    (hfew : ((backTo cpos (starEach [e] X.env)).all (fun x => !x.1) && (backToKw cpos (keywordEach [] X.env)).all (fun x => x.1.isSome)
      && decide ([e].length + ([] : List Keyword).length + (if ([] : List Keyword).isEmpty then 0 else 1) < 30)) = true := by rfl)
    (hline : (apos.endLine == cpos.line) = true := by rfl) (hs : starEach [e] X.env = (false, eval e X.env) :: starEach [] X.env := by rfl) :
    PM X (.Call (.Attribute (.Name x pos) "pop" apos) [e] [] cpos) (mPopAt j m) := PE.weak (pe_bm PySem.F.plainAttrs_list PySem.F.slot_list_pop PySem.F.type_list_pop mt_popAt hx (pma_cons ha pma_nil hs) hbase hfew hline hs) fun σ H Q h => by
  obtain ⟨o, T, sa, r, sa', e, S, q⟩ := h
  unfold mPopAt at e
  split at e
  · rename_i hl
    obtain ⟨p, ys, ep, hp⟩ := isL_ok S hl
    obtain ⟨r1, s1, e1, e2⟩ := bnd_some e
    refine ⟨_, ep, .inl ⟨rfl, ys, .of hp⟩, o, T, sa, [r1], s1, ?_, S, fun o1 vs H1 L1 S1 R1 => ?_⟩
    · unfold mCons bnd
      rw [e1]
      rfl
    · cases R1 with
      | @cons _ v _ _ h1 h2 =>
        cases h2
        have S1 : SRel X.K o1 (pushT r1 v T) s1 σ H1 := S1
        split at e2
        · rename_i i xs ea el
          split at e2
          · rename_i k ek
            split at e2
            · rename_i x ex
              cases e2
              have hsz : xs.length ≤ sizeLine ∧ xs[k]? = some x := by
                split at ex
                · rename_i hz
                  exact ⟨szB_ok hz, ex⟩
                · cases ex
              obtain ⟨hsz, ex⟩ := hsz
              obtain ⟨fp, ra⟩ := rv_rep S1 h1 ea
              obtain ⟨o2, S2, L2⟩ := SRel.pop S1
              obtain ⟨fi, rl, so, ndi, _, put⟩ := SRel.wr (fx := []) S2 el ep S2.nd (fun _ h => nomatch h) S2.sl
              obtain ⟨p1, ys1, ev, s1', rs1, rfl⟩ := ls_of rl
              cases ev
              obtain ⟨y, ey, ry⟩ := rs1.get ex
              rw [rs1.len] at ek
              obtain ⟨hk, hlt, hlo, hhi⟩ := ixN_seq ek
              have imm : ∀ b u, H1 b = some u → isMut u = false → (upd H1 p (.lst (ys1.eraseIdx k))) b = some u := fun b u e m => by
                rw [upd_ne fun z => by
                  subst z
                  rw [s1'] at e
                  cases e
                  cases m]
                exact e
              obtain ⟨o3, S3, L3⟩ := put (a' := .ls (xs.eraseIdx k)) (fi' := [p]) (H' := upd H1 p (.lst (ys1.eraseIdx k))) (fun b u e n => by rw [upd_ne (fun z => n (by rw [z]; simp))]; exact e) (by
                unfold Rep
                exact ⟨p, _, rfl, upd_same, (rs1.mono imm).erase k, rfl⟩) (by simp) fun b hb => .inl hb
              have hn := line63
              have hle := rs1.len
              refine ⟨p, ys1, i, k, y, rfl, by rw [int_of ra], s1', ?_, ?_, hk, ey, q o3 y _ ((L1.trans L2).trans L3) S3 (RepS.d (ry.mono imm))⟩
              · omega
              · omega
            · cases e2
          · cases e2
        · cases e2
  · cases e
end
end MM
namespace MM
open PySem PySem.Spec PyProof.Rows L2

/-! ### what a def promises: F gives its value from its arguments' values -/
def spF (K : PySem.W.Frag) (n : Nat) (F : List A → Option A) : Sp := fun vs H Q _ => ∃ as fp c, as.length = n ∧ Reps K H as vs fp ∧ F as = some c ∧ ∀ v H' o', Fresh H H' o' → Rep K H' c v o' → Q v H'
/-- a def that changes its first argument (an owned list), the others data -/
def spB (K : PySem.W.Frag) (n : Nat) (G : A → List D → Option (D × A)) : Sp := fun vs H Q _ => ∃ b v0 xs vr fb c b', vs = v0 :: vr ∧ xs.length + 1 = n ∧ Rep K H b v0 fb ∧ fb.Nodup ∧ RepDs K H xs vr ∧ G b xs = some (c, b') ∧
  ∀ v H' ob, Le fb H ob H' → ob.Nodup → RepD K H' c v → Rep K H' b' v0 ob → Q v H'
def fN (n : Nat) (F : List A → Option A) : List A → Option A := fun as => if as.length = n then F as else none
section
variable {X : Cx} {CX : CXT} {k n : Nat} {f : Addr} {fd : FuncData} {ps : List Str} {F : List A → Option A} {G : A → List D → Option (D × A)} {x : Str} {p pos : Pos} {e : Expr} {es : List Expr} {ms : SM (List R)}
theorem pm_call (F' : FnOk X.prog X.w X.K X.mg X.base CX0 k f fd ps (spF X.K n F)) (hr : Room k X.A) (hg : Gl X x) (hm : X.mg x = some (.ref f)) (hk : PySem.W.keepIn X.K (.ref f) = true) (hb : Binds X.K fd ps [])
    (ha : PMA X (e :: es) ms) (hdb : (x == ("__debug__" : Str)) = false := by decide) (he : starEach (e :: es) X.env = (false, eval e X.env) :: starEach es X.env := by rfl) (hpl : (backTo pos (starEach es X.env)).any (·.1) = false := by rfl) :
    PM X (.Call (.Name x p) (e :: es) [] pos) (mN (fN n F) ms) := PE.weak (pe_call (E := E0) F' hr hg hm hk hb .nil pass0 ha hdb he hpl) fun σ H Q h => by
  have pr : PrN X.K (fun xs H Q => spF X.K n F (xs ++ []) H Q E0) (fN n F) := fun H as xs fa c Q rs e q => by
    unfold fN at e
    split at e
    · rename_i hl
      rw [List.append_nil]
      exact ⟨as, fa, c, hl, rs, e, q⟩
    · cases e
  exact stepN pr h
theorem pm_call0 (F' : FnOk X.prog X.w X.K X.mg X.base CX0 k f fd ps (spF X.K n F)) (hr : Room k X.A) (hg : Gl X x) (hm : X.mg x = some (.ref f)) (hk : PySem.W.keepIn X.K (.ref f) = true) (hb : Binds X.K fd ps [])
    (hdb : (x == ("__debug__" : Str)) = false := by decide) : PM X (.Call (.Name x p) [] [] pos) (mN (fN n F) mNil) := PE.weak (pe_call0 (E := E0) F' hr hg hm hk hb .nil pass0 hdb) fun σ H Q h => by
  have pr : PrN X.K (fun xs H Q => spF X.K n F (xs ++ []) H Q E0) (fN n F) := fun H as xs fa c Q rs e q => by
    unfold fN at e
    split at e
    · rename_i hl
      rw [List.append_nil]
      exact ⟨as, fa, c, hl, rs, e, q⟩
    · cases e
  obtain ⟨o, T, sa, r', sa', e, S, q⟩ := stepN pr h
  cases e
  exact q o [] H Le.refl S .nil
/-- the arguments as data -/
def rds : List R → List Slot → Option (List D)
  | [], _ => some []
  | r :: rs, sa => match rv r sa, rds rs sa with
    | some (.d x), some xs => some (x :: xs)
    | _, _ => none
theorem rds_rep {K : PySem.W.Frag} {sa : List Slot} {σ : L2.St} {H : Hp} : ∀ {rs : List R} {vs : List V} {T : Tmp} {o : List Addr} {as : List D}, SRel K o (pushTs rs vs T) sa σ H → RRs K H o σ rs vs → rds rs sa = some as → RepDs K H as vs
  | [], vs, T, o, as, S, h, e => by
    cases h
    cases e
    unfold RepDs
    rfl
  | r :: rs, vs, T, o, as, S, h, e => by
    cases h with
    | @cons r v rs vs h1 h2 =>
      unfold rds at e
      split at e
      · rename_i a as' ea eas
        cases e
        have S' : SRel K o (pushTs rs vs (pushT r v T)) sa σ H := S
        have r2 := rds_rep S' h2 eas
        obtain ⟨o1, S1, L1⟩ := pushTs_pop S'
        obtain ⟨f1, r1⟩ := rv_rep S1 (h1.mono S L1) ea
        unfold RepDs
        exact ⟨v, vs, rfl, repD_d r1, r2⟩
      · cases e
def mCallB (n : Nat) (G : A → List D → Option (D × A)) (j : Nat) (ms : SM (List R)) : SM R := fun sa => match sa[j]? with
  | some (some (true, _)) => bnd ms (fun rs sa => match rds rs sa, sa[j]? with
    | some xs, some (some (true, b)) => if xs.length + 1 = n then (match G b xs with
      | some (c, b') => some (.val false (.d c), sa.set j (some (true, b')))
      | none => none) else none
    | _, _ => none) sa
  | _ => none
theorem pm_callBr {y : Str} {j : Nat} {py : Pos} (F' : FnOk X.prog X.w X.K X.mg X.base CX0 k f fd ps (spB X.K n G)) (hr : Room k X.A) (hg : Gl X x) (hm : X.mg x = some (.ref f)) (hk : PySem.W.keepIn X.K (.ref f) = true) (hb : Binds X.K fd ps [])
    (hy : PE X (.Name y py) (tVar j)) (ha : PMA X es ms) (hdb : (x == ("__debug__" : Str)) = false := by decide) (he : starEach (.Name y py :: es) X.env = (false, eval (.Name y py) X.env) :: starEach es X.env := by rfl) (hpl : (backTo pos (starEach es X.env)).any (·.1) = false := by rfl) :
    PM X (.Call (.Name x p) (.Name y py :: es) [] pos) (mCallB n G j ms) := PE.weak (pe_call (E := E0) F' hr hg hm hk hb .nil pass0 (pa_cons hy ha he) hdb he hpl) fun σ H Q h => by
  obtain ⟨o, T, sa, r, sa', e, S, q⟩ := h
  unfold mCallB at e
  split at e
  · rename_i b0 eb0
    obtain ⟨v0, ev0, _⟩ := S.sl j _ _ eb0
    obtain ⟨rs, s1, e1, e2⟩ := bnd_some e
    refine ⟨v0, ev0, o, T, sa, rs, s1, e1, S, fun o1 vs H1 L1 S1 R1 => ?_⟩
    split at e2
    · rename_i xs b ex eb
      split at e2
      · rename_i hn
        split at e2
        · rename_i c b' eG
          cases e2
          have rx := rds_rep S1 R1 ex
          obtain ⟨o2, S2, L2⟩ := pushTs_pop S1
          obtain ⟨fi, rb, so, ndi, _, put⟩ := SRel.wr (fx := []) S2 eb ev0 S2.nd (fun _ h => nomatch h) S2.sl
          refine ⟨b, v0, xs, vs, fi, c, b', by rw [List.append_nil], hn, rb, ndi, rx, eG, fun v H' ob L nd rc rb' => ?_⟩
          obtain ⟨o3, S3, L3⟩ := put (a' := b') (fi' := ob) (H' := H') (fun b u e n => (L b u e n).1) rb' nd (fun b hb => by
            by_cases z : b ∈ fi
            · exact .inl z
            · cases eh : H1 b with
              | none => exact .inr (.inr rfl)
              | some u => exact ((L b u eh z).2 hb).elim)
          have L3 : Le o2 H1 o3 H' := L3
          exact q o3 v H' ((L1.trans L2).trans L3) S3 (RepS.d rc)
        · cases e2
      · cases e2
    · cases e2
  · cases e
end

/-! ### statements -/
inductive Fl where
  | nx | bk | ct | rt (own : Bool) (a : A)
/-- what the end is to be, by the flow -/
def EndOk (K : PySem.W.Frag) (D : Ends) (T : Tmp) (f : Fl) (o' : List Addr) (sa' : List Slot) (σ' : L2.St) (H' : Hp) : Prop := match f with
  | .nx => SRel K o' T sa' σ' H' → D.nx σ' H'
  | .bk => SRel K o' T sa' σ' H' → D.bk σ' H'
  | .ct => SRel K o' T sa' σ' H' → D.ct σ' H'
  | .rt fl a => ∀ v, SRel K o' (pushT (.val fl a) v T) sa' σ' H' → RR K H' o' σ' (.val fl a) v → D.rt v H'
/-- the first pn slots are as they were -/
def Keep (pn : Nat) (σ σ' : L2.St) : Prop := ∀ i, i < pn → σ'[i]? = σ[i]?
theorem Keep.refl {pn : Nat} {σ : L2.St} : Keep pn σ σ := fun _ _ => rfl
theorem Keep.trans {pn : Nat} {σ σ1 σ2 : L2.St} (a : Keep pn σ σ1) (b : Keep pn σ1 σ2) : Keep pn σ σ2 := fun i h => (b i h).trans (a i h)
theorem Keep.set {pn : Nat} {σ : L2.St} {j : Nat} {w : Option V} (h : pn ≤ j) : Keep pn σ (σ.set j w) := fun i hi => List.getElem?_set_ne (by omega)
def tOfS (pn : Nat) (K : PySem.W.Frag) (m : SM Fl) : TS := fun D σ H => ∃ o T sa f sa', m sa = some (f, sa') ∧ SRel K o T sa σ H ∧ ∀ o' σ' H', Le o H o' H' → Keep pn σ σ' → EndOk K D T f o' sa' σ' H'
abbrev PMS (pn : Nat) (X : Cx) (st : Stmt) (m : SM Fl) : Prop := PS X st (tOfS pn X.K m)
abbrev PMB (pn : Nat) (X : Cx) (st : List Stmt) (m : SM Fl) : Prop := PSs X st (tOfS pn X.K m)
def sNop : SM Fl := ret .nx
def sBk : SM Fl := ret .bk
def sCt : SM Fl := ret .ct
def sSeq (a b : SM Fl) : SM Fl := bnd a fun f => match f with
  | .nx => b
  | f => ret f
def sIf (t : SM Bool) (a b : SM Fl) : SM Fl := bnd t fun k => if k then a else b
def sExpr (m : SM R) : SM Fl := bnd m fun _ => ret .nx
def sSet (j : Nat) (m : SM R) : SM Fl := bnd m fun r => bnd (use r) fun p sa => if j < sa.length then some (.nx, sa.set j (some p)) else none
/-- what leaves the def: a slot's own thing goes with it -/
def useM : R → SM (Bool × A)
  | .val fl a => ret (fl, a)
  | .peek j => fun sa => match sa[j]? with
    | some (some p) => some (p, sa.set j none)
    | _ => none
def sRet (m : SM R) : SM Fl := bnd m fun r => bnd (useM r) fun p => ret (.rt p.1 p.2)
def sRetN : SM Fl := ret (.rt false (.d .non))
section
variable {pn : Nat} {X : Cx} {st : Stmt} {rest : List Stmt} {m n : SM Fl} {mc : SM Bool} {me : SM R} {e : Expr} {pos : Pos}
theorem pmb_nil : PMB pn X [] sNop := PSs.weak pss_nil fun D σ H h => by
  obtain ⟨o, T, sa, f, sa', e, S, q⟩ := h
  cases e
  exact q o σ H Le.refl Keep.refl S
theorem pmb_one (h : PMS pn X st m) : PMB pn X [st] m := pss_one h
theorem pmb_cons (h1 : PMS pn X st m) (h2 : PMB pn X rest n) : PMB pn X (st :: rest) (sSeq m n) := PSs.weak (pss_cons h1 h2) fun D σ H h => by
  obtain ⟨o, T, sa, f, sa', e, S, q⟩ := h
  obtain ⟨f1, s1, e1, e2⟩ := bnd_some e
  refine ⟨o, T, sa, f1, s1, e1, S, fun o1 σ1 H1 L1 k1 => ?_⟩
  cases f1 with
  | nx => exact fun S1 => ⟨o1, T, s1, f, sa', e2, S1, fun o2 σ2 H2 L2 k2 => q o2 σ2 H2 (L1.trans L2) (k1.trans k2)⟩
  | bk => cases e2; exact q o1 σ1 H1 L1 k1
  | ct => cases e2; exact q o1 σ1 H1 L1 k1
  | rt fl a => cases e2; exact q o1 σ1 H1 L1 k1
theorem pms_pass : PMS pn X (.Pass pos) sNop := PS.weak ps_pass fun D σ H h => by
  obtain ⟨o, T, sa, f, sa', e, S, q⟩ := h
  cases e
  exact q o σ H Le.refl Keep.refl S
theorem pms_doc {x : Str} {j pos'} : PMS pn X (.Expr (.Constant (.str x) j pos) pos') sNop := PS.weak ps_doc fun D σ H h => by
  obtain ⟨o, T, sa, f, sa', e, S, q⟩ := h
  cases e
  exact q o σ H Le.refl Keep.refl S
theorem pms_break : PMS pn X (.Break pos) sBk := PS.weak ps_break fun D σ H h => by
  obtain ⟨o, T, sa, f, sa', e, S, q⟩ := h
  cases e
  exact q o σ H Le.refl Keep.refl S
theorem pms_continue : PMS pn X (.Continue pos) sCt := PS.weak ps_continue fun D σ H h => by
  obtain ⟨o, T, sa, f, sa', e, S, q⟩ := h
  cases e
  exact q o σ H Le.refl Keep.refl S
theorem pms_if {c : Expr} {a b : List Stmt} (hc : PMT X c mc) (ha : PMB pn X a m) (hb : PMB pn X b n) : PMS pn X (.If c a b pos) (sIf mc m n) := PS.weak (ps_if hc ha hb) fun D σ H h => by
  obtain ⟨o, T, sa, f, sa', e, S, q⟩ := h
  obtain ⟨k, s1, e1, e2⟩ := bnd_some e
  refine ⟨o, T, sa, k, s1, e1, S, fun o1 H1 L1 S1 => ?_⟩
  cases k with
  | true => exact iteT ⟨o1, T, s1, f, sa', e2, S1, fun o2 σ2 H2 L2 k2 => q o2 σ2 H2 (L1.trans L2) k2⟩
  | false => exact iteF ⟨o1, T, s1, f, sa', e2, S1, fun o2 σ2 H2 L2 k2 => q o2 σ2 H2 (L1.trans L2) k2⟩
theorem pms_expr (he : PM X e me) (hs : swapsWith e none pos.line X.env = pure false := by rfl) : PMS pn X (.Expr e pos) (sExpr me) := PS.weak (ps_expr he hs) fun D σ H h => by
  obtain ⟨o, T, sa, f, sa', e, S, q⟩ := h
  obtain ⟨r, s1, e1, e2⟩ := bnd_some e
  cases e2
  refine ⟨o, T, sa, r, _, e1, S, fun o1 v H1 L1 S1 R1 => ?_⟩
  obtain ⟨o2, S2, L2⟩ := SRel.pop S1
  exact q o2 σ H1 (L1.trans L2) Keep.refl S2
theorem bnd_useM {K : PySem.W.Frag} {H : Hp} {o : List Addr} {T : Tmp} {sa sa' : List Slot} {σ : L2.St} {r : R} {fl : Bool} {a : A} {v : V} (S : SRel K o (pushT r v T) sa σ H) (R : RR K H o σ r v) (e : useM r sa = some ((fl, a), sa')) :
    ∃ o', SRel K o' (pushT (.val fl a) v T) sa' σ H ∧ Le o H o' H ∧ RR K H o' σ (.val fl a) v := by
  cases r with
  | val fl' a' =>
    cases e
    exact ⟨o, S, Le.refl, R⟩
  | peek i =>
    have e : (match sa[i]? with
      | some (some p) => some (p, sa.set i none)
      | _ => none) = some ((fl, a), sa') := e
    split at e
    · rename_i p ep
      cases e
      have R : σ[i]? = some (some v) := R
      have S : SRel K o T sa σ H := S
      obtain ⟨fi, o', ra, S', sub, h1, h2⟩ := SRel.out S ep R
      cases fl with
      | false =>
        obtain ⟨rfl, n⟩ := h2 rfl
        exact ⟨o', S', Le.refl, ⟨fi, ra, n⟩⟩
      | true =>
        obtain ⟨m, nd, mo⟩ := h1 rfl
        have mm : ∀ b, b ∈ fi ++ o' → b ∈ o := fun b z => by
          rcases List.mem_append.mp z with z | z
          · exact mo b z
          · exact sub b z
        refine ⟨fi ++ o', ⟨S'.len, fun i' fl' a' q' => ?_, Reps.cons ra S'.own, nd⟩, Le.sub mm, True.intro⟩
        obtain ⟨w, e1, z⟩ := S.sl i' fl' a' (by
          by_cases hi : i' = i
          · subst hi
            rw [List.getElem?_set_self (List.getElem?_eq_some_iff.mp ep).1] at q'
            cases q'
          · rw [List.getElem?_set_ne (Ne.symm hi)] at q'
            exact q')
        exact ⟨w, e1, fun y => RepS.sub mm (z y)⟩
    · cases e
theorem pms_ret (he : PM X e me) : PMS pn X (.Return (some e) pos) (sRet me) := PS.weak (ps_ret he) fun D σ H h => by
  obtain ⟨o, T, sa, f, sa', e, S, q⟩ := h
  obtain ⟨r, s1, e1, e2⟩ := bnd_some e
  obtain ⟨⟨fl, a⟩, s2, e2, e3⟩ := bnd_some e2
  cases e3
  refine ⟨o, T, sa, r, s1, e1, S, fun o1 v H1 L1 S1 R1 => ?_⟩
  obtain ⟨o2, S2, L2, R2⟩ := bnd_useM S1 R1 e2
  exact q o2 σ H1 (L1.trans L2) Keep.refl v S2 R2
theorem pms_retN : PMS pn X (.Return none pos) sRetN := PS.weak ps_retN fun D σ H h => by
  obtain ⟨o, T, sa, f, sa', e, S, q⟩ := h
  cases e
  exact q o σ H Le.refl Keep.refl .non S (RepS.d repD_non)
theorem pms_set {i : Nat} {x : Str} {pos' : Pos} (hpn : pn ≤ i) (hN : X.N.Nodup) (hi : X.N[i]? = some x) (hx : Loc X.env.scope x) (he : PM X e me) (hs : swapsWith e (some (.Name x pos')) pos.line X.env = pure false := by rfl) (hf : X.fn x = true ∨ X.env.scope.names.lookup x = some .local := by first | exact .inl rfl | exact .inr rfl | assumption) :
    PMS pn X (.Assign [.Name x pos'] e pos) (sSet i me) := PS.weak (ps_set hN hi hx he hs hf) fun D σ H h => by
  obtain ⟨o, T, sa, f, sa', e, S, q⟩ := h
  obtain ⟨r, s1, e1, e2⟩ := bnd_some e
  obtain ⟨⟨fl, a⟩, s2, eu, e3⟩ := bnd_some e2
  split at e3
  · rename_i hl
    cases e3
    refine ⟨o, T, sa, r, s1, e1, S, fun o1 v H1 L1 S1 R1 => ?_⟩
    obtain ⟨o2, S2, L2, R2, _⟩ := bnd_use S1 R1 eu
    obtain ⟨o3, S3, L3⟩ := SRel.put S2 R2 hl
    exact q o3 _ H1 ((L1.trans L2).trans L3) (Keep.set hpn) S3
  · cases e3
end

/-! ### name op= int -/
def sAug (j : Nat) (g : Int → Int → Int) (m : SM R) : SM Fl := fun sa => match sa[j]? with
  | some (some (_, .d (.int i))) => bnd m (fun r sa => match r with
    | .val true _ => none
    | r => match rv r sa with
      | some (.d (.int k)) => if j < sa.length then some (.nx, sa.set j (some (false, .d (.int (g i k))))) else none
      | _ => none) sa
  | _ => none
section
variable {pn : Nat} {X : Cx} {e : Expr} {me : SM R} {pos : Pos}
theorem pms_aug {i : Nat} {x : Str} {op : Operator} {pos' : Pos} {g : Int → Int → Int} (hpn : pn ≤ i) (ho : PIp X op (ipI g)) (hN : X.N.Nodup) (hi : X.N[i]? = some x) (hx : Loc X.env.scope x) (he : PM X e me) (hf : X.fn x = true ∨ X.env.scope.names.lookup x = some .local := by first | exact .inl rfl | exact .inr rfl | assumption) :
    PMS pn X (.AugAssign (.Name x pos') op e pos) (sAug i g me) := PS.weak (ps_aug hN hi hx he ho hf) fun D σ H h => by
  obtain ⟨o, T, sa, f, sa', e, S, q⟩ := h
  unfold sAug at e
  split at e
  · rename_i fl z ez
    obtain ⟨v, ev, _⟩ := S.sl i _ _ ez
    obtain ⟨fz, rz, _⟩ := SRel.slot S ez ev
    have := int_of rz
    subst this
    obtain ⟨r, s1, e1, e2⟩ := bnd_some e
    refine ⟨_, ev, o, T, sa, r, s1, e1, S, fun o1 w H1 L1 S1 R1 => ?_⟩
    split at e2
    · cases e2
    · rename_i hr
      split at e2
      · rename_i k ek
        split at e2
        · rename_i hl
          cases e2
          obtain ⟨fk, rk⟩ := rv_rep S1 R1 ek
          refine ⟨z, k, rfl, int_of rk, ?_⟩
          have S2 : SRel X.K o1 T s1 σ H1 := by
            match r, hr, S1 with
            | .val true a, hr, _ => exact (hr a rfl).elim
            | .val false a, _, S => exact S
            | .peek j, _, S => exact S
          obtain ⟨o3, S3, L3⟩ := SRel.put (fl := false) (a := .d (.int (g z k))) (v := .int (g z k)) S2 (RepS.d (by unfold RepD; rfl)) hl
          exact q o3 _ H1 (L1.trans L3) (Keep.set hpn) S3
        · cases e2
      · cases e2
  · cases e
end

/-! ### several names -/
def mUse (m : SM R) : SM R := bnd m fun r => bnd (use r) fun p => ret (.val p.1 p.2)
def setAll : List Nat → List R → List Slot → Option (List Slot)
  | [], [], sa => some sa
  | j :: js, .val fl a :: rs, sa => match setAll js rs sa with
    | some sa' => if j < sa'.length then some (sa'.set j (some (fl, a))) else none
    | none => none
  | _, _, _ => none
def setSt : List Nat → List V → L2.St → L2.St
  | j :: js, v :: vs, σ => (setSt js vs σ).set j (some v)
  | _, _, σ => σ
def sPar (js : List Nat) (ms : SM (List R)) : SM Fl := bnd ms fun rs sa => if szB rs.length then (setAll js rs sa).map fun sa' => (.nx, sa') else none
section
variable {K : PySem.W.Frag} {H : Hp} {sa : List Slot} {σ : L2.St}
theorem setAll_ok : ∀ {js : List Nat} {rs : List R} {vs : List V} {T : Tmp} {o : List Addr} {sa' : List Slot}, SRel K o (pushTs rs vs T) sa σ H → RRs K H o σ rs vs → setAll js rs sa = some sa' →
    ∃ o', SRel K o' T sa' (setSt js vs σ) H ∧ Le o H o' H ∧ vs.length = js.length
  | [], [], vs, T, o, sa', S, h, e => by
    cases h
    cases e
    exact ⟨o, S, Le.refl, rfl⟩
  | j :: js, .val fl a :: rs, vs, T, o, sa', S, h, e => by
    cases h with
    | @cons _ v _ vs h1 h2 =>
      unfold setAll at e
      split at e
      · rename_i sb es
        split at e
        · rename_i hl
          cases e
          have S' : SRel K o (pushTs rs vs (pushT (.val fl a) v T)) sa σ H := S
          obtain ⟨o1, S1, L1, hn⟩ := setAll_ok S' h2 es
          have R1 : RR K H o1 (setSt js vs σ) (.val fl a) v := by
            cases fl with
            | true => exact True.intro
            | false => exact RepS.mono S' L1 h1
          obtain ⟨o2, S2, L2⟩ := SRel.put S1 R1 hl
          exact ⟨o2, S2, L1.trans L2, by simp [hn]⟩
        · cases e
      · cases e
  | [], _ :: _, _, _, _, _, _, _, e => by cases e
  | _ :: _, [], _, _, _, _, _, _, e => by cases e
  | _ :: _, .peek _ :: _, _, _, _, _, _, _, e => by cases e
theorem setSt_keep {pn : Nat} : ∀ {js : List Nat} {vs : List V} {σ : L2.St}, (∀ j ∈ js, pn ≤ j) → Keep pn σ (setSt js vs σ)
  | [], _, _, _ => Keep.refl
  | _ :: _, [], _, _ => Keep.refl
  | j :: js, v :: vs, σ, h => (setSt_keep (js := js) (vs := vs) fun j hj => h j (List.mem_cons_of_mem _ hj)).trans (Keep.set (h j List.mem_cons_self))
theorem setSt_comm {js : List Nat} {vs : List V} {σ : L2.St} {i : Nat} {w : Option V} (h : i ∉ js) : setSt js vs (σ.set i w) = (setSt js vs σ).set i w := by
  induction js generalizing vs with
  | nil => cases vs <;> rfl
  | cons j js ih =>
    cases vs with
    | nil => rfl
    | cons v vs =>
      unfold setSt
      rw [ih fun z => h (List.mem_cons_of_mem _ z), List.set_comm _ _ fun z => h (by rw [z]; exact List.mem_cons_self)]
end
section
variable {pn : Nat} {X : Cx} {e : Expr} {me : SM R} {pos : Pos}
theorem pm_use (h : PM X e me) : PM X e (mUse me) := PE.weak h fun σ H Q h => by
  obtain ⟨o, T, sa, r, sa', e, S, q⟩ := h
  obtain ⟨r1, s1, e1, e2⟩ := bnd_some e
  obtain ⟨⟨fl, a⟩, s2, e2, e3⟩ := bnd_some e2
  cases e3
  refine ⟨o, T, sa, r1, s1, e1, S, fun o1 v H1 L1 S1 R1 => ?_⟩
  obtain ⟨o2, S2, L2, R2, _⟩ := bnd_use S1 R1 e2
  exact q o2 v H1 (L1.trans L2) S2 R2
theorem pms_par2 {i j : Nat} {x y : Str} {a b : Expr} {ms : SM (List R)} {px py pt : Pos} {kt k2 pt2} (hpn : ∀ k ∈ [i, j], pn ≤ k) (hc : X.calm = true) (hN : X.N.Nodup) (hi : X.N[i]? = some x) (hj : X.N[j]? = some y) (hij : i ≠ j)
    (hx : X.env.scope.names.lookup x = some .local) (hy : X.env.scope.names.lookup y = some .local) (ha : PMA X [a, b] ms)
    (hw : swappedStores [.Tuple [.Name x px, .Name y py] kt pt] (.Tuple [a, b] k2 pt2) X.env = pure (some [x, y]))
    (hs : swapsWithSole [.Tuple [.Name x px, .Name y py] kt pt] (.Tuple [a, b] k2 pt2) pos.line X.env = pure false := by rfl) :
    PMS pn X (.Assign [.Tuple [.Name x px, .Name y py] kt pt] (.Tuple [a, b] k2 pt2) pos) (sPar [i, j] ms) := PS.weak (ps_par hc hN hi hj hij hx hy ha hw hs) fun D σ H h => by
  obtain ⟨o, T, sa, f, sa', e, S, q⟩ := h
  obtain ⟨rs, s1, e1, e2⟩ := bnd_some e
  split at e2
  · cases es : setAll [i, j] rs s1 with
    | none => rw [es] at e2; cases e2
    | some sb =>
      rw [es] at e2
      cases e2
      refine ⟨o, T, sa, rs, s1, e1, S, fun o1 vs H1 L1 S1 R1 => ?_⟩
      obtain ⟨o2, S2, L2, hn⟩ := setAll_ok S1 R1 es
      match vs, hn, S2 with
      | [v, w], _, S2 =>
        refine ⟨v, w, rfl, ?_⟩
        have : (σ.set i (some v)).set j (some w) = setSt [i, j] [v, w] σ := by
          show _ = (σ.set j (some w)).set i (some v)
          rw [List.set_comm _ _ hij]
        rw [this]
        exact q o2 _ H1 (L1.trans L2) (setSt_keep hpn) S2
  · cases e2
theorem pms_par3 {i j l : Nat} {x y z : Str} {a b c : Expr} {ms : SM (List R)} {px py pz pt : Pos} {kt k2 pt2} (t : ∀ ta, PA X [a, b, c] ta → PS X (.Assign [.Tuple [.Name x px, .Name y py, .Name z pz] kt pt] (.Tuple [a, b, c] k2 pt2) pos) (tPar3 i j l ta)) (hpn : ∀ k ∈ [i, j, l], pn ≤ k)
    (hij : i ≠ j) (hil : i ≠ l) (hjl : j ≠ l) (ha : PMA X [a, b, c] ms) : PMS pn X (.Assign [.Tuple [.Name x px, .Name y py, .Name z pz] kt pt] (.Tuple [a, b, c] k2 pt2) pos) (sPar [i, j, l] ms) := PS.weak (t _ ha) fun D σ H h => by
  obtain ⟨o, T, sa, f, sa', e, S, q⟩ := h
  obtain ⟨rs, s1, e1, e2⟩ := bnd_some e
  split at e2
  · cases es : setAll [i, j, l] rs s1 with
    | none => rw [es] at e2; cases e2
    | some sb =>
      rw [es] at e2
      cases e2
      refine ⟨o, T, sa, rs, s1, e1, S, fun o1 vs H1 L1 S1 R1 => ?_⟩
      obtain ⟨o2, S2, L2, hn⟩ := setAll_ok S1 R1 es
      match vs, hn, S2 with
      | [v, w, u], _, S2 =>
        refine ⟨v, w, u, rfl, ?_⟩
        have : ((σ.set i (some v)).set j (some w)).set l (some u) = setSt [i, j, l] [v, w, u] σ := by
          show _ = ((σ.set l (some u)).set j (some w)).set i (some v)
          rw [List.set_comm (some v) (some w) hij, List.set_comm (some v) (some u) hil, List.set_comm (some w) (some u) hjl]
        rw [this]
        exact q o2 _ H1 (L1.trans L2) (setSt_keep hpn) S2
  · cases e2
theorem RRs.len {K : PySem.W.Frag} {H : Hp} {o : List Addr} {σ : L2.St} {rs : List R} {vs : List V} (h : RRs K H o σ rs vs) : rs.length = vs.length := by
  induction h with
  | nil => rfl
  | cons _ _ ih => simp [ih]
/-- the targets of a tuple, names -/
def gNames : List Nat → TGs
  | [] => gNil
  | i :: is => gCons (gName i) (gNames is)
theorem gNames_ok : ∀ {is : List Nat} {vs : List V} {σ : L2.St} {H : Hp} {Q : L2.St → Hp → Prop}, is.Nodup → vs.length = is.length → Q (setSt is vs σ) H → gNames is vs σ H Q
  | [], [], σ, H, Q, _, _, q => ⟨rfl, q⟩
  | i :: is, v :: vs, σ, H, Q, nd, hn, q => by
    refine ⟨v, vs, rfl, gNames_ok (List.nodup_cons.mp nd).2 (by simpa using hn) ?_⟩
    rw [setSt_comm (List.nodup_cons.mp nd).1]
    exact q
  | [], _ :: _, _, _, _, _, hn, _ => by cases hn
  | _ :: _, [], _, _, _, _, hn, _ => by cases hn
theorem SRel.tupNew {K : PySem.W.Frag} {H : Hp} {o : List Addr} {T : Tmp} {sa : List Slot} {σ : L2.St} {p : Addr} {ys : List V} (S : SRel K o T sa σ H) (n : H p = none) : SRel K o T sa σ (upd H p (.tup ys)) :=
  ⟨S.len, fun i fl a e => by
    obtain ⟨w, e1, q⟩ := S.sl i fl a e
    exact ⟨w, e1, fun z => by simpa using RepS.fresh S (Fresh.new0 (o := .tup ys) n) (q z)⟩, Reps.fresh (Fresh.new0 n) S.own, S.nd⟩
theorem Le.new {H : Hp} {o : List Addr} {p : Addr} {u : HO} (n : H p = none) : Le o H o (upd H p u) := fun b w e nb => ⟨by rw [upd_ne (ne_of_none e n)]; exact e, nb⟩
/-- a, b, .. = x, y, .. by way of a tuple (names that are cells, or four and more) -/
theorem pms_parT {es : List Expr} {x1} {kt : Nat} {tg : List Expr} {pt pt2 : Pos} {is : List Nat} {ms : SM (List R)} (hpn : ∀ k ∈ is, pn ≤ k) (hnd : is.Nodup) (ha : PMA X es ms) (hg : PG X (.Tuple tg kt pt) (gTup X.K is.length (gNames is)))
    (hs : swapsWithSole [.Tuple tg kt pt] (.Tuple es x1 pt2) pos.line X.env = pure false := by rfl) (hw : swappedStores [.Tuple tg kt pt] (.Tuple es x1 pt2) X.env = pure none := by rfl)
    (h1 : (assignEach [.Tuple tg kt pt] X.env).map (·.2) = [assign (.Tuple tg kt pt) X.env] := by rfl) :
    PMS pn X (.Assign [.Tuple tg kt pt] (.Tuple es x1 pt2) pos) (sPar is ms) := PS.weak (ps_asg (pe_tup ha) hg hs hw h1) fun D σ H h => by
  obtain ⟨o, T, sa, f, sa', e, S, q⟩ := h
  obtain ⟨rs, s1, e1, e2⟩ := bnd_some e
  split at e2
  · rename_i hz
    cases es : setAll is rs s1 with
    | none => rw [es] at e2; cases e2
    | some sb =>
      rw [es] at e2
      cases e2
      refine ⟨o, T, sa, rs, s1, e1, S, fun o1 vs H1 L1 S1 R1 => ?_⟩
      have hrl : rs.length = vs.length := R1.len
      refine ⟨by rw [← hrl]; exact szB_ok hz, fun p hp => ?_⟩
      obtain ⟨o2, S2, L2, hn⟩ := setAll_ok S1 R1 es
      exact ⟨p, vs, rfl, .inl (.inl upd_same), hn, gNames_ok hnd hn (q o2 _ _ ((L1.trans L2).trans (Le.new hp)) (setSt_keep hpn) (SRel.tupNew S2 hp))⟩
  · cases e2
end
end MM
namespace MM
open PySem PySem.Spec PyProof.Rows L2

/-! ### targets -/
/-- a target's meaning: the slots that it stores, and what of an item goes where -/
inductive Tg where
  | nm (j : Nat) | tp (ts : List Tg)
mutual
def Tg.slots : Tg → List Nat
  | .nm j => [j]
  | .tp ts => Tg.slotss ts
def Tg.slotss : List Tg → List Nat
  | [] => []
  | t :: ts => t.slots ++ Tg.slotss ts
end
mutual
/-- store data into a target -/
def Tg.put : Tg → D → List Slot → Option (List Slot)
  | .nm j, x, sa => if j < sa.length then some (sa.set j (some (false, .d x))) else none
  | .tp ts, .tup xs, sa => Tg.puts ts xs sa
  | .tp _, _, _ => none
def Tg.puts : List Tg → List D → List Slot → Option (List Slot)
  | [], [], sa => some sa
  | t :: ts, x :: xs, sa => match t.put x sa with
    | some sa' => Tg.puts ts xs sa'
    | none => none
  | _, _, _ => none
end
mutual
def Tg.rd (K : PySem.W.Frag) : Tg → TG
  | .nm j => gName j
  | .tp ts => gTup K ts.length (Tg.rds K ts)
def Tg.rds (K : PySem.W.Frag) : List Tg → TGs
  | [] => gNil
  | t :: ts => gCons (t.rd K) (Tg.rds K ts)
end
/-- an item: data anywhere, another shared thing at a name alone -/
def putI (t : Tg) (a : A) (sa : List Slot) : Option (List Slot) := match a with
  | .d x => t.put x sa
  | a => match t with
    | .nm j => if j < sa.length then some (sa.set j (some (false, a))) else none
    | .tp _ => none
section
variable {K : PySem.W.Frag}
theorem wipe_get {σ : L2.St} {i : Nat} : ∀ {vs : List Nat}, i ∉ vs → (wipe σ vs)[i]? = σ[i]? := wipe_out
theorem SRel.putS {o : List Addr} {T : Tmp} {sa : List Slot} {σ : L2.St} {H : Hp} {a : A} {v : V} {j : Nat} (S : SRel K o T sa σ H) (r : RepS K H o a v) (hj : j < sa.length) : ∃ o', SRel K o' T (sa.set j (some (false, a))) (σ.set j (some v)) H ∧ Le o H o' H :=
  SRel.put (fl := false) S r hj
/-- only these slots are others -/
def SetAt (is : List Nat) (σ σ' : L2.St) : Prop := σ'.length = σ.length ∧ ∀ i, i ∉ is → σ'[i]? = σ[i]?
theorem SetAt.refl {is : List Nat} {σ : L2.St} : SetAt is σ σ := ⟨rfl, fun _ _ => rfl⟩
theorem SetAt.trans {is js : List Nat} {σ σ1 σ2 : L2.St} (a : SetAt is σ σ1) (b : SetAt js σ1 σ2) : SetAt (is ++ js) σ σ2 := ⟨b.1.trans a.1, fun i h => by
  rw [b.2 i (fun z => h (List.mem_append_right _ z)), a.2 i (fun z => h (List.mem_append_left _ z))]⟩
theorem SetAt.keep {pn : Nat} {is : List Nat} {σ σ' : L2.St} (a : SetAt is σ σ') (h : ∀ k ∈ is, pn ≤ k) : Keep pn σ σ' := fun i hi => a.2 i fun z => by have := h i z; omega
theorem SetAt.one {j : Nat} {σ : L2.St} {w : Option V} : SetAt [j] σ (σ.set j w) := ⟨by simp, fun i h => List.getElem?_set_ne fun z => h (by simp [z])⟩
mutual
theorem Tg.put_ok : ∀ {t : Tg} {x : D} {v : V} {o : List Addr} {T : Tmp} {sa sa' : List Slot} {σ : L2.St} {H : Hp} {Q : L2.St → Hp → Prop}, SRel K o T sa σ H → RepD K H x v → t.put x sa = some sa' →
    (∀ o' σ', SetAt t.slots σ σ' → Le o H o' H → SRel K o' T sa' σ' H → Q σ' H) → t.rd K v σ H Q
  | .nm j, x, v, o, T, sa, sa', σ, H, Q, S, r, e, q => by
    have e : (if j < sa.length then some (sa.set j (some (false, A.d x))) else none) = some sa' := e
    split at e
    · rename_i hj
      cases e
      obtain ⟨o', S', L⟩ := SRel.putS S (RepS.d r) hj
      show Q (σ.set j (some v)) H
      exact q o' _ SetAt.one L S'
    · cases e
  | .tp ts, .tup xs, v, o, T, sa, sa', σ, H, Q, S, r, e, q => by
    unfold RepD at r
    obtain ⟨p, ys, rfl, s, rs⟩ := r
    have hn : ts.length = xs.length := Tg.puts_len e
    show gTup K ts.length (Tg.rds K ts) (.ref p) σ H Q
    exact ⟨p, ys, rfl, s, by rw [← rs.len, hn], Tg.puts_ok S rs e q⟩
  | .tp _, .non, _, _, _, _, _, _, _, _, _, _, e, _ => by cases e
  | .tp _, .bl _, _, _, _, _, _, _, _, _, _, _, e, _ => by cases e
  | .tp _, .int _, _, _, _, _, _, _, _, _, _, _, e, _ => by cases e
  | .tp _, .str _, _, _, _, _, _, _, _, _, _, _, e, _ => by cases e
  | .tp _, .opq _, _, _, _, _, _, _, _, _, _, _, e, _ => by cases e
  | .tp _, .scr _, _, _, _, _, _, _, _, _, _, _, e, _ => by cases e
theorem Tg.puts_len : ∀ {ts : List Tg} {xs : List D} {sa sa' : List Slot}, Tg.puts ts xs sa = some sa' → ts.length = xs.length
  | [], [], sa, sa', e => rfl
  | t :: ts, x :: xs, sa, sa', e => by
    unfold Tg.puts at e
    split at e
    · simp [Tg.puts_len e]
    · cases e
  | [], _ :: _, _, _, e => by cases e
  | _ :: _, [], _, _, e => by cases e
theorem Tg.puts_ok : ∀ {ts : List Tg} {xs : List D} {vs : List V} {o : List Addr} {T : Tmp} {sa sa' : List Slot} {σ : L2.St} {H : Hp} {Q : L2.St → Hp → Prop}, SRel K o T sa σ H → RepDs K H xs vs → Tg.puts ts xs sa = some sa' →
    (∀ o' σ', SetAt (Tg.slotss ts) σ σ' → Le o H o' H → SRel K o' T sa' σ' H → Q σ' H) → Tg.rds K ts vs σ H Q
  | [], [], vs, o, T, sa, sa', σ, H, Q, S, r, e, q => by
    unfold RepDs at r
    subst r
    cases e
    exact ⟨rfl, q o σ SetAt.refl Le.refl S⟩
  | t :: ts, x :: xs, vs, o, T, sa, sa', σ, H, Q, S, r, e, q => by
    unfold RepDs at r
    obtain ⟨y, ys, rfl, r1, r2⟩ := r
    unfold Tg.puts at e
    split at e
    · rename_i sb es
      refine ⟨y, ys, rfl, Tg.put_ok S r1 es fun o1 σ1 a1 L1 S1 => ?_⟩
      exact Tg.puts_ok S1 r2 e fun o2 σ2 a2 L2 S2 => q o2 σ2 (a1.trans a2) (L1.trans L2) S2
    · cases e
  | [], _ :: _, _, _, _, _, _, _, _, _, _, _, e, _ => by cases e
  | _ :: _, [], _, _, _, _, _, _, _, _, _, _, e, _ => by cases e
end
theorem putI_ok {t : Tg} {a : A} {v : V} {o : List Addr} {T : Tmp} {sa sa' : List Slot} {σ : L2.St} {H : Hp} {Q : L2.St → Hp → Prop} (S : SRel K o T sa σ H) (r : RepS K H o a v) (e : putI t a sa = some sa')
    (q : ∀ o' σ', SetAt t.slots σ σ' → Le o H o' H → SRel K o' T sa' σ' H → Q σ' H) : t.rd K v σ H Q := by
  cases a with
  | d x =>
    obtain ⟨fp, r, _⟩ := r
    exact Tg.put_ok S (repD_d r) e q
  | _ =>
    cases t with
    | nm j =>
      have e : (if j < sa.length then some (sa.set j (some (false, _))) else none) = some sa' := e
      split at e
      · rename_i hj
        cases e
        obtain ⟨o', S', L⟩ := SRel.putS S r hj
        show Q (σ.set j (some v)) H
        exact q o' _ SetAt.one L S'
      · cases e
    | tp ts => cases e
end
/-- target = value, a tuple of data taken apart -/
def sUnp (t : Tg) (m : SM R) : SM Fl := bnd m fun r sa => match r with
  | .val true _ => none
  | r => match rv r sa with
    | some (.d x) => (t.put x sa).map fun sa' => (.nx, sa')
    | _ => none
section
variable {X : Cx} {pos : Pos}
abbrev PGM (X : Cx) (e : Expr) (t : Tg) : Prop := PG X e (t.rd X.K)
abbrev PGMs (X : Cx) (es : List Expr) (ts : List Tg) : Prop := PGs X es (Tg.rds X.K ts)
theorem pgm_name {i : Nat} {x : Str} (hN : X.N.Nodup) (hi : X.N[i]? = some x) (hx : Loc X.env.scope x) (hf : X.fn x = true ∨ X.env.scope.names.lookup x = some .local := by first | exact .inl rfl | exact .inr rfl | assumption) : PGM X (.Name x pos) (.nm i) := pg_name hN hi hx hf
theorem pgms_nil : PGMs X [] [] := pgs_nil
theorem pgms_cons {e : Expr} {es : List Expr} {t : Tg} {ts : List Tg} (h1 : PGM X e t) (h2 : PGMs X es ts) (hs : (assignEach (e :: es) X.env).map (·.2) = assign e X.env :: (assignEach es X.env).map (·.2) := by rfl) : PGMs X (e :: es) (t :: ts) := pgs_cons h1 h2 hs
theorem pgm_tup {es : List Expr} {k : Nat} {ts : List Tg} (hc : X.calm = true) (h : PGMs X es ts) (hn : (assignEach es X.env).length = ts.length := by rfl) (hst : (assignEach es X.env).findIdx? (·.1) = none := by rfl) : PGM X (.Tuple es k pos) (.tp ts) := pg_tup hc h hn hst
theorem pms_unp {pn : Nat} {tg e : Expr} {t : Tg} {m : SM R} (hpn : ∀ k ∈ t.slots, pn ≤ k) (he : PM X e m) (hg : PGM X tg t) (hs : swapsWithSole [tg] e pos.line X.env = pure false := by rfl) (hw : swappedStores [tg] e X.env = pure none := by rfl)
    (h1 : (assignEach [tg] X.env).map (·.2) = [assign tg X.env] := by rfl) : PMS pn X (.Assign [tg] e pos) (sUnp t m) := PS.weak (ps_asg he hg hs hw h1) fun D σ H h => by
  obtain ⟨o, T, sa, f, sa', e, S, q⟩ := h
  obtain ⟨r, s1, e1, e2⟩ := bnd_some e
  refine ⟨o, T, sa, r, s1, e1, S, fun o1 v H1 L1 S1 R1 => ?_⟩
  split at e2
  · cases e2
  · rename_i hr
    split at e2
    · rename_i x ex
      cases ep : t.put x s1 with
      | none => rw [ep] at e2; cases e2
      | some sb =>
        rw [ep] at e2
        cases e2
        obtain ⟨fp, ra⟩ := rv_rep S1 R1 ex
        have S2 : SRel X.K o1 T s1 σ H1 := by
          match r, hr, S1 with
          | .val true a, hr, _ => exact (hr a rfl).elim
          | .val false a, _, S => exact S
          | .peek j, _, S => exact S
        exact Tg.put_ok S2 (repD_d ra) ep fun o2 σ2 a2 L2 S2 => q o2 σ2 H1 (L1.trans L2) (a2.keep hpn) S2
    · cases e2
end

/-! ### what is walked -/
/-- from the state (o, H) on the walk gives these items -/
def Wk (K : PySem.W.Frag) (o : List Addr) (H : Hp) (J : It) (its : List A) : Prop := ∀ o1 H1, Le o H o1 H1 → J.stop its.length H1 ∧ ∀ (i : Nat) (a : A), its[i]? = some a → J.go i H1 ∧
  ∀ x H2, J.yld i H1 x H2 → (∀ b u, H1 b = some u → H2 b = some u) ∧ RepS K H2 o1 a x
def tOfI (K : PySem.W.Frag) (m : SM (List A)) : TI := fun σ H R => ∃ o T sa its sa', m sa = some (its, sa') ∧ SRel K o T sa σ H ∧
  ∀ o' H' J, Le o H o' H' → SRel K o' T sa' σ H' → Wk K o' H' J its → R J H'
abbrev PMI (X : Cx) (tg e : Expr) (m : SM (List A)) : Prop := PI X tg e (tOfI X.K m)
theorem PI.weak {X : Cx} {tg e : Expr} {t u : TI} (h : PI X tg e t) (w : ∀ σ H R, u σ H R → t σ H R) : PI X tg e u := ⟨fun pins s σ H R I q => h.run pins s σ H R I (w σ H R q)⟩
theorem PI.or {X : Cx} {tg e : Expr} {t u : TI} (h : PI X tg e t) (h' : PI X tg e u) : PI X tg e (fun σ H R => t σ H R ∨ u σ H R) := ⟨fun pins s σ H R I q => q.elim (h.run pins s σ H R I) (h'.run pins s σ H R I)⟩
def iterA : A → Option (List A)
  | .d (.tup xs) => some (xs.map .d)
  | .ls xs => some (xs.map .d)
  | .lst xs => some xs
  | _ => none
/-- what a list or tuple gives; a list is shared from then on -/
def mIter (m : SM R) : SM (List A) := bnd m fun r => bnd (use r) fun p sa => (iterA p.2).map fun its => (its, sa)
section
variable {K : PySem.W.Frag} {H : Hp} {o : List Addr}
theorem wk_tup {a : Addr} {ys : List V} {xs : List D} {T : Tmp} {sa : List Slot} {σ : L2.St} (S : SRel K o T sa σ H) (s : SqT K H a ys) (r : RepDs K H xs ys) : Wk K o H (Itt K a) (xs.map .d) := fun o1 H1 L => by
  have s1 : SqT K H1 a ys := sqT_mono (S.imm L) s
  have r1 : RepDs K H1 xs ys := r.mono (S.imm L)
  refine ⟨⟨ys, s1, by simp [r.len]⟩, fun i a e => ?_⟩
  rw [List.getElem?_map] at e
  cases e1 : xs[i]? with
  | none => rw [e1] at e; cases e
  | some d =>
    rw [e1] at e
    cases e
    obtain ⟨y, ey, ry⟩ := r1.get e1
    exact ⟨⟨ys, y, s1, ey⟩, fun x H2 ⟨h1, h2⟩ => by
      subst h1
      have := h2 ys s1
      rw [ey] at this
      cases this
      exact ⟨fun _ _ h => h, RepS.d ry⟩⟩
theorem wk_lst {a : Addr} {ys : List V} {xs : List A} {f : List Addr} {T : Tmp} {sa : List Slot} {σ : L2.St} (S : SRel K o T sa σ H) (s : H a = some (.lst ys)) (na : a ∉ o) (r : Reps K H xs ys f) (nf : ∀ b ∈ f, b ∉ o) : Wk K o H (Itl K a) xs := fun o1 H1 L => by
  have s1 : SqL K H1 a ys := .of (L a _ s na).1
  refine ⟨⟨ys, s1, by simp [r.len]⟩, fun i a e => ?_⟩
  obtain ⟨y, g, ey, ry, sub⟩ := Reps.get r e
  have rs : RepS K H1 o1 a y := RepS.mono S L ⟨g, ry, fun b hb => nf b (sub.subset hb)⟩
  exact ⟨⟨ys, y, s1, ey⟩, fun x H2 ⟨h1, h2⟩ => by
    subst h1
    have := h2 ys s1
    rw [ey] at this
    cases this
    exact ⟨fun _ _ h => h, rs⟩⟩
end
section
variable {X : Cx} {tg e : Expr} {m : SM R}
theorem pmi_seq (he : PM X e m) : PMI X tg e (mIter m) := PI.weak (PI.or (pi_list he) (pi_tup he)) fun σ H R h => by
  obtain ⟨o, T, sa, its, sa', e, S, q⟩ := h
  obtain ⟨r, s1, e1, e2⟩ := bnd_some e
  obtain ⟨⟨fl, a⟩, s2, e2, e3⟩ := bnd_some e2
  cases ei : iterA a with
  | none => rw [ei] at e3; cases e3
  | some its' =>
    rw [ei] at e3
    cases e3
    -- the thing, shared
    have key : ∀ o1 v H1, SRel X.K o1 (pushT r v T) s1 σ H1 → RR X.K H1 o1 σ r v → ∃ o2, SRel X.K o2 T sa' σ H1 ∧ Le o1 H1 o2 H1 ∧ RepS X.K H1 o2 a v := fun o1 v H1 S1 R1 => by
      obtain ⟨o2, S2, L2, R2, _⟩ := bnd_use S1 R1 e2
      cases fl with
      | false => exact ⟨o2, S2, L2, R2⟩
      | true =>
        obtain ⟨f, o3, rfl, ra, S3⟩ := SRel.top S2
        exact ⟨o3, S3, L2.trans Le.drop, f, ra, fun b hb z => (List.nodup_append.mp S2.nd).2.2 b hb b z rfl⟩
    cases a with
    | d x =>
      cases x with
      | tup xs =>
        cases ei
        refine .inr ⟨o, T, sa, r, s1, e1, S, fun o1 v H1 L1 S1 R1 => ?_⟩
        obtain ⟨o2, S2, L2, fp, ra, nf⟩ := key o1 v H1 S1 R1
        obtain ⟨p, ys, rfl, s, rs⟩ := tup_of ra
        exact ⟨p, rfl, ⟨ys, s⟩, q o2 H1 _ (L1.trans L2) S2 (wk_tup S2 s rs)⟩
      | _ => cases ei
    | ls xs =>
      cases ei
      refine .inl ⟨o, T, sa, r, s1, e1, S, fun o1 v H1 L1 S1 R1 => ?_⟩
      obtain ⟨o2, S2, L2, fp, ra, nf⟩ := key o1 v H1 S1 R1
      obtain ⟨p, ys, rfl, s, rs, rfl⟩ := ls_of ra
      exact ⟨p, rfl, ⟨ys, .of s⟩, q o2 H1 _ (L1.trans L2) S2 (wk_lst S2 s (nf p (by simp)) (Reps.ofData rs) (fun _ h => nomatch h))⟩
    | lst xs =>
      cases ei
      refine .inl ⟨o, T, sa, r, s1, e1, S, fun o1 v H1 L1 S1 R1 => ?_⟩
      obtain ⟨o2, S2, L2, fp, ra, nf⟩ := key o1 v H1 S1 R1
      obtain ⟨p, ys, g, rfl, s, rs, rfl⟩ := lst_of ra
      exact ⟨p, rfl, ⟨ys, .of s⟩, q o2 H1 _ (L1.trans L2) S2 (wk_lst S2 s (nf p (by simp)) rs (fun b hb => nf b (by simp [hb])))⟩
    | tpl xs => cases ei
    | dd xs => cases ei
end
def rgB (j : Int) : Bool := decide (-(2 ^ 62) ≤ j ∧ j < 2 ^ 62)
def rangeL (lo : Int) (n : Nat) : List A := (List.range n).map fun k => .d (.int (lo + (k : Nat)))
def mRange1 (ms : SM (List R)) : SM (List A) := bnd ms fun rs sa => match rds rs sa with
  | some [.int j] => if rgB j then some (rangeL 0 j.toNat, sa) else none
  | _ => none
def mRange2 (ms : SM (List R)) : SM (List A) := bnd ms fun rs sa => match rds rs sa with
  | some [.int i, .int j] => if rgB i && rgB j then some (rangeL i (j - i).toNat, sa) else none
  | _ => none
theorem wk_range {K : PySem.W.Frag} {H : Hp} {o : List Addr} {lo : Int} {n : Nat} : Wk K o H (Itr lo n) (rangeL lo n) := fun o1 H1 L => by
  refine ⟨?_, fun i a e => ?_⟩
  · show n ≤ _
    simp [rangeL]
  · unfold rangeL at e
    rw [List.getElem?_map] at e
    cases e1 : (List.range n)[i]? with
    | none => rw [e1] at e; cases e
    | some d =>
      rw [e1] at e
      cases e
      obtain ⟨h1, h2⟩ := List.getElem?_eq_some_iff.mp e1
      simp at h1 h2
      subst h2
      exact ⟨h1, fun x H2 ⟨h3, h4⟩ => by
        subst h3 h4
        exact ⟨fun _ _ h => h, RepS.d (by unfold RepD; rfl)⟩⟩
section
variable {X : Cx} {tg a b : Expr} {ms : SM (List R)} {p pos : Pos}
theorem pmi_range1 (hg : Gl X "range") (hm : X.mg "range" = none) (ha : PMA X [a] ms) (hs : starEach [a] X.env = [(false, eval a X.env)] := by rfl) : PMI X tg (.Call (.Name "range" p) [a] [] pos) (mRange1 ms) := PI.weak (pi_range1 hg hm ha hs) fun σ H R h => by
  obtain ⟨o, T, sa, its, sa', e, S, q⟩ := h
  obtain ⟨rs, s1, e1, e2⟩ := bnd_some e
  refine ⟨o, T, sa, rs, s1, e1, S, fun o1 vs H1 L1 S1 R1 => ?_⟩
  split at e2
  · rename_i j ej
    split at e2
    · rename_i hb
      cases e2
      have rd := rds_rep S1 R1 ej
      unfold RepDs at rd
      obtain ⟨y, r, rfl, h1, h2⟩ := rd
      unfold RepDs at h2
      subst h2
      unfold RepD at h1
      subst h1
      have hb := of_decide_eq_true hb
      obtain ⟨o2, S2, L2⟩ := pushTs_pop S1
      exact ⟨j, rfl, hb.1, hb.2, q o2 H1 _ (L1.trans L2) S2 wk_range⟩
    · cases e2
  · cases e2
theorem pmi_range2 (hg : Gl X "range") (hm : X.mg "range" = none) (ha : PMA X [a, b] ms) (hs : starEach [a, b] X.env = [(false, eval a X.env), (false, eval b X.env)] := by rfl) (hs2 : starEach [b] X.env = [(false, eval b X.env)] := by rfl) :
    PMI X tg (.Call (.Name "range" p) [a, b] [] pos) (mRange2 ms) := PI.weak (pi_range2 hg hm ha hs hs2) fun σ H R h => by
  obtain ⟨o, T, sa, its, sa', e, S, q⟩ := h
  obtain ⟨rs, s1, e1, e2⟩ := bnd_some e
  refine ⟨o, T, sa, rs, s1, e1, S, fun o1 vs H1 L1 S1 R1 => ?_⟩
  split at e2
  · rename_i i j ej
    split at e2
    · rename_i hb
      cases e2
      have rd := rds_rep S1 R1 ej
      unfold RepDs at rd
      obtain ⟨y, r, rfl, h1, h2⟩ := rd
      unfold RepDs at h2
      obtain ⟨z, r, rfl, h3, h2⟩ := h2
      unfold RepDs at h2
      subst h2
      unfold RepD at h1 h3
      subst h1 h3
      rw [Bool.and_eq_true] at hb
      have hb1 := of_decide_eq_true hb.1
      have hb2 := of_decide_eq_true hb.2
      obtain ⟨o2, S2, L2⟩ := pushTs_pop S1
      exact ⟨i, j, rfl, ⟨hb1.1, hb1.2, hb2.1, hb2.2⟩, q o2 H1 _ (L1.trans L2) S2 wk_range⟩
    · cases e2
  · cases e2
end

/-! ### for, while -/
def forL (t : Tg) (b : SM Fl) : List A → SM Fl
  | [] => ret .nx
  | a :: r => fun sa => match putI t a sa with
    | some sa' => match b sa' with
      | some (.nx, s2) => forL t b r s2
      | some (.ct, s2) => forL t b r s2
      | some (.bk, s2) => some (.nx, s2)
      | some (.rt fl v, s2) => some (.rt fl v, s2)
      | none => none
    | none => none
def sFor (t : Tg) (mi : SM (List A)) (b : SM Fl) : SM Fl := bnd mi fun its => forL t b its
def whileN (c : SM Bool) (b : SM Fl) : Nat → SM Fl
  | 0 => fun _ => none
  | n + 1 => fun sa => match c sa with
    | some (true, s1) => match b s1 with
      | some (.nx, s2) => whileN c b n s2
      | some (.ct, s2) => whileN c b n s2
      | some (.bk, s2) => some (.nx, s2)
      | some (.rt fl v, s2) => some (.rt fl v, s2)
      | none => none
    | some (false, s1) => some (.nx, s1)
    | none => none
open Classical in
noncomputable def sWhile (c : SM Bool) (b : SM Fl) : SM Fl := fun sa => if h : ∃ n r, whileN c b n sa = some r then some h.choose_spec.choose else none
theorem SRel.yld {K : PySem.W.Frag} {o : List Addr} {T : Tmp} {sa : List Slot} {σ : L2.St} {H H2 : Hp} (S : SRel K o T sa σ H) (same : ∀ b u, H b = some u → H2 b = some u) : SRel K o T sa σ H2 ∧ Le o H o H2 :=
  ⟨⟨S.len, fun i fl a e => by
    obtain ⟨w, e1, q⟩ := S.sl i fl a e
    refine ⟨w, e1, fun z => ?_⟩
    obtain ⟨fp, r, n⟩ := q z
    exact ⟨fp, r.mono (fun b u e _ => same b u e) (fun b _ u e => same b u e), n⟩, S.own.mono (fun b u e _ => same b u e) (fun b _ u e => same b u e), S.nd⟩, fun b u e n => ⟨same b u e, n⟩⟩
section
variable {pn : Nat} {X : Cx} {tg iter c : Expr} {body : List Stmt} {t : Tg} {mi : SM (List A)} {mb : SM Fl} {mc : SM Bool} {pos : Pos}
theorem pms_for (hpn : ∀ k ∈ t.slots, pn ≤ k) (hp : PassesOwn (model X.prog X.w) X.A X.env X.xe) (hc : X.calm = true) (hi : PMI X tg iter mi) (hg : PGM X tg t) (hb : PMB pn X body mb)
    (hs : ∀ x, foldedSetIterable iter X.env x = pure x := by intro _; rfl) : PMS pn X (.For tg iter body [] pos) (sFor t mi mb) := PS.weak (ps_for hp hc hi hg hb hs) fun D σ H h => by
  obtain ⟨o, T, sa, f, sa', e, S, q⟩ := h
  obtain ⟨its, s1, e1, e2⟩ := bnd_some e
  refine ⟨o, T, sa, its, s1, e1, S, fun o1 H1 J L1 S1 W => ?_⟩
  refine ⟨fun i m σ2 H => m = its.length - i ∧ i ≤ its.length ∧ ∃ o2 s2, Le o1 H1 o2 H ∧ Keep pn σ σ2 ∧ SRel X.K o2 T s2 σ2 H ∧ forL t mb (its.drop i) s2 = some (f, sa'), ⟨its.length, by simp, Nat.zero_le _, o1, s1, Le.refl, Keep.refl, S1, e2⟩, ?_⟩
  rintro i m σ2 H2 ⟨rfl, hi, o2, s2, L2, k2, S2, e2⟩
  obtain ⟨w1, w2⟩ := W o2 H2 L2
  by_cases hlt : i < its.length
  · have ea : its[i]? = some its[i] := List.getElem?_eq_getElem hlt
    obtain ⟨go, yl⟩ := w2 i _ ea
    have ed : its.drop i = its[i] :: its.drop (i + 1) := (List.drop_eq_getElem_cons hlt)
    rw [ed] at e2
    unfold forL at e2
    split at e2
    · rename_i s3 e3
      refine .inr ⟨go, fun σ' H' => ∃ o3 s4, Le o2 H2 o3 H' ∧ Keep pn σ2 σ' ∧ SRel X.K o3 T s4 σ' H' ∧ forL t mb (its.drop (i + 1)) s4 = some (f, sa'), fun σ' H' ⟨o3, s4, L3, k3, S3, e4⟩ => ⟨_, by omega, rfl, hlt, o3, s4, L2.trans L3, k2.trans k3, S3, e4⟩, fun x H3 y => ?_⟩
      obtain ⟨same, rx⟩ := yl x H3 y
      obtain ⟨S3, L3⟩ := SRel.yld S2 same
      refine putI_ok S3 rx e3 fun o4 σ4 a4 L4 S4 => ?_
      have k4 := a4.keep hpn
      split at e2
      · rename_i s5 e5
        exact ⟨o4, T, s3, _, _, e5, S4, fun o6 σ6 H6 L6 k6 S6 => ⟨o6, _, (L3.trans L4).trans L6, k4.trans k6, S6, e2⟩⟩
      · rename_i s5 e5
        exact ⟨o4, T, s3, _, _, e5, S4, fun o6 σ6 H6 L6 k6 S6 => ⟨o6, _, (L3.trans L4).trans L6, k4.trans k6, S6, e2⟩⟩
      · rename_i s5 e5
        cases e2
        exact ⟨o4, T, s3, _, _, e5, S4, fun o6 σ6 H6 L6 k6 => q o6 σ6 H6 ((((L1.trans L2).trans L3).trans L4).trans L6) ((k2.trans k4).trans k6)⟩
      · rename_i fl v s5 e5
        cases e2
        exact ⟨o4, T, s3, _, _, e5, S4, fun o6 σ6 H6 L6 k6 => q o6 σ6 H6 ((((L1.trans L2).trans L3).trans L4).trans L6) ((k2.trans k4).trans k6)⟩
      · cases e2
    · cases e2
  · have ei : i = its.length := by omega
    subst ei
    rw [List.drop_length] at e2
    cases e2
    exact .inl ⟨w1, q o2 σ2 H2 (L1.trans L2) k2 S2⟩
theorem pms_while (hp : PassesOwn (model X.prog X.w) X.A X.env X.xe) (hc : PMT X c mc) (hb : PMB pn X body mb) : PMS pn X (.While c body [] pos) (sWhile mc mb) := PS.weak (ps_while hp hc hb) fun D σ H h => by
  obtain ⟨o, T, sa, f, sa', e, S, q⟩ := h
  unfold sWhile at e
  split at e
  · rename_i h
    have hw : ∃ n, whileN mc mb n sa = some (f, sa') := ⟨_, (Option.some.inj e) ▸ h.choose_spec.choose_spec⟩
    obtain ⟨n, hw⟩ := hw
    refine ⟨fun m σ2 H2 => ∃ o2 s2, Le o H o2 H2 ∧ Keep pn σ σ2 ∧ SRel X.K o2 T s2 σ2 H2 ∧ whileN mc mb m s2 = some (f, sa'), ⟨n, o, sa, Le.refl, Keep.refl, S, hw⟩, ?_⟩
    rintro m σ2 H2 ⟨o2, s2, L2, k2, S2, e2⟩
    cases m with
    | zero => cases e2
    | succ m =>
      unfold whileN at e2
      split at e2
      · rename_i s3 e3
        refine ⟨o2, T, s2, true, s3, e3, S2, fun o3 H3 L3 S3 => iteT ?_⟩
        refine ⟨fun σ' H' => ∃ o4 s4, Le o H o4 H' ∧ Keep pn σ σ' ∧ SRel X.K o4 T s4 σ' H' ∧ whileN mc mb m s4 = some (f, sa'), fun σ' H' h => ⟨m, by omega, h⟩, ?_⟩
        split at e2
        · rename_i s5 e5
          exact ⟨o3, T, s3, _, _, e5, S3, fun o6 σ6 H6 L6 k6 S6 => ⟨o6, _, (L2.trans L3).trans L6, k2.trans k6, S6, e2⟩⟩
        · rename_i s5 e5
          exact ⟨o3, T, s3, _, _, e5, S3, fun o6 σ6 H6 L6 k6 S6 => ⟨o6, _, (L2.trans L3).trans L6, k2.trans k6, S6, e2⟩⟩
        · rename_i s5 e5
          cases e2
          exact ⟨o3, T, s3, _, _, e5, S3, fun o6 σ6 H6 L6 k6 => q o6 σ6 H6 ((L2.trans L3).trans L6) (k2.trans k6)⟩
        · rename_i fl v s5 e5
          cases e2
          exact ⟨o3, T, s3, _, _, e5, S3, fun o6 σ6 H6 L6 k6 => q o6 σ6 H6 ((L2.trans L3).trans L6) (k2.trans k6)⟩
        · cases e2
      · rename_i s3 e3
        cases e2
        exact ⟨o2, T, s2, false, _, e3, S2, fun o3 H3 L3 S3 => iteF (q o3 σ2 H3 (L2.trans L3) k2 S3)⟩
      · cases e2
  · cases e
theorem whileN_mono {c : SM Bool} {b : SM Fl} : ∀ {n m : Nat} {sa : List Slot} {r : Fl × List Slot}, whileN c b n sa = some r → n ≤ m → whileN c b m sa = some r
  | 0, _, _, _, e, _ => by cases e
  | n + 1, 0, _, _, _, h => by omega
  | n + 1, m + 1, sa, r, e, h => by
    have ih := fun s2 => @whileN_mono c b n m s2 r
    unfold whileN at e ⊢
    cases e1 : c sa with
    | none => rw [e1] at e; cases e
    | some p =>
      obtain ⟨k, s1⟩ := p
      rw [e1] at e
      cases k with
      | false => exact e
      | true =>
        dsimp only at e ⊢
        cases e2 : b s1 with
        | none => rw [e2] at e; cases e
        | some p =>
          obtain ⟨f, s2⟩ := p
          rw [e2] at e
          cases f with
          | nx => exact ih s2 e (by omega)
          | ct => exact ih s2 e (by omega)
          | bk => exact e
          | rt fl v => exact e
theorem sWhile_of {c : SM Bool} {b : SM Fl} {n : Nat} {sa : List Slot} {r : Fl × List Slot} (h : whileN c b n sa = some r) : sWhile c b sa = some r := by
  unfold sWhile
  have ex : ∃ n r, whileN c b n sa = some r := ⟨n, r, h⟩
  rw [dif_pos ex]
  have hw := ex.choose_spec.choose_spec
  have h1 := whileN_mono h (Nat.le_max_left n ex.choose)
  have h2 := whileN_mono hw (Nat.le_max_right n ex.choose)
  rw [h1] at h2
  exact congrArg some (Option.some.inj h2).symm
end
end MM
namespace MM
open PySem PySem.Spec PyProof.Rows L2

/-! ### comprehensions -/
def wipeA : List Nat → List Slot → List Slot
  | [], sa => sa
  | j :: js, sa => (wipeA js sa).set j none
def restA : List Nat → List Slot → List Slot → List Slot
  | [], _, sa => sa
  | j :: js, s0, sa => match s0[j]? with
    | some (some (false, a)) => (restA js s0 sa).set j (some (false, a))
    | _ => restA js s0 sa
def compL (ws : List Nat) (t : Tg) (tt : SM Bool) (te : SM R) : List A → A → SM A
  | [], l => ret l
  | a :: r, l => fun sa => match putI t a sa with
    | some s1 => match tt s1 with
      | some (true, s2) => match te s2 with
        | some (r1, s3) => match od r1 s3 with
          | some y => match appA l y with
            | some l' => compL ws t tt te r l' (wipeA ws s3)
            | none => none
          | none => none
        | none => none
      | some (false, s2) => compL ws t tt te r l (wipeA ws s2)
      | none => none
    | none => none
def mComp (ws : List Nat) (mi : SM (List A)) (t : Tg) (tt : SM Bool) (te : SM R) : SM R := fun sa => match mi sa with
  | some (its, s1) => match compL ws t tt te its (.ls []) (wipeA ws s1) with
    | some (l, s2) => some (fin l, restA ws s1 s2)
    | none => none
  | none => none
section
variable {K : PySem.W.Frag} {H : Hp} {o : List Addr} {T : Tmp} {sa : List Slot} {σ : L2.St}
/-- slots that are not known may hold anything -/
theorem SRel.any {σ2 : L2.St} (S : SRel K o T sa σ H) (hl : σ.length = σ2.length) (h : ∀ i : Nat, sa[i]? = some none ∨ σ[i]? = σ2[i]?) : SRel K o T sa σ2 H := by
  refine ⟨S.len.trans hl, fun i fl a e => ?_, ?_, S.nd⟩
  · obtain ⟨w, e1, q⟩ := S.sl i fl a e
    rcases h i with z | z
    · rw [e] at z; cases z
    · exact ⟨w, z ▸ e1, q⟩
  · have : ownVs sa σ2 = ownVs sa σ := by
      unfold ownVs
      apply List.ext_getElem?
      intro i
      rw [List.getElem?_zipWith, List.getElem?_zipWith]
      rcases h i with z | z
      · rw [z]
        have hi : i < sa.length := (List.getElem?_eq_some_iff.mp z).1
        have h1 : i < σ.length := by rw [← S.len]; exact hi
        have h2 : i < σ2.length := by rw [← hl]; exact h1
        rw [List.getElem?_eq_getElem h1, List.getElem?_eq_getElem h2]
        rfl
      · rw [z]
    rw [this]
    exact S.own
/-- a slot is forgotten -/
theorem SRel.forget {j : Nat} (S : SRel K o T sa σ H) : ∃ o', SRel K o' T (sa.set j none) σ H ∧ (∀ b, b ∈ o' → b ∈ o) := by
  by_cases hj : j < sa.length
  · cases q : sa[j] with
    | none =>
      have : sa.set j none = sa := by
        apply List.ext_getElem?
        intro i
        by_cases e : i = j
        · subst e
          rw [List.getElem?_set_self hj, List.getElem?_eq_getElem hj, q]
        · rw [List.getElem?_set_ne (Ne.symm e)]
      rw [this]
      exact ⟨o, S, fun _ h => h⟩
    | some p =>
      have e : sa[j]? = some (some p) := by rw [List.getElem?_eq_getElem hj, q]
      obtain ⟨w, e1, _⟩ := S.sl j p.1 p.2 e
      obtain ⟨fi, o', _, S', sub, _⟩ := SRel.out S e e1
      exact ⟨o', S', sub⟩
  · rw [List.set_eq_of_length_le (by omega)]
    exact ⟨o, S, fun _ h => h⟩
theorem wipeA_len : ∀ {ws : List Nat} {sa : List Slot}, (wipeA ws sa).length = sa.length
  | [], _ => rfl
  | j :: js, sa => by unfold wipeA; rw [List.length_set, wipeA_len]
theorem SRel.wiped : ∀ {ws : List Nat} {o : List Addr}, SRel K o T sa σ H → ∃ o', SRel K o' T (wipeA ws sa) σ H ∧ (∀ b, b ∈ o' → b ∈ o)
  | [], o, S => ⟨o, S, fun _ h => h⟩
  | j :: js, o, S => by
    obtain ⟨o1, S1, h1⟩ := SRel.wiped (ws := js) S
    obtain ⟨o2, S2, h2⟩ := SRel.forget (j := j) S1
    exact ⟨o2, S2, fun b h => h1 b (h2 b h)⟩
theorem wipeA_in : ∀ {ws : List Nat} {sa : List Slot} {i : Nat}, i ∈ ws → i < sa.length → (wipeA ws sa)[i]? = some none
  | j :: js, sa, i, h, hl => by
    unfold wipeA
    by_cases e : i = j
    · subst e
      exact List.getElem?_set_self (by rw [wipeA_len]; exact hl)
    · rw [List.getElem?_set_ne (Ne.symm e)]
      exact wipeA_in ((List.mem_cons.mp h).resolve_left e) hl
theorem SRel.wipedS {ws : List Nat} (S : SRel K o T sa σ H) : ∃ o', SRel K o' T (wipeA ws sa) (wipe σ ws) H ∧ (∀ b, b ∈ o' → b ∈ o) := by
  obtain ⟨o1, S1, h1⟩ := SRel.wiped (ws := ws) S
  refine ⟨o1, S1.any (wipe_length σ ws).symm fun i => ?_, h1⟩
  by_cases hi : i ∈ ws
  · by_cases hl : i < sa.length
    · exact .inl (wipeA_in hi hl)
    · refine .inr ?_
      rw [List.getElem?_eq_none (by rw [← S.len]; omega), List.getElem?_eq_none (by rw [wipe_length, ← S.len]; omega)]
  · exact .inr (wipe_out hi).symm
theorem wipe_eq {ws : List Nat} {σ σ2 : L2.St} (h : wipe σ ws = wipe σ2 ws) {i : Nat} (hi : i ∉ ws) : σ[i]? = σ2[i]? := by
  rw [← wipe_out hi, ← wipe_out (σ := σ2) hi, h]
theorem wipe_len {ws : List Nat} {σ σ2 : L2.St} (h : wipe σ ws = wipe σ2 ws) : σ.length = σ2.length := by
  rw [← wipe_length σ ws, ← wipe_length σ2 ws, h]
theorem wipe_setAt {ws is : List Nat} {σ σ2 : L2.St} (a : SetAt is σ σ2) (h : ∀ i ∈ is, i ∈ ws) : wipe σ2 ws = wipe σ ws := by
  have none_in : ∀ {ws : List Nat} {σ : L2.St} {i : Nat}, i ∈ ws → i < σ.length → (wipe σ ws)[i]? = some none := by
    intro ws
    induction ws with
    | nil => intro σ i h; cases h
    | cons j js ih =>
      intro σ i h hl
      unfold wipe
      by_cases e : i = j
      · subst e
        exact List.getElem?_set_self (by rw [wipe_length]; exact hl)
      · rw [List.getElem?_set_ne (Ne.symm e)]
        exact ih ((List.mem_cons.mp h).resolve_left e) hl
  apply List.ext_getElem?
  intro i
  by_cases hi : i ∈ ws
  · by_cases hl : i < σ.length
    · rw [none_in hi (by rw [a.1]; exact hl), none_in hi hl]
    · rw [List.getElem?_eq_none (by rw [wipe_length, a.1]; omega), List.getElem?_eq_none (by rw [wipe_length]; omega)]
  · rw [wipe_out hi, wipe_out hi]
    exact a.2 i fun z => hi (h i z)
/-- back in the def's own slots -/
theorem SRel.back {ws : List Nat} {σ2 : L2.St} (S : SRel K o T sa σ2 H) (hw : ∀ i ∈ ws, i < sa.length → sa[i]? = some none) (h : wipe σ2 ws = wipe σ ws) : SRel K o T sa σ H := S.any (wipe_len h) fun i => by
  by_cases hi : i ∈ ws
  · by_cases hl : i < sa.length
    · exact .inl (hw i hi hl)
    · refine .inr ?_
      rw [List.getElem?_eq_none (by rw [← S.len]; omega), List.getElem?_eq_none (by rw [← wipe_len h, ← S.len]; omega)]
  · exact .inr (wipe_eq h hi)
theorem restA_len : ∀ {ws : List Nat} {s0 sa : List Slot}, (restA ws s0 sa).length = sa.length
  | [], _, _ => rfl
  | j :: js, s0, sa => by
    unfold restA
    split
    · rw [List.length_set, restA_len]
    · exact restA_len
theorem SRel.rest {s0 : List Slot} (hl : s0.length = sa.length) (sl0 : ∀ (i : Nat) fl a, s0[i]? = some (some (fl, a)) → ∃ v, σ[i]? = some (some v) ∧ (fl = false → RepS K H o a v)) :
    ∀ {ws : List Nat}, SRel K o T sa σ H → ∃ o', SRel K o' T (restA ws s0 sa) σ H ∧ (∀ b, b ∈ o' → b ∈ o)
  | [], S => ⟨o, S, fun _ h => h⟩
  | j :: js, S => by
    obtain ⟨o1, S1, h1⟩ := SRel.rest hl sl0 (ws := js) S
    unfold restA
    split
    · rename_i a e
      obtain ⟨v, ev, q⟩ := sl0 j false a e
      have hj : j < (restA js s0 sa).length := by rw [restA_len, ← hl]; exact (List.getElem?_eq_some_iff.mp e).1
      obtain ⟨o2, S2, L2⟩ := SRel.put (fl := false) (a := a) (v := v) (T := T) S1 (RepS.sub h1 (q rfl)) hj
      have e3 : σ.set j (some v) = σ := by
        apply List.ext_getElem?
        intro i
        by_cases e : i = j
        · subst e
          rw [List.getElem?_set_self (List.getElem?_eq_some_iff.mp ev).1, ev]
        · rw [List.getElem?_set_ne (Ne.symm e)]
      rw [e3] at S2
      refine ⟨o2, S2, fun b hb => ?_⟩
      obtain ⟨u, eu, _⟩ := S2.mut b hb
      by_cases z : b ∈ o1
      · exact h1 b z
      · exact ((L2 b u eu z).2 hb).elim
    · exact ⟨o1, S1, h1⟩
/-- the list on top grows -/
theorem SRel.grow {l l' a : A} {D : Addr} {fa : List Addr} {y : V} (S : SRel K o ((l, .ref D) :: T) sa σ H) (ra : Rep K H a y fa) (nd : (fa ++ o).Nodup) (e : appA l a = some l')
    (sl : ∀ (i : Nat) fl a, sa[i]? = some (some (fl, a)) → ∃ v, σ[i]? = some (some v) ∧ (fl = false → RepS K H (fa ++ o) a v)) :
    ∃ acc o', H D = some (.lst acc) ∧ acc.length < sizeLine ∧ SRel K o' ((l', .ref D) :: T) sa σ (upd H D (.lst (acc ++ [y]))) ∧ Le (fa ++ o) H o' (upd H D (.lst (acc ++ [y]))) := by
  obtain ⟨fD, o2, rfl, rD, S2⟩ := SRel.top S
  have ndD := (List.nodup_append.mp S.nd).1
  have nda := (List.nodup_append.mp nd).1
  have dj : ∀ b ∈ fa, b ∉ fD := fun b hb z => (List.nodup_append.mp nd).2.2 b hb b (List.mem_append_left _ z) rfl
  obtain ⟨p, ys, ep, hp, hz, mp, r', nd'⟩ := appA_ok rD ra e ndD nda dj
  cases ep
  have same : ∀ b u, H b = some u → b ≠ D → (upd H D (.lst (ys ++ [y]))) b = some u := fun b u e n => by rw [upd_ne n]; exact e
  have imm : ∀ b u, H b = some u → isMut u = false → (upd H D (.lst (ys ++ [y]))) b = some u := fun b u e m => same b u e fun z => by
    subst z
    rw [hp] at e
    cases e
    cases m
  have n2 : ∀ b ∈ o2, b ≠ D := fun b hb z => (List.nodup_append.mp S.nd).2.2 D mp b hb z.symm
  have ndn : ((fD ++ fa) ++ o2).Nodup := by
    have := (List.perm_append_comm_assoc fa fD o2).nodup nd
    rw [List.append_assoc]
    exact this
  refine ⟨ys, (fD ++ fa) ++ o2, hp, hz, ⟨S.len, fun i fl a e => ?_, Reps.cons r' (S2.own.mono imm fun b hb u e => same b u e (n2 b hb)), ndn⟩, fun b u e n => ?_⟩
  · obtain ⟨w, e1, q⟩ := sl i fl a e
    refine ⟨w, e1, fun z => ?_⟩
    obtain ⟨fp, r, n⟩ := q z
    exact ⟨fp, r.mono imm fun b hb u e => same b u e fun z => n b hb (by simp [z, mp]), fun b hb z => n b hb (by
      simp only [List.mem_append] at z ⊢
      rcases z with (z | z) | z
      · exact .inr (.inl z)
      · exact .inl z
      · exact .inr (.inr z))⟩
  · have nD : b ≠ D := fun z => n (by simp [z, mp])
    exact ⟨same b u e nD, fun z => n (by
      simp only [List.mem_append] at z ⊢
      rcases z with (z | z) | z
      · exact .inr (.inl z)
      · exact .inl z
      · exact .inr (.inr z))⟩
end
/-- the tests of a clause -/
abbrev PMTs (X : Cx) (ifs : List Expr) (tt : SM Bool) : Prop := PTs X ifs (tOfT X.K tt)
theorem PTs.weak {X : Cx} {e : List Expr} {t u : TT} (h : PTs X e t) (w : ∀ σ H Q, u σ H Q → t σ H Q) : PTs X e u := ⟨fun pins s σ H Q I q => h.run pins s σ H Q I (w σ H Q q)⟩
def tYesM : SM Bool := ret true
theorem pmts_nil {X : Cx} : PMTs X [] tYesM := PTs.weak pts_nil fun σ H Q h => by
  obtain ⟨o, T, sa, k, sa', e, S, q⟩ := h
  cases e
  exact q o H Le.refl S
theorem pmts_one {X : Cx} {c : Expr} {t : SM Bool} (h : PMT X c t) : PMTs X [c] t := pts_one h
section
variable {X : Cx}
theorem SRel.newL {K : PySem.W.Frag} {H : Hp} {o : List Addr} {T : Tmp} {sa : List Slot} {σ : L2.St} {D : Addr} (S : SRel K o T sa σ H) (hD : H D = none) : SRel K ([D] ++ o) ((.ls [], .ref D) :: T) sa σ (upd H D (.lst [])) ∧ Le o H ([D] ++ o) (upd H D (.lst [])) := by
  have r : Rep K (upd H D (.lst [])) (.ls []) (.ref D) [D] := rep_ls (by unfold RepDs; rfl) hD
  obtain ⟨h1, h2, _⟩ := SRel.fresh S (Fresh.one hD) r
  exact ⟨h1, h2⟩
theorem lc_ok {wi : SM (List A)} {t : Tg} {tt : SM Bool} {te : SM R} {ws : List Nat} (hws : ∀ i ∈ t.slots, i ∈ ws) {σ : L2.St} {H : Hp} {Q : VK} (h : tOf X.K (mComp ws wi t tt te) σ H Q) :
    tLc (tOfI X.K wi) (t.rd X.K) (tOfT X.K tt) (tOf X.K te) ws σ H Q := by
  obtain ⟨o, T, sa, r, sa', e, S, q⟩ := h
  unfold mComp at e
  split at e
  · rename_i its s1 ei
    split at e
    · rename_i lf sf ec
      cases e
      refine ⟨o, T, sa, its, s1, ei, S, fun o1 H1 J L1 S1 W D hD => ?_⟩
      obtain ⟨o2, S2, sub2⟩ := SRel.wipedS (ws := ws) S1
      obtain ⟨S3, L3⟩ := SRel.newL S2 hD
      have L13 : Le o1 H1 ([D] ++ o2) (upd H1 D (.lst [])) := (Le.sub sub2).trans L3
      refine ⟨fun i m H => m = its.length - i ∧ i ≤ its.length ∧ ∃ o4 s4 l, Le o1 H1 o4 H ∧ SRel X.K o4 ((l, .ref D) :: T) s4 (wipe σ ws) H ∧ s4.length = s1.length ∧ (∀ i ∈ ws, i < s4.length → s4[i]? = some none) ∧ compL ws t tt te (its.drop i) l s4 = some (lf, sf),
        ⟨its.length, by simp, Nat.zero_le _, _, _, .ls [], L13, S3, wipeA_len, fun i hi hl => wipeA_in hi (by rw [wipeA_len] at hl; exact hl), ec⟩, ?_⟩
      rintro i m H4 ⟨rfl, hi, o4, s4, l, L4, S4, len4, none4, e4⟩
      obtain ⟨w1, w2⟩ := W o4 H4 L4
      by_cases hlt : i < its.length
      · have ea : its[i]? = some its[i] := List.getElem?_eq_getElem hlt
        obtain ⟨go, yl⟩ := w2 i _ ea
        have ed : its.drop i = its[i] :: its.drop (i + 1) := List.drop_eq_getElem_cons hlt
        rw [ed] at e4
        unfold compL at e4
        split at e4
        · rename_i s5 e5
          refine .inr ⟨go, fun H' => ∃ o6 s6 l6, Le o4 H4 o6 H' ∧ SRel X.K o6 ((l6, .ref D) :: T) s6 (wipe σ ws) H' ∧ s6.length = s1.length ∧ (∀ i ∈ ws, i < s6.length → s6[i]? = some none) ∧ compL ws t tt te (its.drop (i + 1)) l6 s6 = some (lf, sf),
            fun H' ⟨o6, s6, l6, L6, S6, z1, z2, z3⟩ => ⟨_, by omega, rfl, hlt, o6, s6, l6, L4.trans L6, S6, z1, z2, z3⟩, fun x H5 y => ?_⟩
          obtain ⟨same, rx⟩ := yl x H5 y
          obtain ⟨S5, L5⟩ := SRel.yld S4 same
          refine putI_ok S5 rx e5 fun o6 σ6 a6 L6 S6 => ⟨?_, ?_⟩
          · have hh := wipe_setAt a6 hws
            rw [hh]
            exact wipe_setAt ⟨(wipe_length σ ws), fun i hi => wipe_out hi⟩ (fun i hi => hi)
          · have hw6 : wipe σ6 ws = wipe σ ws := by
              have hh := wipe_setAt a6 hws
              rw [hh]
              exact wipe_setAt ⟨(wipe_length σ ws), fun i hi => wipe_out hi⟩ (fun i hi => hi)
            have back : ∀ {o9 : List Addr} {s9 : List Slot} {H9 : Hp} {l9 : A}, SRel X.K o9 ((l9, .ref D) :: T) s9 σ6 H9 → ∃ o10, SRel X.K o10 ((l9, .ref D) :: T) (wipeA ws s9) (wipe σ ws) H9 ∧ Le o9 H9 o10 H9 ∧ (wipeA ws s9).length = s1.length ∧ (∀ i ∈ ws, i < (wipeA ws s9).length → (wipeA ws s9)[i]? = some none) := fun {o9 s9 H9 l9} S9 => by
              obtain ⟨o10, S10, sub10⟩ := SRel.wipedS (ws := ws) S9
              rw [hw6] at S10
              refine ⟨o10, S10, Le.sub sub10, ?_, fun i hi hl => wipeA_in hi (by rw [wipeA_len] at hl; exact hl)⟩
              rw [S10.len, wipe_length, ← S1.len]
            split at e4
            · rename_i s7 e7
              refine ⟨o6, _, s5, true, s7, e7, S6, fun o7 H7 L7 S7 => ?_⟩
              refine iteT ?_
              split at e4
              · rename_i r8 s8 e8
                split at e4
                · rename_i y8 ey
                  split at e4
                  · rename_i l8 el
                    refine ⟨o7, _, s7, r8, s8, e8, S7, fun o8 v8 H8 L8 S8 R8 => ?_⟩
                    obtain ⟨f8, o9, ra, S9, rfl⟩ := od_one S8 R8 ey
                    obtain ⟨acc, o10, hD8, hz, S10, L10⟩ := SRel.grow S9 ra S8.nd el S8.sl
                    obtain ⟨o11, S11, L11, z1, z2⟩ := back S10
                    exact ⟨acc, hD8, hz, o11, _, l8, ((((L5.trans L6).trans L7).trans L8).trans L10).trans L11, S11, z1, z2, e4⟩
                  · cases e4
                · cases e4
              · cases e4
            · rename_i s7 e7
              refine ⟨o6, _, s5, false, s7, e7, S6, fun o7 H7 L7 S7 => ?_⟩
              refine iteF ?_
              obtain ⟨o11, S11, L11, z1, z2⟩ := back S7
              exact ⟨o11, _, l, ((L5.trans L6).trans L7).trans L11, S11, z1, z2, e4⟩
            · cases e4
        · cases e4
      · have ei : i = its.length := by omega
        subst ei
        rw [List.drop_length] at e4
        cases e4
        refine .inl ⟨w1, ?_⟩
        have S5 : SRel X.K o4 ((lf, .ref D) :: T) sf σ H4 := S4.back none4 (wipe_setAt ⟨(wipe_length σ ws), fun i hi => wipe_out hi⟩ (fun i hi => hi))
        obtain ⟨o6, S6, sub6⟩ := SRel.rest (s0 := s1) (by rw [len4]) (fun i fl a e => by
          obtain ⟨w, e1, q⟩ := S1.sl i fl a e
          exact ⟨w, e1, fun z => RepS.mono S1 L4 (q z)⟩) (ws := ws) S5
        obtain ⟨fl, ol, hol, rl, _⟩ := SRel.top S6
        cases lf with
        | d z =>
          -- a list is never data
          exfalso
          have rl' := repD_d rl
          have hne : ∀ {its : List A} {l lf : A} {s sf : List Slot}, compL ws t tt te its l s = some (lf, sf) → (∀ z, l ≠ .d z) → ∀ z, lf ≠ .d z := by
            intro its
            induction its with
            | nil => intro l lf s sf e h; cases e; exact h
            | cons a r ih =>
              intro l lf s sf e h
              unfold compL at e
              split at e
              · split at e
                · split at e
                  · split at e
                    · split at e
                      · rename_i l' el
                        refine ih e fun z hz => ?_
                        subst hz
                        unfold appA at el
                        split at el <;> (try split at el) <;> cases el
                      · cases e
                    · cases e
                  · cases e
                · exact ih e h
                · cases e
              · cases e
          exact hne ec (fun z h => nomatch h) z rfl
        | ls xs => exact q o6 _ H4 ((L1.trans L4).trans (Le.sub sub6)) S6 True.intro
        | lst xs => exact q o6 _ H4 ((L1.trans L4).trans (Le.sub sub6)) S6 True.intro
        | tpl xs => exact q o6 _ H4 ((L1.trans L4).trans (Le.sub sub6)) S6 True.intro
        | dd xs => exact q o6 _ H4 ((L1.trans L4).trans (Le.sub sub6)) S6 True.intro
    · cases e
  · cases e
theorem pm_lc {elt tg iter : Expr} {ifs : List Expr} {scope : Scope} {own : List (Str × Nat)} {pos : Pos} {wi : SM (List A)} {t : Tg} {tt : SM Bool} {te : SM R} (hc : X.calm = true) (hN : X.N.Nodup) (hi : PMI X tg iter wi) (ok : BlkOk X.N X.env.scope scope own) (hws : ∀ i ∈ t.slots, i ∈ own.map (·.2))
    (hg : ∀ (s : Shared) (H : Hp) (C : Addr) (cl : List (Str × Addr)) (fp : List Addr), PGM (X.blk s H scope (compEnvC scope cl C X.env) fp) tg t) (ht : ∀ (s : Shared) (H : Hp) (C : Addr) (cl : List (Str × Addr)) (fp : List Addr), PMTs (X.blk s H scope (compEnvC scope cl C X.env) fp) ifs tt)
    (he : ∀ (s : Shared) (H : Hp) (C : Addr) (cl : List (Str × Addr)) (fp : List Addr), PM (X.blk s H scope (compEnvC scope cl C X.env) fp) elt te) (hs : ∀ x, foldedSetIterable iter X.env x = pure x := by intro _; rfl) :
    PM X (.ListComp elt [⟨tg, iter, ifs, 0⟩] scope pos) (mComp (own.map (·.2)) wi t tt te) := PE.weak (pe_lc hc hN hi ok hg ht he hs) fun σ H Q h => lc_ok hws h
theorem pms_setLc {pn i : Nat} {y : Str} {py : Pos} {elt tg iter : Expr} {ifs : List Expr} {scope : Scope} {own : List (Str × Nat)} {pos spos : Pos} {wi : SM (List A)} {t : Tg} {tt : SM Bool} {te : SM R} (hpn : pn ≤ i) (hc : X.calm = true) (hN : X.N.Nodup) (hy : X.N[i]? = some y) (hyl : X.env.scope.names.lookup y = some .local)
    (hsw : swapsWith (.ListComp elt [⟨tg, iter, ifs, 0⟩] scope pos) (some (.Name y py)) spos.line X.env = pure true) (hi : PMI X tg iter wi) (ok : BlkOk X.N X.env.scope scope own) (hws : ∀ i ∈ t.slots, i ∈ own.map (·.2))
    (hg : ∀ (s : Shared) (H : Hp) (C : Addr) (cl : List (Str × Addr)) (fp : List Addr), PGM (X.blk s H scope (compEnvC scope cl C X.env) fp) tg t) (ht : ∀ (s : Shared) (H : Hp) (C : Addr) (cl : List (Str × Addr)) (fp : List Addr), PMTs (X.blk s H scope (compEnvC scope cl C X.env) fp) ifs tt)
    (he : ∀ (s : Shared) (H : Hp) (C : Addr) (cl : List (Str × Addr)) (fp : List Addr), PM (X.blk s H scope (compEnvC scope cl C X.env) fp) elt te) (hs : ∀ x, foldedSetIterable iter X.env x = pure x := by intro _; rfl) :
    PMS pn X (.Assign [.Name y py] (.ListComp elt [⟨tg, iter, ifs, 0⟩] scope pos) spos) (sSet i (mComp (own.map (·.2)) wi t tt te)) := PS.weak (ps_setLc hc hN hy hyl hsw hi ok hg ht he hs) fun D σ H h => by
  obtain ⟨o, T, sa, f, sa', e, S, q⟩ := h
  obtain ⟨r, s1, e1, e2⟩ := bnd_some e
  obtain ⟨⟨fl, a⟩, s2, eu, e3⟩ := bnd_some e2
  split at e3
  · rename_i hl
    cases e3
    refine lc_ok hws ⟨o, T, sa, r, s1, e1, S, fun o1 v H1 L1 S1 R1 => ?_⟩
    obtain ⟨o2, S2, L2, R2, _⟩ := bnd_use S1 R1 eu
    obtain ⟨o3, S3, L3⟩ := SRel.put S2 R2 hl
    exact q o3 _ H1 ((L1.trans L2).trans L3) (Keep.set hpn) S3
  · cases e3
end
end MM
namespace MM
open PySem PySem.Spec PyProof.Rows L2

/-! ### a def as a function -/
def initS (N : Nat) (as : List A) : List Slot := as.map (fun a => some (false, a)) ++ List.replicate (N - as.length) none
def endF : Option (Fl × List Slot) → Option A
  | some (.nx, _) => some (.d .non)
  | some (.rt _ (.d x), _) => some (.d x)
  | some (.rt true a, _) => some a
  | _ => none
/-- the value of a def with N names and the body m -/
def runF (N : Nat) (m : SM Fl) (as : List A) : Option A := endF (m (initS N as))
def initB (N : Nat) (b : A) (xs : List D) : List Slot := some (true, b) :: xs.map (fun x => some (false, .d x)) ++ List.replicate (N - (xs.length + 1)) none
def endB : Option (Fl × List Slot) → Option (D × A)
  | some (.nx, some (true, b) :: _) => some (.non, b)
  | some (.rt _ (.d x), some (true, b) :: _) => some (x, b)
  | _ => none
/-- .. of a def that changes its first argument -/
def runB (N : Nat) (m : SM Fl) (b : A) (xs : List D) : Option (D × A) := endB (m (initB N b xs))
section
variable {K : PySem.W.Frag} {H : Hp}
theorem init_rel {as : List A} {vs : List V} {fp : List Addr} {N : List Str} (h : Reps K H as vs fp) : SRel K [] [] (initS N.length as) (start N vs) H := by
  have hl := h.len
  refine ⟨by simp [initS, L2.start, hl], fun i fl a e => ?_, ?_, List.nodup_nil⟩
  · unfold initS at e
    by_cases hi : i < as.length
    · rw [List.getElem?_append_left (by simpa using hi), List.getElem?_map, List.getElem?_eq_getElem hi] at e
      cases e
      obtain ⟨y, g, ey, ry, _⟩ := h.get (List.getElem?_eq_getElem hi)
      refine ⟨y, ?_, fun _ => ⟨g, ry, fun _ _ h => nomatch h⟩⟩
      unfold L2.start
      rw [List.getElem?_append_left (by simp [← hl, hi]), List.getElem?_map, ey]
      rfl
    · rw [List.getElem?_append_right (by simpa using Nat.le_of_not_lt hi)] at e
      rw [List.getElem?_replicate] at e
      split at e <;> cases e
  · have e1 : ∀ (as : List A) (n : Nat), (as.map (fun a => (some (false, a) : Slot)) ++ List.replicate n none).map ownA = List.replicate (as.length + n) (.d .non) := fun as n => by
      induction as with
      | nil => simp [ownA]
      | cons a r ih =>
        simp only [List.map_cons, List.cons_append, List.length_cons]
        rw [ih, show r.length + 1 + n = (r.length + n) + 1 by omega, List.replicate_succ]
        rfl
    have e2 : ∀ (sa : List Slot) (σ : L2.St), sa.length = σ.length → (∀ s ∈ sa, ∀ a, s ≠ some (true, a)) → ownVs sa σ = List.replicate sa.length .non := fun sa => by
      induction sa with
      | nil =>
        intro σ hl _
        cases σ with
        | nil => rfl
        | cons _ _ => cases hl
      | cons s r ih =>
        intro σ hl hn
        cases σ with
        | nil => cases hl
        | cons w σ =>
          show ownV s w :: ownVs r σ = _
          rw [ih σ (by simpa using hl) (fun s hs => hn s (List.mem_cons_of_mem _ hs)), List.length_cons, List.replicate_succ]
          congr 1
          have := hn s List.mem_cons_self
          unfold ownV
          split
          · exact (this _ rfl).elim
          · rfl
    have e3 : ∀ n : Nat, Reps K H (List.replicate n (.d .non)) (List.replicate n .non) [] := fun n => by
      induction n with
      | zero => exact Reps.nil
      | succ n ih =>
        rw [List.replicate_succ, List.replicate_succ]
        exact Reps.cons rep_non ih
    show Reps K H ([] ++ (initS N.length as).map ownA) ([] ++ ownVs (initS N.length as) (start N vs)) []
    rw [List.nil_append, List.nil_append]
    unfold initS
    rw [e1, e2]
    · have : (as.map (fun a => (some (false, a) : Slot)) ++ List.replicate (N.length - as.length) none).length = as.length + (N.length - as.length) := by simp
      rw [this]
      exact e3 _
    · simp [L2.start, hl]
    · intro s hs a
      rcases List.mem_append.mp hs with hs | hs
      · obtain ⟨x, _, rfl⟩ := List.mem_map.mp hs
        exact fun z => nomatch z
      · obtain ⟨_, rfl⟩ := List.mem_replicate.mp hs
        exact fun z => nomatch z
theorem Fresh.of {H H' : Hp} {o : List Addr} (L : Le [] H o H') (nd : o.Nodup) : Fresh H H' o := ⟨fun b u e => (L b u e (fun h => nomatch h)).1, nd, fun b hb => by
  cases e : H b with
  | none => rfl
  | some u => exact ((L b u e (fun h => nomatch h)).2 hb).elim⟩
end
section
variable {P : Program} {w : World} {K : PySem.W.Frag} {mg : Str → Option Value} {base : Heap}
theorem fn_ok {x qual : Str} {st : Stmt} {f : Addr} {fd : FuncData} {N ps : List Str} {k : Nat} {m : SM Fl} (F : Fun K x qual st f fd) (S : FnScope N ps (defScope st))
    (hb : ∀ (cdv : Value) (A : Around) (outer : List Env) (s : Shared) (H : Hp), Room k (A.deeper (envOfC qual (defScope st) s.heap.objs.size f cdv)) → ∀ E, PMB 0 (cxOf CX0 P w K mg base N qual (defScope st) f cdv A outer s H E).nox (defBody st) m) :
    FnOk P w K mg base CX0 (k + 1) f fd ps (spF K ps.length (runF N.length m)) := by
  refine F.ok S (fun vs H Q E h => ?_) fun cdv A outer s H vs Q E hr h => ?_
  · obtain ⟨as, fp, c, hl, r, _⟩ := h
    rw [← hl, r.len]
  · obtain ⟨as, fp, c, hl, r, e, q⟩ := h
    refine ⟨_, hb cdv A outer s H hr E, ?_⟩
    have S0 := init_rel (N := N) r
    unfold runF at e
    cases em : m (initS N.length as) with
    | none => rw [em] at e; cases e
    | some p =>
      obtain ⟨fl, sa'⟩ := p
      rw [em] at e
      refine ⟨[], [], _, fl, sa', em, S0, fun o' σ' H' L _ => ?_⟩
      cases fl with
      | nx =>
        cases e
        intro S1
        exact q _ H' [] (Fresh.of (fun b u e n => ⟨(L b u e n).1, fun h => nomatch h⟩) List.nodup_nil) rep_non
      | bk => cases e
      | ct => cases e
      | rt own a =>
        intro v S1 R1
        cases a with
        | d z =>
          cases e
          have rz : RepD K H' z v := by
            cases own with
            | false =>
              obtain ⟨fp, r, _⟩ := R1
              exact repD_d r
            | true =>
              obtain ⟨f, o2, _, r, _⟩ := SRel.top S1
              exact repD_d r
          exact q v H' [] (Fresh.of (fun b u e n => ⟨(L b u e n).1, fun h => nomatch h⟩) List.nodup_nil) (rep_d rz)
        | _ =>
          cases own with
          | false => cases e
          | true =>
            cases e
            obtain ⟨g, o2, rfl, r, _⟩ := SRel.top S1
            exact q v H' g (Fresh.of (fun b u e n => ⟨(L b u e n).1, fun h => (L b u e n).2 (List.mem_append_left _ h)⟩) (List.nodup_append.mp S1.nd).1) r
theorem initB_rel {b : A} {v0 : V} {xs : List D} {vr : List V} {fb : List Addr} {H : Hp} {N : List Str} (hb : Rep K H b v0 fb) (nd : fb.Nodup) (h : RepDs K H xs vr) : SRel K fb [] (initB N.length b xs) (start N (v0 :: vr)) H := by
  have h0 := init_rel (N := N) (Reps.cons (rep_non (K := K) (H := H)) (Reps.ofData h))
  have hl : (initS N.length (.d .non :: xs.map .d)).length = (start N (.non :: vr)).length := h0.len
  have e0 : initS N.length (.d .non :: xs.map .d) = some (false, .d .non) :: (xs.map (fun x => (some (false, .d x) : Slot)) ++ List.replicate (N.length - (xs.length + 1)) none) := by
    simp [initS, Function.comp_def]
  have es : start N (.non :: vr) = some .non :: (vr.map some ++ List.replicate (N.length - (vr.length + 1)) none) := by simp [L2.start]
  have es2 : start N (v0 :: vr) = some v0 :: (vr.map some ++ List.replicate (N.length - (vr.length + 1)) none) := by simp [L2.start]
  have e2 : initB N.length b xs = some (true, b) :: (xs.map (fun x => (some (false, .d x) : Slot)) ++ List.replicate (N.length - (xs.length + 1)) none) := by simp [initB]
  have own0 := h0.own
  rw [e0, es] at own0
  have own0 : Reps K H (.d .non :: (xs.map (fun x => (some (false, .d x) : Slot)) ++ List.replicate (N.length - (xs.length + 1)) none).map ownA) (.non :: ownVs (xs.map (fun x => (some (false, .d x) : Slot)) ++ List.replicate (N.length - (xs.length + 1)) none) (vr.map some ++ List.replicate (N.length - (vr.length + 1)) none)) [] := own0
  unfold Reps at own0
  obtain ⟨y, r, f, g, e, efg, _, hr⟩ := own0
  cases e
  have : g = [] := (List.append_eq_nil_iff.mp efg.symm).2
  subst this
  refine ⟨?_, fun i fl a e => ?_, ?_, nd⟩
  · rw [e2, es2]
    rw [e0, es] at hl
    simpa using hl
  · rw [e2] at e
    rw [es2]
    cases i with
    | zero =>
      simp at e
      obtain ⟨rfl, rfl⟩ := e
      exact ⟨v0, rfl, fun z => nomatch z⟩
    | succ i =>
      have q := h0.sl (i + 1) fl a (by rw [e0]; simpa using e)
      rw [es] at q
      obtain ⟨v, ev, q⟩ := q
      refine ⟨v, by simpa using ev, fun z => ?_⟩
      obtain ⟨fp, rp, n⟩ := q z
      -- it is data
      have hd : ∃ x, a = .d x := by
        have e : (xs.map (fun x => (some (false, .d x) : Slot)) ++ List.replicate (N.length - (xs.length + 1)) none)[i]? = some (some (fl, a)) := by simpa using e
        have mem := List.mem_of_getElem? e
        rcases List.mem_append.mp mem with hs | hs
        · obtain ⟨x, _, hx⟩ := List.mem_map.mp hs
          cases hx
          exact ⟨x, rfl⟩
        · obtain ⟨_, hx⟩ := List.mem_replicate.mp hs
          cases hx
      obtain ⟨x, rfl⟩ := hd
      exact RepS.d (repD_d rp)
  · rw [e2, es2]
    show Reps K H (b :: _) (v0 :: _) fb
    have := Reps.cons hb hr
    rw [List.append_nil] at this
    exact this
theorem fnB_ok {x qual : Str} {st : Stmt} {f : Addr} {fd : FuncData} {N ps : List Str} {k : Nat} {m : SM Fl} (F : Fun K x qual st f fd) (S : FnScope N ps (defScope st)) (hN : 0 < N.length)
    (hb : ∀ (cdv : Value) (A : Around) (outer : List Env) (s : Shared) (H : Hp), Room k (A.deeper (envOfC qual (defScope st) s.heap.objs.size f cdv)) → ∀ E, PMB 1 (cxOf CX0 P w K mg base N qual (defScope st) f cdv A outer s H E).nox (defBody st) m) :
    FnOk P w K mg base CX0 (k + 1) f fd ps (spB K ps.length (runB N.length m)) := by
  refine F.ok S (fun vs H Q E h => ?_) fun cdv AA outer s H vs Q E hr h => ?_
  · obtain ⟨b, v0, xs, vr, fb, c, b', rfl, hl, _, _, r, _⟩ := h
    rw [← hl, r.len]
    rfl
  · obtain ⟨b, v0, xs, vr, fb, c, b', rfl, hl, rb, nd, r, e, q⟩ := h
    refine ⟨_, hb cdv AA outer s H hr E, ?_⟩
    have S0 := initB_rel (N := N) rb nd r
    have st0 : (start N (v0 :: vr))[0]? = some (some v0) := by simp [L2.start]
    unfold runB at e
    cases em : m (initB N.length b xs) with
    | none => rw [em] at e; cases e
    | some p =>
      obtain ⟨fl, sa'⟩ := p
      rw [em] at e
      refine ⟨fb, [], _, fl, sa', em, S0, fun o' σ' H' L kp => ?_⟩
      have k0 : σ'[0]? = some (some v0) := (kp 0 (by omega)).trans st0
      -- the first slot at the end
      have fin : ∀ {T : Tmp} {o2 : List Addr} {b2 : MM.A} {rest : List Slot} {z : D} {v : V}, sa' = some (true, b2) :: rest → SRel K o2 T sa' σ' H' → Le fb H o2 H' → c = z → b' = b2 → RepD K H' z v → Q v H' := fun {T o2 b2 rest z v} es S1 L1 ec eb rz => by
        subst es ec eb
        obtain ⟨fi, o3, ri, S2, sub, h1, _⟩ := SRel.out (j := 0) S1 rfl k0
        obtain ⟨_, nd1, mo⟩ := h1 rfl
        exact q v H' fi (fun b u e n => ⟨(L1 b u e n).1, fun z => (L1 b u e n).2 (mo b z)⟩) (List.nodup_append.mp nd1).1 rz ri
      unfold endB at e
      split at e
      · rename_i b2 rest heq
        cases heq
        cases e
        intro S1
        exact fin rfl S1 L rfl rfl repD_non
      · rename_i own z b2 rest heq
        cases heq
        cases e
        intro v S1 R1
        have rz : RepD K H' c v := by
          cases own with
          | false =>
            obtain ⟨fp, r, _⟩ := R1
            exact repD_d r
          | true =>
            obtain ⟨f, o2, _, r, _⟩ := SRel.top S1
            exact repD_d r
        exact fin rfl S1 L rfl rfl rz
      · cases e
/-- the law's own promise: over the script as a value that is not looked into -/
def spLaw (K : PySem.W.Frag) (n : Nat) (G : V → Prop) : Sp := fun vs H Q _ => ∃ (a : Addr) (ns : List Int), vs = [.ref a] ∧ SqL K H a (ns.map V.int) ∧ ns.length ≤ n ∧ (∀ H', Same H H' → Q (.bl true) H')
end
end MM
namespace MM
open PySem PySem.Spec PyProof.Rows L2

/-! ### xs[i] = e, the list in a slot, e data -/
def setA : MM.A → Int → D → Option MM.A
  | .ls xs, i, z => match ixN xs.length i with
    | some k => some (.ls (xs.set k z))
    | none => none
  | .lst xs, i, z => match ixN xs.length i with
    | some k => some (.lst (xs.set k (.d z)))
    | none => none
  | _, _, _ => none
def sSetIx (j : Nat) (mi me : SM R) : SM Fl := bnd me fun r s0 => if isL s0[j]? then bnd mi (fun ri sa => match rv r sa, rv ri sa, sa[j]? with
  | some (.d z), some (.d (.int i)), some (some (true, l)) => (setA l i z).map fun l' => (.nx, sa.set j (some (true, l')))
  | _, _, _ => none) s0 else none
section
variable {K : PySem.W.Frag} {H : Hp}
theorem RepDs.set {xs : List D} {ys : List V} {z : D} {y : V} (k : Nat) (h : RepDs K H xs ys) (hk : k < xs.length) (hz : RepD K H z y) : RepDs K H (xs.set k z) (ys.set k y) := by
  rw [set_parts hk, set_parts (by rw [← h.len]; exact hk)]
  refine (h.take k).append ?_
  unfold RepDs
  exact ⟨y, _, rfl, hz, h.drop (k + 1)⟩
end
theorem setA_ok {K : PySem.W.Frag} {H : Hp} {l l' : MM.A} {i : Int} {z : D} {v y : V} {fi : List Addr} (r : Rep K H l v fi) (rz : RepD K H z y) (e : setA l i z = some l') (nd : fi.Nodup) :
    ∃ p ys k fi', v = .ref p ∧ H p = some (.lst ys) ∧ ixN ys.length i = some k ∧ p ∈ fi ∧ Rep K (upd H p (.lst (ys.set k y))) l' v fi' ∧ fi'.Nodup ∧ ∀ b ∈ fi', b ∈ fi := by
  have imm : ∀ {p : Addr} {ys ys' : List V}, H p = some (.lst ys) → ∀ b u, H b = some u → isMut u = false → (upd H p (.lst ys')) b = some u := fun {p ys ys'} hp b u e m => by
    rw [upd_ne fun z => by
      subst z
      rw [hp] at e
      cases e
      cases m]
    exact e
  unfold setA at e
  split at e
  · rename_i xs
    split at e
    · rename_i k ek
      cases e
      obtain ⟨p, ys, rfl, s, rs, rfl⟩ := ls_of r
      have hk : k < xs.length := (ixN_seq ek).2.1
      rw [rs.len] at ek
      refine ⟨p, ys, k, [p], rfl, s, ek, by simp, ?_, by simp, fun b hb => hb⟩
      unfold Rep
      exact ⟨p, _, rfl, upd_same, RepDs.set k (rs.mono (imm s)) hk (rz.mono (imm s)), rfl⟩
    · cases e
  · rename_i xs
    split at e
    · rename_i k ek
      cases e
      obtain ⟨p, ys, g, rfl, s, rs, rfl⟩ := lst_of r
      have hk : k < xs.length := (ixN_seq ek).2.1
      have hky : k < ys.length := by rw [← rs.len]; exact hk
      obtain ⟨f1, f0, f2, rfl, r1, r2, r3⟩ := Reps.at rs (List.getElem?_eq_getElem hk) (List.getElem?_eq_getElem hky)
      rw [rs.len] at ek
      have np : ∀ b, b ∈ f1 ++ f0 ++ f2 → b ≠ p := fun b hb z => by
        subst z
        exact (List.nodup_cons.mp nd).1 hb
      have same : ∀ b, b ∈ f1 ++ f0 ++ f2 → ∀ u, H b = some u → (upd H p (.lst (ys.set k y))) b = some u := fun b hb u e => by
        rw [upd_ne (np b hb)]
        exact e
      refine ⟨p, ys, k, p :: (f1 ++ f2), rfl, s, ek, by simp, ?_, ?_, fun b hb => ?_⟩
      · unfold Rep
        refine ⟨p, _, f1 ++ f2, rfl, upd_same, ?_, rfl⟩
        have h1 := r2.mono (imm s) fun b hb => same b (by simp [hb])
        have h2 := r3.mono (imm s) fun b hb => same b (by simp [hb])
        have h3 := rep_d (rz.mono (imm (ys' := ys.set k y) s))
        generalize upd H p (.lst (ys.set k y)) = H' at h1 h2 h3
        rw [set_parts hk, set_parts hky]
        exact Reps.append h1 (Reps.cons h3 h2)
      · refine List.nodup_cons.mpr ⟨fun z => np p (by
          rcases List.mem_append.mp z with z | z <;> simp [z]) rfl, ?_⟩
        have n2 := (List.nodup_cons.mp nd).2
        rw [List.append_assoc] at n2
        have := (List.perm_append_comm_assoc f1 f0 f2).nodup n2
        exact (List.nodup_append.mp this).2.1
      · rcases List.mem_cons.mp hb with rfl | hb
        · simp
        · rcases List.mem_append.mp hb with hb | hb <;> simp [hb]
    · cases e
  · cases e
section
variable {pn : Nat} {X : Cx} {x : Str} {px pos tpos : Pos} {e i : Expr} {j : Nat} {me mi : SM R}
theorem pms_setIx (hx : PE X (.Name x px) (tVar j)) (hi : PM X i mi) (he : PM X e me) (ha : ∀ v, assign (.Subscript (.Name x px) i tpos) X.env v = (do
      let ov ← holding [v] (eval (.Name x px) X.env)
      let iv ← holding [v, ov] (eval i X.env)
      standAt tpos
      holding [v, ov, iv] (setItem ov iv v)
      release [v, ov, iv] []) := by intro _; rfl)
    (hs : swapsWithSole [.Subscript (.Name x px) i tpos] e pos.line X.env = pure false := by rfl) (hw : swappedStores [.Subscript (.Name x px) i tpos] e X.env = pure none := by rfl)
    (h1 : (assignEach [.Subscript (.Name x px) i tpos] X.env).map (·.2) = [assign (.Subscript (.Name x px) i tpos) X.env] := by rfl) :
    PMS pn X (.Assign [.Subscript (.Name x px) i tpos] e pos) (sSetIx j mi me) := PS.weak (ps_asg he (pg_sub hx hi set_list ha) hs hw h1) fun D σ H h => by
  obtain ⟨o, T, sa, f, sa', e, S, q⟩ := h
  obtain ⟨r1, s1, e1, e2⟩ := bnd_some e
  split at e2
  · rename_i hl
    obtain ⟨r2, s2, em, e3⟩ := bnd_some e2
    split at e3
    · rename_i z i l ez ei el
      cases el' : setA l i z with
      | none => rw [el'] at e3; cases e3
      | some l' =>
        rw [el'] at e3
        cases e3
        refine ⟨o, T, sa, r1, s1, e1, S, fun o1 v H1 L1 S1 R1 => ?_⟩
        obtain ⟨p, ys, ep, hp⟩ := isL_ok S1 hl
        refine ⟨_, ep, o1, _, s1, r2, s2, em, S1, fun o2 v2 H2 L2 S2 R2 => ?_⟩
        obtain ⟨fb, rb⟩ := rv_rep S2 R2 ei
        obtain ⟨o3, S3, L3⟩ := SRel.pop S2
        obtain ⟨fa, ra⟩ := rv_rep S3 ((R1.mono S1 L2).mono S2 L3) ez
        obtain ⟨o4, S4, L4⟩ := SRel.pop S3
        obtain ⟨fi, rl, so, ndi, _, put⟩ := SRel.wr (fx := []) S4 el ep S4.nd (fun _ h => nomatch h) S4.sl
        obtain ⟨p', ys', k, fi', ev, hp', hk, mp, rl', nd', sub⟩ := setA_ok rl (repD_d ra) el' ndi
        cases ev
        obtain ⟨o5, S5, L5⟩ := put (fun b u e n => by rw [upd_ne (fun z => n (by rw [z]; exact mp))]; exact e) rl' nd' fun b hb => .inl (sub b hb)
        exact ⟨p, ys', i, k, rfl, int_of rb, hp', hk, q o5 σ _ ((((L1.trans L2).trans L3).trans L4).trans L5) Keep.refl S5⟩
    · cases e3
  · cases e2
end
end MM
namespace MM
open PySem PySem.Spec PyProof.Rows L2

/-! ### enumerate over a tuple -/
theorem call_enumB {prog : Program} {w : World} {A : Around} {E : Value → Shared → Prop} {s : Shared} {v : Value} {o : Obj} {H : Heap → Prop} {Q : Value → Shared → Prop} (B : Begins v o H) (h1 : H s.heap)
    (h : ∀ h', IsEnum h' (s.heap.objs.size + 1) s.heap.objs.size 0 .none → h'.get? s.heap.objs.size = some o → h'.objs.size = s.heap.objs.size + 2 →
      (∀ b o, s.heap.get? b = some o → h'.get? b = some o) → Q (.ref (s.heap.objs.size + 1)) { s with heap := h' }) :
    wpAny (model prog w) A (call (.type "enumerate") [v]) Q E s := by
  have meets : Meets (Builtin.«enumerate.__new__» ⟨[.type "enumerate", v], []⟩) (fun _ R s => H s.heap ∧
      R (.ok (.ret (.ref (s.heap.push o).objs.size))) { s with heap := (s.heap.push o).push { cls := .type "enumerate", data := .fields #[.none, .bool false, .ref s.heap.objs.size, rawInt 0, .none, .none] } }) :=
    .of_wp fun prog w A R s h => by
      obtain ⟨hp, g, d, tk, os⟩ := s; obtain ⟨h1, h⟩ := h
      have hsub := sub_enumerate
      have q1 : ∀ {A' : Around} {E : Value → Shared → Prop} {Q : Value → Shared → Prop}, Q (.ref hp.objs.size) ⟨hp.push o, g, d, tk, os⟩ → wpAny (model prog w) A' (pyIter v) Q E ⟨hp, g, d, tk, os⟩ :=
        fun q => B.iter prog w _ _ ⟨hp, g, d, tk, os⟩ _ h1 q
      wp_walk using q1
      refine wpAny_stack_any fun st => wpAny_pure ?_
      split
      · rename_i c _ _ _ _ _
        cases (c == Value.type "enumerate")
        · wp_walk using q1
          exact ⟨_, rfl, h⟩
        · wp_walk using q1
          exact ⟨_, rfl, h⟩
      · wp_walk using q1
        exact ⟨_, rfl, h⟩
  refine callType_new F.called_enumerate (by decide) (F.typeCall_enumerate_1 _) (F.newCall_enumerate_1 _) (fun obj => F.args_object_init_2 obj _) F.entry_enumerate_new meets ⟨h1, ?_⟩
  have hz : (s.heap.push o).objs.size = s.heap.objs.size + 1 := Heap.size_push ..
  show _ ∧ _
  rw [hz]
  have he : IsEnum ((s.heap.push o).push { cls := .type "enumerate", data := .fields #[.none, .bool false, .ref s.heap.objs.size, rawInt 0, .none, .none] }) (s.heap.objs.size + 1) s.heap.objs.size 0 .none := by
    have := Heap.get?_push_size (s.heap.push o) (o := { cls := .type "enumerate", data := .fields #[.none, .bool false, .ref s.heap.objs.size, rawInt 0, .none, .none] }) rfl
    rw [hz] at this; exact this
  refine ⟨⟨_, he, rfl⟩, h _ he (Heap.get?_push_of_some _ (Heap.get?_push_size _ B.free)) (by rw [Heap.size_push, hz]) fun b o x => Heap.get?_push_of_some _ (Heap.get?_push_of_some _ x)⟩
/-- the tuple at a, each item in a new pair -/
def IteT (K : PySem.W.Frag) (a : Addr) : It :=
  ⟨fun i H => ∃ (xs : List V) (x : V), SqT K H a xs ∧ xs[i]? = some x, fun i H v H' => ∃ T x, v = .ref T ∧ H T = none ∧ H' = upd H T (.tup [.int (i : Nat), x]) ∧ ∀ xs, SqT K H a xs → xs[i]? = some x, fun i H => ∃ xs : List V, SqT K H a xs ∧ xs.length = i⟩
theorem turn_enumT {P : Program} {w : World} {K : PySem.W.Frag} {elts : List Expr} {kk : Nat} {tpos : Pos} (a e it : Addr) (hae : a ≠ e) (hai : a ≠ it) :
    Turn P w K (.Tuple elts kk tpos) (IteT K a) [e, it] e (fun i h => (∃ old, IsEnum h e it ((i : Nat) : Int) old) ∧ h.IsTupleIter it a i ∧ e ≠ it) where
  mem := by simp
  obj := fun i h st b hb => by
    obtain ⟨⟨old, he⟩, ⟨o, ho, hc, hd⟩, _⟩ := st
    have e' : b = e ∨ b = it := by simpa using hb
    rcases e' with z | z
    · rw [z]; exact ⟨_, he, fun v q => nomatch q⟩
    · rw [z]; exact ⟨o, ho, fun v q => by rw [hd] at q; cases q⟩
  keep := fun i h h' st k => let ⟨⟨old, he⟩, hi, hne⟩ := st; ⟨⟨old, k e (by simp) _ he⟩, hi.at fun o q => k it (by simp) o q, hne⟩
  item := by
    intro X hP hw hK hc i pins s σ H E I hf st hg
    subst hP hw hK
    obtain ⟨⟨old, he⟩, hit, hne⟩ := st
    obtain ⟨xs, x, hq, hx⟩ := hg
    obtain ⟨its, rv, p, hz⟩ := I.tuple hq
    obtain ⟨u, hu, ru⟩ := rv.get hx
    have hel : e < s.heap.objs.size := Heap.lt_size he
    have hil : it < s.heap.objs.size := by obtain ⟨_, q, _⟩ := hit; exact Heap.lt_size q
    have hlt : i < its.toArray.size := by
      have := (List.getElem?_eq_some_iff.mp hu).1
      simpa using this
    refine wpAny_pyNext_enum_itemD (PySem.Draws.tuple (A := X.A.in1) (I.ok.hd hc) it a hai its.toArray) he ⟨hit, p⟩ hlt hne (by simp [hne, Ne.symm hae]) fun x' h' tk hx' ho hit' hT hsz hk => ?_
    have ex : x' = u := by
      have h1 : its[i]? = some x' := by simpa using hx'
      rw [hu] at h1
      exact (Option.some.inj h1).symm
    subst ex
    refine ⟨_, rfl, wpAny_letOwnedTupleGo_enum (s := { s with heap := h', toks := tk + 1 }) ho fun h'' he' sb => ?_⟩
    have hT2 : h''.get? s.heap.objs.size = some { cls := .type "tuple", data := .seq #[.int i tk, x'] } := (sb.2 _ (Nat.ne_of_gt hel)).trans hT
    have new : ObjOk X.prog X.w (upd H s.heap.objs.size (.tup [.int (i : Nat), x])) h'' s.heap.objs.size (.tup [.int (i : Nat), x]) :=
      ⟨by show 2 ≤ sizeLine; decide, [.int i tk, x'], .cons ⟨_, rfl⟩ (.cons ru .nil), ⟨_, hT2, rfl, _, rfl⟩⟩
    have I1 : Inv X pins σ (upd H s.heap.objs.size (.tup [.int (i : Nat), x])) { s with heap := h'', toks := tk + 1 } :=
      I.turnedNew (ch := [e, it]) (fun b ob hb q => (sb.2 b (fun z => hb (by simp [z]))).trans (hk b ob (fun z => hb (by simp [z])) (fun z => hb (by simp [z])) q)) hf (Nat.le_refl _) new
    refine ⟨.ref s.heap.objs.size, _, I1, rfl, ⟨_, x, rfl, I.hok.fresh (Nat.le_refl _), rfl, fun ys hy => by rw [I.tuple_inj hy hq]; exact hx⟩, ⟨⟨x', ?_⟩, hit'.1.at fun o q => (sb.2 it (Ne.symm hne)).trans q, hne⟩, fun b hb => ?_⟩
    · have e1 : ((i + 1 : Nat) : Int) = (i : Int) + 1 := by omega
      rw [e1]; exact he'
    · have hb' : b < s.heap.objs.size := by
        have e' : b = e ∨ b = it := by simpa using hb
        rcases e' with z | z
        · rw [z]; exact hel
        · rw [z]; exact hil
      rw [upd_ne (Nat.ne_of_lt hb')]
      exact (hf b hb).1
  done := by
    intro X hP hw hK hc i pins s σ H E I hf st hg
    subst hP hw hK
    obtain ⟨⟨old, he⟩, hit, hne⟩ := st
    obtain ⟨xs, hq, hx⟩ := hg
    obtain ⟨its, rv, p, hz⟩ := I.tuple hq
    obtain ⟨f0, f1, f2, f3, f4, f5⟩ := hf it (by simp)
    have hl := rv.length
    have hn : its.toArray.size = i := by simp; omega
    refine wpAny_pyNext_enum_endD (PySem.Draws.tuple (A := X.A.in1) (I.ok.hd hc) it a hai its.toArray) he ⟨by rw [hn]; exact hit, p⟩ fun h' eb => ⟨rfl, I.turned (t' := s.toks) (fun b o hb q => eb b o hb q) f0 f1 f3 f4 f5⟩
  self := fun A i s Q E st h => let ⟨⟨_, he⟩, _⟩ := st; wpAny_pyIter_enum he h
def iEnumT (K : PySem.W.Frag) (ta : TA) : TI := fun σ H R => ta σ H fun vs H1 => ∃ a xs, vs = [.ref a] ∧ SqT K H1 a xs ∧ R (IteT K a) H1
theorem pi_enumT {X : Cx} {e : Expr} {ta : TA} {p pos tpos : Pos} {elts : List Expr} {kk : Nat} (hg : Gl X "enumerate") (hm : X.mg "enumerate" = none) (ha : PA X [e] ta) (hs : starEach [e] X.env = [(false, eval e X.env)] := by rfl) :
    PI X (.Tuple elts kk tpos) (.Call (.Name "enumerate" p) [e] [] pos) (iEnumT X.K ta) := by
  refine ⟨fun pins s σ H R I h => ?_⟩
  refine Call_ (ld_blt I hg hm boot_enumerate (PyProof.Rows.callWith_type1 (thn (ha.run pos pins s σ H _ I h) fun us s1 ⟨vs, H1, I1, r1, q1⟩ => ?_) hs rfl))
  obtain ⟨a, xs, ex, hq, q⟩ := q1
  subst ex
  cases r1 with
  | cons r rr =>
    cases rr
    cases r
    obtain ⟨its, rv, p', hz⟩ := I1.tuple hq
    have hal : a < s1.heap.objs.size := by obtain ⟨_, q, _⟩ := p'; exact Heap.lt_size q
    refine call_enumB (begins_tuple a its.toArray) p' fun h' he hit hsz hk => wpAny_pyIter_enum he ?_
    have I2 : Inv X pins σ H1 { s1 with heap := h' } := I1.kept (t' := s1.toks) hk
    refine ⟨s1.heap.objs.size + 1, [s1.heap.objs.size + 1, s1.heap.objs.size], _, _, H1, rfl, I2, turn_enumT a (s1.heap.objs.size + 1) s1.heap.objs.size (Nat.ne_of_lt (Nat.lt_succ_of_lt hal)) (Nat.ne_of_lt hal), ⟨⟨.none, he⟩, ⟨_, hit, rfl, rfl⟩, Nat.succ_ne_self _⟩, fun b hb => ?_, q⟩
    have e' : b = s1.heap.objs.size + 1 ∨ b = s1.heap.objs.size := by simpa using hb
    have hle : s1.heap.objs.size ≤ b := by
      rcases e' with z | z
      · rw [z]; exact Nat.le_add_right _ _
      · rw [z]; exact Nat.le_refl _
    exact I1.fpOk hle (I1.hok.fresh hle)

/-! ### ... as items -/
def enumL (xs : List D) : List A := xs.zipIdx.map fun p => .d (.tup [.int (p.2 : Nat), p.1])
def enA : A → Option (List A)
  | .d (.tup xs) => some (enumL xs)
  | .ls xs => some (enumL xs)
  | _ => none
def mEnum (m : SM R) : SM (List A) := bnd m fun r => bnd (use r) fun p sa => (enA p.2).map fun its => (its, sa)
section
variable {K : PySem.W.Frag} {H : Hp} {o : List Addr}
theorem enumL_len {xs : List D} : (enumL xs).length = xs.length := by simp [enumL]
theorem enumL_get {xs : List D} {i : Nat} {a : A} (e : (enumL xs)[i]? = some a) : ∃ d, xs[i]? = some d ∧ a = .d (.tup [.int (i : Nat), d]) := by
  unfold enumL at e
  rw [List.getElem?_map, List.getElem?_zipIdx] at e
  cases e1 : xs[i]? with
  | none => rw [e1] at e; cases e
  | some d =>
    rw [e1] at e
    simp at e
    exact ⟨d, rfl, e.symm⟩
theorem repS_pair {T : Addr} {x : V} {d : D} {i : Nat} (hT : H T = none) (r : RepD K H d x) (o1 : List Addr) : RepS K (upd H T (.tup [.int (i : Nat), x])) o1 (.d (.tup [.int (i : Nat), d])) (.ref T) := by
  refine RepS.d ?_
  unfold RepD
  refine ⟨T, [.int (i : Nat), x], rfl, .inl (.inl upd_same), ?_⟩
  have r' : RepD K (upd H T (.tup [.int (i : Nat), x])) d x := r.mono fun b u e _ => by rw [upd_ne (ne_of_none e hT)]; exact e
  unfold RepDs
  refine ⟨_, _, rfl, by unfold RepD; rfl, ?_⟩
  unfold RepDs
  exact ⟨_, _, rfl, r', by unfold RepDs; rfl⟩
theorem wk_enT {a : Addr} {ys : List V} {xs : List D} {T : Tmp} {sa : List Slot} {σ : L2.St} (S : SRel K o T sa σ H) (s : SqT K H a ys) (r : RepDs K H xs ys) : Wk K o H (IteT K a) (enumL xs) := fun o1 H1 L => by
  have s1 : SqT K H1 a ys := sqT_mono (S.imm L) s
  have r1 : RepDs K H1 xs ys := r.mono (S.imm L)
  refine ⟨⟨ys, s1, by rw [enumL_len, r.len]⟩, fun i a e => ?_⟩
  obtain ⟨d, e1, rfl⟩ := enumL_get e
  obtain ⟨y, ey, ry⟩ := r1.get e1
  refine ⟨⟨ys, y, s1, ey⟩, ?_⟩
  rintro x H2 ⟨T, z, rfl, hT, rfl, hz⟩
  have := hz ys s1
  rw [ey] at this
  cases this
  exact ⟨fun b u e => by rw [upd_ne (ne_of_none e hT)]; exact e, repS_pair hT ry o1⟩
theorem wk_enL {a : Addr} {ys : List V} {xs : List D} {T : Tmp} {sa : List Slot} {σ : L2.St} (S : SRel K o T sa σ H) (s : H a = some (.lst ys)) (na : a ∉ o) (r : RepDs K H xs ys) : Wk K o H (Ite K a) (enumL xs) := fun o1 H1 L => by
  have s1 : SqL K H1 a ys := .of (L a _ s na).1
  have r1 : RepDs K H1 xs ys := r.mono (S.imm L)
  refine ⟨⟨ys, s1, by rw [enumL_len, r.len]; exact Nat.le_refl _⟩, fun i a e => ?_⟩
  obtain ⟨d, e1, rfl⟩ := enumL_get e
  obtain ⟨y, ey, ry⟩ := r1.get e1
  refine ⟨⟨ys, y, s1, ey⟩, ?_⟩
  rintro x H2 ⟨T, z, rfl, hT, rfl, hz⟩
  have := hz ys s1
  rw [ey] at this
  cases this
  exact ⟨fun b u e => by rw [upd_ne (ne_of_none e hT)]; exact e, repS_pair hT ry o1⟩
end
section
variable {X : Cx} {e : Expr} {m : SM R} {p pos tpos : Pos} {elts : List Expr} {kk : Nat}
theorem pmi_enum (hg : Gl X "enumerate") (hm : X.mg "enumerate" = none) (he : PM X e m) (hs : starEach [e] X.env = [(false, eval e X.env)] := by rfl) : PMI X (.Tuple elts kk tpos) (.Call (.Name "enumerate" p) [e] [] pos) (mEnum m) :=
  PI.weak (PI.or (pi_enum hg hm (pa_cons he pa_nil hs) hs) (pi_enumT hg hm (pa_cons he pa_nil hs) hs)) fun σ H R h => by
  obtain ⟨o, T, sa, its, sa', e, S, q⟩ := h
  obtain ⟨r, s1, e1, e2⟩ := bnd_some e
  obtain ⟨⟨fl, a⟩, s2, e2, e3⟩ := bnd_some e2
  cases ei : enA a with
  | none => rw [ei] at e3; cases e3
  | some its' =>
    rw [ei] at e3
    cases e3
    have key : ∀ o1 v H1, SRel X.K o1 (pushT r v T) s1 σ H1 → RR X.K H1 o1 σ r v → ∃ o2, SRel X.K o2 T sa' σ H1 ∧ Le o1 H1 o2 H1 ∧ RepS X.K H1 o2 a v := fun o1 v H1 S1 R1 => by
      obtain ⟨o2, S2, L2, R2, _⟩ := bnd_use S1 R1 e2
      cases fl with
      | false => exact ⟨o2, S2, L2, R2⟩
      | true =>
        obtain ⟨f, o3, rfl, ra, S3⟩ := SRel.top S2
        exact ⟨o3, S3, L2.trans Le.drop, f, ra, fun b hb z => (List.nodup_append.mp S2.nd).2.2 b hb b z rfl⟩
    cases a with
    | d x =>
      cases x with
      | tup xs =>
        cases ei
        refine .inr ⟨o, T, sa, r, s1, e1, S, fun o1 v H1 L1 S1 R1 => ?_⟩
        obtain ⟨o2, S2, L2, fp, ra, nf⟩ := key o1 v H1 S1 R1
        obtain ⟨p, ys, rfl, s, rs⟩ := tup_of ra
        exact ⟨p, ys, rfl, s, q o2 H1 _ (L1.trans L2) S2 (wk_enT S2 s rs)⟩
      | _ => cases ei
    | ls xs =>
      cases ei
      refine .inl ⟨o, T, sa, r, s1, e1, S, fun o1 v H1 L1 S1 R1 => ?_⟩
      obtain ⟨o2, S2, L2, fp, ra, nf⟩ := key o1 v H1 S1 R1
      obtain ⟨p, ys, rfl, s, rs, rfl⟩ := ls_of ra
      exact ⟨p, ys, rfl, .of s, q o2 H1 _ (L1.trans L2) S2 (wk_enL S2 s (nf p (by simp)) rs)⟩
    | lst xs => cases ei
    | tpl xs => cases ei
    | dd xs => cases ei
end

/-! ### nothing promised -/
section
variable {P : Program} {w : World} {K : PySem.W.Frag} {mg : Str → Option Value} {base : Heap}
theorem ok_noneF {k n : Nat} {f : Addr} {fd : FuncData} {ps : List Str} : FnOk P w K mg base CX0 k f fd ps (spF K n fun _ => none) :=
  ⟨fun vs H Q E h => (by obtain ⟨as, fp, c, _, _, e, _⟩ := h; cases e), fun A outer s H args us vs Q E _ _ _ _ h => by obtain ⟨as, fp, c, _, _, e, _⟩ := h; cases e⟩
theorem ok_noneB {k n : Nat} {f : Addr} {fd : FuncData} {ps : List Str} : FnOk P w K mg base CX0 k f fd ps (spB K n fun _ _ => none) :=
  ⟨fun vs H Q E h => (by obtain ⟨b, v0, xs, vr, fb, c, b', _, _, _, _, _, e, _⟩ := h; cases e), fun A outer s H args us vs Q E _ _ _ _ h => by obtain ⟨b, v0, xs, vr, fb, c, b', _, _, _, _, _, e, _⟩ := h; cases e⟩
end
end MM
namespace MM
open PySem PySem.Spec PyProof.Rows L2

/-! ### sorted(list of data) -/
def pdOf (x : D) : PyData := (toPD x).getD .none
def isTup1 : PyData → Bool
  | .tuple (_ :: _) => true
  | _ => false
def isOther : PyData → Bool
  | .none => false
  | .tuple _ => false
  | _ => true
def sortOk (xs : List D) : Bool := xs.all (fun x => (toPD x).isSome && decide ((pdOf x).depth ≤ 60)) && xs.all (fun x => xs.all fun y => PySem.W.alike (pdOf x) (pdOf y)) &&
  (xs.all (fun x => isTup1 (pdOf x)) || xs.all (fun x => isOther (pdOf x)))
def sortL (xs : List D) : List D := xs.mergeSort (PySem.W.dataLe false pdOf)
def sortA : A → Option A
  | .ls xs => if sortOk xs then some (.ls (sortL xs)) else none
  | _ => none
def rSortA (K : PySem.W.Frag) : List V → Hp → VK → Prop := fun vs H Q => ∃ a xs ys, vs = [.ref a] ∧ SqL K H a ys ∧ RepDs K H xs ys ∧ sortOk xs = true ∧ ∀ zs p, RepDs K H (sortL xs) zs → H p = none → Q (.ref p) (upd H p (.lst zs))
theorem repDs_zip {K : PySem.W.Frag} {H : Hp} : ∀ {xs : List D} {ys : List V}, RepDs K H xs ys → ∀ p ∈ ys.zip xs, RepD K H p.2 p.1
  | [], ys, h, p, hp => by simp at hp
  | x :: xs, ys, h, p, hp => by
    unfold RepDs at h
    obtain ⟨y, r, rfl, h1, h2⟩ := h
    rcases List.mem_cons.mp hp with rfl | hp
    · exact h1
    · exact repDs_zip h2 p hp
theorem repDs_of {K : PySem.W.Frag} {H : Hp} : ∀ {l : List (V × D)}, (∀ p ∈ l, RepD K H p.2 p.1) → RepDs K H (l.map (·.2)) (l.map (·.1))
  | [], h => by unfold RepDs; rfl
  | p :: l, h => by
    show RepDs K H (p.2 :: l.map (·.2)) (p.1 :: l.map (·.1))
    unfold RepDs
    exact ⟨_, _, rfl, h p List.mem_cons_self, repDs_of fun q hq => h q (List.mem_cons_of_mem _ hq)⟩
theorem call_sortA {X : Cx} (hu : X.A.units + 65 < cLine) : CallR X (.builtin "sorted") (rSortA X.K) := by
  intro pins s σ H vs us Q I r h
  obtain ⟨a, xs, ys, rfl, hs, rd, ok, q⟩ := h
  obtain ⟨its, rv, hl, hz⟩ := I.list hs
  rw [Vals.ref1 r]
  unfold sortOk at ok
  simp only [Bool.and_eq_true, Bool.or_eq_true, List.all_eq_true, decide_eq_true_eq] at ok
  obtain ⟨⟨ok1, ok2⟩, ok3⟩ := ok
  have hlen := rd.len
  -- the pairs
  have e0 : PySem.W.EachIs (fun (v : Value) (b : V × D) => RelV b.1 v ∧ RepD X.K H b.2 b.1 ∧ b.2 ∈ xs) its (ys.zip xs) := by
    have gen : ∀ (xs' : List D) (ys : List V) (its : List Value), (∀ x ∈ xs', x ∈ xs) → RepDs X.K H xs' ys → Vals ys its → PySem.W.EachIs (fun (v : Value) (b : V × D) => RelV b.1 v ∧ RepD X.K H b.2 b.1 ∧ b.2 ∈ xs) its (ys.zip xs') := by
      intro xs'
      induction xs' with
      | nil =>
        intro ys its _ h1 h2
        unfold RepDs at h1
        subst h1
        cases h2
        exact .nil
      | cons x xs' ih =>
        intro ys its hm h1 h2
        unfold RepDs at h1
        obtain ⟨y, r, rfl, h3, h4⟩ := h1
        cases h2 with
        | cons h5 h6 => exact .cons ⟨h5, h3, hm x List.mem_cons_self⟩ (ih _ _ (fun z hz => hm z (List.mem_cons_of_mem _ hz)) h4 h6)
    exact gen xs ys its (fun _ h => h) rd rv
  have e1 : PySem.W.EachIs (fun (v : Value) (b : V × D) => ∃ as, Reads s.heap v (pdOf b.2) as) its (ys.zip xs) := e0.mono fun v b ⟨h1, h2, h3⟩ => by
    obtain ⟨z, hz'⟩ := Option.isSome_iff_exists.mp (ok1 _ h3).1
    have : pdOf b.2 = z := by unfold pdOf; rw [hz']; rfl
    rw [this]
    exact Dp.reads I z b.1 v (RepD.dp h2 hz') h1
  have hm2 : (ys.zip xs).map (fun b => pdOf b.2) = xs.map pdOf := by
    rw [show (fun b : V × D => pdOf b.2) = pdOf ∘ (fun b => b.2) from rfl, ← List.map_map]
    congr 1
    exact List.map_snd_zip (by omega)
  have hal : PySem.W.AllAlike ((ys.zip xs).map fun b => pdOf b.2) := by
    rw [hm2]
    intro d hd d' hd'
    obtain ⟨x, hx, rfl⟩ := List.mem_map.mp hd
    obtain ⟨x', hx', rfl⟩ := List.mem_map.mp hd'
    exact ok2 x hx x' hx'
  have hk : PySem.W.Sortable ((ys.zip xs).map fun b => pdOf b.2) := by
    rw [hm2]
    rcases ok3 with ok3 | ok3
    · refine .inl fun d hd => ?_
      obtain ⟨x, hx, rfl⟩ := List.mem_map.mp hd
      have := ok3 x hx
      unfold isTup1 at this
      split at this
      · rename_i a b c
        exact ⟨a, b, c⟩
      · cases this
    · refine .inr fun d hd => ?_
      obtain ⟨x, hx, rfl⟩ := List.mem_map.mp hd
      have := ok3 x hx
      refine ⟨fun z => ?_, fun ws z => ?_⟩
      · rw [z] at this; cases this
      · rw [z] at this; cases this
  have hL : (ys.zip xs).length ≤ sizeLine := by rw [List.length_zip]; omega
  have hdu : ∀ b, b ∈ ys.zip xs → X.A.units + 2 + (pdOf b.2).depth < cLine := fun b hb => by
    have hx : b.2 ∈ xs := (List.of_mem_zip hb).2
    have := (ok1 _ hx).2
    omega
  refine PySem.W.sorted_data (s := s) (R := fun (v : Value) (b : V × D) => RelV b.1 v ∧ RepD X.K H b.2 b.1 ∧ b.2 ∈ xs) (enc := fun b => pdOf b.2) hl.isList e0 e1 hal hk hL hdu fun out hlo eo => ?_
  generalize hbs : (ys.zip xs).mergeSort (PySem.W.dataLe false fun b => pdOf b.2) = bs at eo
  have hsnd : bs.map (·.2) = sortL xs := by
    rw [← hbs]
    unfold sortL
    refine (PySem.W.sort_maps (r := PySem.W.dataLe false fun b : V × D => pdOf b.2) (s := PySem.W.dataLe false pdOf) (fun b => b.2) (fun a _ b _ => rfl)).trans ?_
    congr 1
    exact List.map_snd_zip (by omega)
  have hlb : bs.length ≤ sizeLine := by rw [← hbs, List.length_mergeSort]; exact hL
  have rz : RepDs X.K H (sortL xs) (bs.map (·.1)) := by
    rw [← hsnd]
    refine repDs_of fun p hp => ?_
    rw [← hbs] at hp
    exact repDs_zip rd p ((List.mergeSort_perm _ _).mem_iff.mp hp)
  have vz : Vals (bs.map (·.1)) out := by
    have gen : ∀ (bs : List (V × D)) (out : List Value), PySem.W.EachIs (fun (v : Value) (b : V × D) => RelV b.1 v ∧ RepD X.K H b.2 b.1 ∧ b.2 ∈ xs) out bs → Vals (bs.map (·.1)) out := by
      intro bs
      induction bs with
      | nil => intro out h; cases h; exact .nil
      | cons b bs ih =>
        intro out h
        cases h with
        | cons h1 h2 => exact .cons h1.1 (ih _ h2)
    exact gen bs out eo
  obtain ⟨ep, he'⟩ := PyProof.Rows.sortedAll_at s.heap its out.toArray
  exact ⟨.ref _, upd H (s.heap.objs.size + 1) (.lst (bs.map (·.1))), I.laid (t' := s.toks) (fun _ _ => PyProof.Rows.sortedAll_old) (Nat.le_succ _) ⟨by rw [List.length_map]; exact hlb, out, ep, vz, he'⟩, rfl, q _ _ rz (I.hok.fresh (Nat.le_succ _))⟩
theorem pr_sort {K : PySem.W.Frag} : PrN K (rSortA K) (f1 sortA) := prN1 fun H a x fa c Q r e q => by
  unfold sortA at e
  split at e
  · rename_i xs
    split at e
    · rename_i ok
      cases e
      obtain ⟨p, ys, rfl, s, rs, _⟩ := ls_of r
      exact ⟨p, xs, ys, rfl, .of s, rs, ok, fun zs l rz hl => q _ _ [l] (Fresh.one hl) (rep_ls rz hl)⟩
    · cases e
  · cases e
end MM
namespace MM
open PySem PySem.Spec PyProof.Rows L2

/-! ### comprehensions with two clauses -/
def compL2 (ws ws1 : List Nat) (t : Tg) (tt : SM Bool) (wi1 : SM (List A)) (t1 : Tg) (tt1 : SM Bool) (te : SM R) : List A → A → SM A
  | [], l => ret l
  | a :: r, l => fun sa => match putI t a sa with
    | some s1 => match tt s1 with
      | some (true, s2) => match wi1 s2 with
        | some (its1, s3) => match compL ws1 t1 tt1 te its1 l (wipeA ws1 s3) with
          | some (l', s4) => compL2 ws ws1 t tt wi1 t1 tt1 te r l' (wipeA ws s4)
          | none => none
        | none => none
      | some (false, s2) => compL2 ws ws1 t tt wi1 t1 tt1 te r l (wipeA ws s2)
      | none => none
    | none => none
def mComp2 (ws ws1 : List Nat) (mi : SM (List A)) (t : Tg) (tt : SM Bool) (wi1 : SM (List A)) (t1 : Tg) (tt1 : SM Bool) (te : SM R) : SM R := fun sa => match mi sa with
  | some (its, s1) => match compL2 ws ws1 t tt wi1 t1 tt1 te its (.ls []) (wipeA ws s1) with
    | some (l, s2) => some (fin l, restA ws s1 s2)
    | none => none
  | none => none
theorem compL_nd {ws : List Nat} {t : Tg} {tt : SM Bool} {te : SM R} : ∀ {its : List A} {l lf : A} {s sf : List Slot}, compL ws t tt te its l s = some (lf, sf) → (∀ z, l ≠ .d z) → ∀ z, lf ≠ .d z := by
  intro its
  induction its with
  | nil => intro l lf s sf e h; cases e; exact h
  | cons a r ih =>
    intro l lf s sf e h
    unfold compL at e
    split at e
    · split at e
      · split at e
        · split at e
          · split at e
            · rename_i l' el
              refine ih e fun z hz => ?_
              subst hz
              unfold appA at el
              split at el <;> (try split at el) <;> cases el
            · cases e
          · cases e
        · cases e
      · exact ih e h
      · cases e
    · cases e
theorem compL2_nd {ws ws1 : List Nat} {t t1 : Tg} {tt tt1 : SM Bool} {wi1 : SM (List A)} {te : SM R} : ∀ {its : List A} {l lf : A} {s sf : List Slot}, compL2 ws ws1 t tt wi1 t1 tt1 te its l s = some (lf, sf) → (∀ z, l ≠ .d z) → ∀ z, lf ≠ .d z := by
  intro its
  induction its with
  | nil => intro l lf s sf e h; cases e; exact h
  | cons a r ih =>
    intro l lf s sf e h
    unfold compL2 at e
    split at e
    · split at e
      · split at e
        · split at e
          · rename_i l' s4 el
            exact ih e (compL_nd el h)
          · cases e
        · cases e
      · exact ih e h
      · cases e
    · cases e
section
variable {K : PySem.W.Frag}
/-- one turn of a comprehension's loop -/
theorem lc_turn {t : Tg} {tt : SM Bool} {te : SM R} {ws : List Nat} (hws : ∀ i ∈ t.slots, i ∈ ws) {σ0 : L2.St} {H4 H5 : Hp} {o4 : List Addr} {l : A} {s4 : List Slot} {D : Addr} {T : Tmp} {a : A} {r : List A} {res : A × List Slot} {n : Nat} {x : V}
    (S4 : SRel K o4 ((l, .ref D) :: T) s4 σ0 H4) (hw0 : wipe σ0 ws = σ0) (len4 : s4.length = n) (e4 : compL ws t tt te (a :: r) l s4 = some res) (same : ∀ b u, H4 b = some u → H5 b = some u) (rx : RepS K H5 o4 a x) :
    t.rd K x σ0 H5 fun σ2 H2 => wipe σ2 ws = σ0 ∧ tOfT K tt σ2 H2 fun b H3 => if b = true then tOf K te σ2 H3 fun y H7 => ∃ acc, H7 D = some (.lst acc) ∧ acc.length < sizeLine ∧
        (∃ o6 s6 l6, Le o4 H4 o6 (upd H7 D (.lst (acc ++ [y]))) ∧ SRel K o6 ((l6, .ref D) :: T) s6 σ0 (upd H7 D (.lst (acc ++ [y]))) ∧ s6.length = n ∧ (∀ i ∈ ws, i < s6.length → s6[i]? = some none) ∧ compL ws t tt te r l6 s6 = some res)
      else (∃ o6 s6 l6, Le o4 H4 o6 H3 ∧ SRel K o6 ((l6, .ref D) :: T) s6 σ0 H3 ∧ s6.length = n ∧ (∀ i ∈ ws, i < s6.length → s6[i]? = some none) ∧ compL ws t tt te r l6 s6 = some res) := by
  unfold compL at e4
  split at e4
  · rename_i s5 e5
    obtain ⟨S5, L5⟩ := SRel.yld S4 same
    refine putI_ok S5 rx e5 fun o6 σ6 a6 L6 S6 => ?_
    have hw6 : wipe σ6 ws = σ0 := by
      rw [wipe_setAt a6 hws]
      exact hw0
    have back : ∀ {o9 : List Addr} {s9 : List Slot} {H9 : Hp} {l9 : A}, SRel K o9 ((l9, .ref D) :: T) s9 σ6 H9 → ∃ o10, SRel K o10 ((l9, .ref D) :: T) (wipeA ws s9) σ0 H9 ∧ Le o9 H9 o10 H9 ∧ (wipeA ws s9).length = n ∧ (∀ i ∈ ws, i < (wipeA ws s9).length → (wipeA ws s9)[i]? = some none) := fun {o9 s9 H9 l9} S9 => by
      obtain ⟨o10, S10, sub10⟩ := SRel.wipedS (ws := ws) S9
      rw [hw6] at S10
      refine ⟨o10, S10, Le.sub sub10, ?_, fun i hi hl => wipeA_in hi (by rw [wipeA_len] at hl; exact hl)⟩
      rw [S10.len, ← len4, S4.len]
    refine ⟨hw6, ?_⟩
    split at e4
    · rename_i s7 e7
      refine ⟨o6, _, s5, true, s7, e7, S6, fun o7 H7 L7 S7 => ?_⟩
      refine iteT ?_
      split at e4
      · rename_i r8 s8 e8
        split at e4
        · rename_i y8 ey
          split at e4
          · rename_i l8 el
            refine ⟨o7, _, s7, r8, s8, e8, S7, fun o8 v8 H8 L8 S8 R8 => ?_⟩
            obtain ⟨f8, o9, ra, S9, rfl⟩ := od_one S8 R8 ey
            obtain ⟨acc, o10, hD8, hz, S10, L10⟩ := SRel.grow S9 ra S8.nd el S8.sl
            obtain ⟨o11, S11, L11, z1, z2⟩ := back S10
            exact ⟨acc, hD8, hz, o11, _, l8, ((((L5.trans L6).trans L7).trans L8).trans L10).trans L11, S11, z1, z2, e4⟩
          · cases e4
        · cases e4
      · cases e4
    · rename_i s7 e7
      refine ⟨o6, _, s5, false, s7, e7, S6, fun o7 H7 L7 S7 => ?_⟩
      refine iteF ?_
      obtain ⟨o11, S11, L11, z1, z2⟩ := back S7
      exact ⟨o11, _, l, ((L5.trans L6).trans L7).trans L11, S11, z1, z2, e4⟩
    · cases e4
  · cases e4
end
section
variable {X : Cx}
theorem wipe_idem {σ : L2.St} {ws : List Nat} : wipe (wipe σ ws) ws = wipe σ ws := wipe_setAt ⟨(wipe_length σ ws), fun i hi => wipe_out hi⟩ (fun i hi => hi)
theorem wipe_sub {σ : L2.St} {ws ws1 : List Nat} (h : ∀ i ∈ ws1, i ∈ ws) : wipe (wipe σ ws1) ws = wipe σ ws := wipe_setAt (is := ws1) ⟨(wipe_length σ ws1), fun i hi => wipe_out hi⟩ h
theorem lc2_ok {wi wi1 : SM (List A)} {t t1 : Tg} {tt tt1 : SM Bool} {te : SM R} {ws ws1 : List Nat} (hws : ∀ i ∈ t.slots, i ∈ ws) (hws1 : ∀ i ∈ t1.slots, i ∈ ws1) (hsub : ∀ i ∈ ws1, i ∈ ws) {σ : L2.St} {H : Hp} {Q : VK} (h : tOf X.K (mComp2 ws ws1 wi t tt wi1 t1 tt1 te) σ H Q) :
    tLc2 (tOfI X.K wi) (t.rd X.K) (tOfT X.K tt) (tOfI X.K wi1) (t1.rd X.K) (tOfT X.K tt1) (tOf X.K te) ws ws1 σ H Q := by
  obtain ⟨o, T, sa, r, sa', e, S, q⟩ := h
  unfold mComp2 at e
  split at e
  · rename_i its s1 ei
    split at e
    · rename_i lf sf ec
      cases e
      refine ⟨o, T, sa, its, s1, ei, S, fun o1 H1 J L1 S1 W D hD => ?_⟩
      obtain ⟨o2, S2, sub2⟩ := SRel.wipedS (ws := ws) S1
      obtain ⟨S3, L3⟩ := SRel.newL S2 hD
      have L13 : Le o1 H1 ([D] ++ o2) (upd H1 D (.lst [])) := (Le.sub sub2).trans L3
      refine ⟨fun i m H => m = its.length - i ∧ i ≤ its.length ∧ ∃ o4 s4 l, Le o1 H1 o4 H ∧ SRel X.K o4 ((l, .ref D) :: T) s4 (wipe σ ws) H ∧ s4.length = s1.length ∧ (∀ i ∈ ws, i < s4.length → s4[i]? = some none) ∧ compL2 ws ws1 t tt wi1 t1 tt1 te (its.drop i) l s4 = some (lf, sf),
        ⟨its.length, by simp, Nat.zero_le _, _, _, .ls [], L13, S3, wipeA_len, fun i hi hl => wipeA_in hi (by rw [wipeA_len] at hl; exact hl), ec⟩, ?_⟩
      rintro i m H4 ⟨rfl, hi, o4, s4, l, L4, S4, len4, none4, e4⟩
      obtain ⟨w1, w2⟩ := W o4 H4 L4
      by_cases hlt : i < its.length
      · have ea : its[i]? = some its[i] := List.getElem?_eq_getElem hlt
        obtain ⟨go, yl⟩ := w2 i _ ea
        have ed : its.drop i = its[i] :: its.drop (i + 1) := List.drop_eq_getElem_cons hlt
        rw [ed] at e4
        unfold compL2 at e4
        split at e4
        · rename_i s5 e5
          refine .inr ⟨go, fun H' => ∃ o6 s6 l6, Le o4 H4 o6 H' ∧ SRel X.K o6 ((l6, .ref D) :: T) s6 (wipe σ ws) H' ∧ s6.length = s1.length ∧ (∀ i ∈ ws, i < s6.length → s6[i]? = some none) ∧ compL2 ws ws1 t tt wi1 t1 tt1 te (its.drop (i + 1)) l6 s6 = some (lf, sf),
            fun H' ⟨o6, s6, l6, L6, S6, z1, z2, z3⟩ => ⟨_, by omega, rfl, hlt, o6, s6, l6, L4.trans L6, S6, z1, z2, z3⟩, fun x H5 y => ?_⟩
          obtain ⟨same, rx⟩ := yl x H5 y
          obtain ⟨S5, L5⟩ := SRel.yld S4 same
          refine putI_ok S5 rx e5 fun o6 σ6 a6 L6 S6 => ?_
          have hw6 : wipe σ6 ws = wipe σ ws := by
            rw [wipe_setAt a6 hws]
            exact wipe_idem
          have back : ∀ {o9 : List Addr} {s9 : List Slot} {H9 : Hp} {l9 : A} {σ9 : L2.St}, wipe σ9 ws = wipe σ ws → SRel X.K o9 ((l9, .ref D) :: T) s9 σ9 H9 → ∃ o10, SRel X.K o10 ((l9, .ref D) :: T) (wipeA ws s9) (wipe σ ws) H9 ∧ Le o9 H9 o10 H9 ∧ (wipeA ws s9).length = s1.length ∧ (∀ i ∈ ws, i < (wipeA ws s9).length → (wipeA ws s9)[i]? = some none) := fun {o9 s9 H9 l9 σ9} hw9 S9 => by
            obtain ⟨o10, S10, sub10⟩ := SRel.wipedS (ws := ws) S9
            rw [hw9] at S10
            refine ⟨o10, S10, Le.sub sub10, ?_, fun i hi hl => wipeA_in hi (by rw [wipeA_len] at hl; exact hl)⟩
            rw [S10.len, wipe_length, ← S1.len]
          refine ⟨hw6, ?_⟩
          split at e4
          · rename_i s7 e7
            refine ⟨o6, _, s5, true, s7, e7, S6, fun o7 H7 L7 S7 => ?_⟩
            refine iteT ?_
            split at e4
            · rename_i its1 s8 e8
              split at e4
              · rename_i l9 s9 e9
                refine ⟨o7, _, s7, its1, s8, e8, S7, fun o8 H8 J1 L8 S8 W1 => ?_⟩
                obtain ⟨oa, Sa, suba⟩ := SRel.wipedS (ws := ws1) S8
                have La : Le o8 H8 oa H8 := Le.sub suba
                have hw1 : wipe (wipe σ6 ws1) ws = wipe σ ws := (wipe_sub hsub).trans hw6
                refine ⟨fun j k H => k = its1.length - j ∧ j ≤ its1.length ∧ ∃ ob sb l, Le o8 H8 ob H ∧ SRel X.K ob ((l, .ref D) :: T) sb (wipe σ6 ws1) H ∧ compL ws1 t1 tt1 te (its1.drop j) l sb = some (l9, s9),
                  ⟨its1.length, by simp, Nat.zero_le _, _, _, l, La, Sa, e9⟩, ?_⟩
                rintro j k Hb ⟨rfl, hj, ob, sb, lb, Lb, Sb, eb⟩
                obtain ⟨v1, v2⟩ := W1 ob Hb Lb
                by_cases hlt1 : j < its1.length
                · have ea1 : its1[j]? = some its1[j] := List.getElem?_eq_getElem hlt1
                  obtain ⟨go1, yl1⟩ := v2 j _ ea1
                  have ed1 : its1.drop j = its1[j] :: its1.drop (j + 1) := List.drop_eq_getElem_cons hlt1
                  rw [ed1] at eb
                  refine .inr ⟨go1, fun H' => ∃ o6 s6 l6, Le ob Hb o6 H' ∧ SRel X.K o6 ((l6, .ref D) :: T) s6 (wipe σ6 ws1) H' ∧ s6.length = sb.length ∧ (∀ i ∈ ws1, i < s6.length → s6[i]? = some none) ∧ compL ws1 t1 tt1 te (its1.drop (j + 1)) l6 s6 = some (l9, s9),
                    fun H' ⟨o6, s6, l6, L6, S6, z1, z2, z3⟩ => ⟨_, by omega, rfl, hlt1, o6, s6, l6, Lb.trans L6, S6, z3⟩, fun x1 H51 y1 => ?_⟩
                  obtain ⟨same1, rx1⟩ := yl1 x1 H51 y1
                  exact lc_turn hws1 Sb wipe_idem rfl eb same1 rx1
                · have ej : j = its1.length := by omega
                  subst ej
                  rw [List.drop_length] at eb
                  cases eb
                  obtain ⟨oc, Sc, Lc, z1, z2⟩ := back hw1 Sb
                  exact .inl ⟨v1, oc, _, l9, (((((L5.trans L6).trans L7).trans L8).trans Lb)).trans Lc, Sc, z1, z2, e4⟩
              · cases e4
            · cases e4
          · rename_i s7 e7
            refine ⟨o6, _, s5, false, s7, e7, S6, fun o7 H7 L7 S7 => ?_⟩
            refine iteF ?_
            obtain ⟨o11, S11, L11, z1, z2⟩ := back hw6 S7
            exact ⟨o11, _, l, ((L5.trans L6).trans L7).trans L11, S11, z1, z2, e4⟩
          · cases e4
        · cases e4
      · have ei : i = its.length := by omega
        subst ei
        rw [List.drop_length] at e4
        cases e4
        refine .inl ⟨w1, ?_⟩
        have S5 : SRel X.K o4 ((lf, .ref D) :: T) sf σ H4 := S4.back none4 wipe_idem
        obtain ⟨o6, S6, sub6⟩ := SRel.rest (s0 := s1) (by rw [len4]) (fun i fl a e => by
          obtain ⟨w, e1, q⟩ := S1.sl i fl a e
          exact ⟨w, e1, fun z => RepS.mono S1 L4 (q z)⟩) (ws := ws) S5
        cases lf with
        | d z => exact (compL2_nd ec (fun z h => nomatch h) z rfl).elim
        | ls xs => exact q o6 _ H4 ((L1.trans L4).trans (Le.sub sub6)) S6 True.intro
        | lst xs => exact q o6 _ H4 ((L1.trans L4).trans (Le.sub sub6)) S6 True.intro
        | tpl xs => exact q o6 _ H4 ((L1.trans L4).trans (Le.sub sub6)) S6 True.intro
        | dd xs => exact q o6 _ H4 ((L1.trans L4).trans (Le.sub sub6)) S6 True.intro
    · cases e
  · cases e
theorem pm_lc2 {elt tg iter tg1 iter1 : Expr} {ifs ifs1 : List Expr} {scope : Scope} {own : List (Str × Nat)} {ws1 : List Nat} {pos : Pos} {wi wi1 : SM (List A)} {t t1 : Tg} {tt tt1 : SM Bool} {te : SM R} (hc : X.calm = true) (hN : X.N.Nodup) (hi : PMI X tg iter wi) (ok : BlkOk X.N X.env.scope scope own)
    (hws : ∀ i ∈ t.slots, i ∈ own.map (·.2)) (hws1 : ∀ i ∈ t1.slots, i ∈ ws1) (hsub : ∀ i ∈ ws1, i ∈ own.map (·.2))
    (hg : ∀ (s : Shared) (H : Hp) (C : Addr) (cl : List (Str × Addr)) (fp : List Addr), PGM (X.blk s H scope (compEnvC scope cl C X.env) fp) tg t) (ht : ∀ (s : Shared) (H : Hp) (C : Addr) (cl : List (Str × Addr)) (fp : List Addr), PMTs (X.blk s H scope (compEnvC scope cl C X.env) fp) ifs tt)
    (hi1 : ∀ (s : Shared) (H : Hp) (C : Addr) (cl : List (Str × Addr)) (fp : List Addr), PMI (X.blk s H scope (compEnvC scope cl C X.env) fp) tg1 iter1 wi1)
    (hg1 : ∀ (s : Shared) (H : Hp) (C : Addr) (cl : List (Str × Addr)) (fp : List Addr), PGM (X.blk s H scope (compEnvC scope cl C X.env) fp) tg1 t1) (ht1 : ∀ (s : Shared) (H : Hp) (C : Addr) (cl : List (Str × Addr)) (fp : List Addr), PMTs (X.blk s H scope (compEnvC scope cl C X.env) fp) ifs1 tt1)
    (he : ∀ (s : Shared) (H : Hp) (C : Addr) (cl : List (Str × Addr)) (fp : List Addr), PM (X.blk s H scope (compEnvC scope cl C X.env) fp) elt te) (hs : ∀ x, foldedSetIterable iter X.env x = pure x := by intro _; rfl) (hs1 : ∀ env x, foldedSetIterable iter1 env x = pure x := by intro _ _; rfl) :
    PM X (.ListComp elt [⟨tg, iter, ifs, 0⟩, ⟨tg1, iter1, ifs1, 0⟩] scope pos) (mComp2 (own.map (·.2)) ws1 wi t tt wi1 t1 tt1 te) := PE.weak (pe_lc2 (vs1 := ws1) hc hN hi ok hsub hg ht hi1 hg1 ht1 he hs hs1) fun σ H Q h => lc2_ok hws hws1 hsub h
theorem pms_setLc2 {pn i : Nat} {y : Str} {py : Pos} {elt tg iter tg1 iter1 : Expr} {ifs ifs1 : List Expr} {scope : Scope} {own : List (Str × Nat)} {ws1 : List Nat} {pos spos : Pos} {wi wi1 : SM (List A)} {t t1 : Tg} {tt tt1 : SM Bool} {te : SM R} (hpn : pn ≤ i) (hc : X.calm = true) (hN : X.N.Nodup) (hy : X.N[i]? = some y) (hyl : X.env.scope.names.lookup y = some .local)
    (hsw : swapsWith (.ListComp elt [⟨tg, iter, ifs, 0⟩, ⟨tg1, iter1, ifs1, 0⟩] scope pos) (some (.Name y py)) spos.line X.env = pure true) (hi : PMI X tg iter wi) (ok : BlkOk X.N X.env.scope scope own)
    (hws : ∀ i ∈ t.slots, i ∈ own.map (·.2)) (hws1 : ∀ i ∈ t1.slots, i ∈ ws1) (hsub : ∀ i ∈ ws1, i ∈ own.map (·.2))
    (hg : ∀ (s : Shared) (H : Hp) (C : Addr) (cl : List (Str × Addr)) (fp : List Addr), PGM (X.blk s H scope (compEnvC scope cl C X.env) fp) tg t) (ht : ∀ (s : Shared) (H : Hp) (C : Addr) (cl : List (Str × Addr)) (fp : List Addr), PMTs (X.blk s H scope (compEnvC scope cl C X.env) fp) ifs tt)
    (hi1 : ∀ (s : Shared) (H : Hp) (C : Addr) (cl : List (Str × Addr)) (fp : List Addr), PMI (X.blk s H scope (compEnvC scope cl C X.env) fp) tg1 iter1 wi1)
    (hg1 : ∀ (s : Shared) (H : Hp) (C : Addr) (cl : List (Str × Addr)) (fp : List Addr), PGM (X.blk s H scope (compEnvC scope cl C X.env) fp) tg1 t1) (ht1 : ∀ (s : Shared) (H : Hp) (C : Addr) (cl : List (Str × Addr)) (fp : List Addr), PMTs (X.blk s H scope (compEnvC scope cl C X.env) fp) ifs1 tt1)
    (he : ∀ (s : Shared) (H : Hp) (C : Addr) (cl : List (Str × Addr)) (fp : List Addr), PM (X.blk s H scope (compEnvC scope cl C X.env) fp) elt te) (hs : ∀ x, foldedSetIterable iter X.env x = pure x := by intro _; rfl) (hs1 : ∀ env x, foldedSetIterable iter1 env x = pure x := by intro _ _; rfl) :
    PMS pn X (.Assign [.Name y py] (.ListComp elt [⟨tg, iter, ifs, 0⟩, ⟨tg1, iter1, ifs1, 0⟩] scope pos) spos) (sSet i (mComp2 (own.map (·.2)) ws1 wi t tt wi1 t1 tt1 te)) := PS.weak (ps_setLc2 (vs1 := ws1) hc hN hy hyl hsw hi ok hsub hg ht hi1 hg1 ht1 he hs hs1) fun D σ H h => by
  obtain ⟨o, T, sa, f, sa', e, S, q⟩ := h
  obtain ⟨r, s1, e1, e2⟩ := bnd_some e
  obtain ⟨⟨fl, a⟩, s2, eu, e3⟩ := bnd_some e2
  split at e3
  · rename_i hl
    cases e3
    refine lc2_ok hws hws1 hsub ⟨o, T, sa, r, s1, e1, S, fun o1 v H1 L1 S1 R1 => ?_⟩
    obtain ⟨o2, S2, L2, R2, _⟩ := bnd_use S1 R1 eu
    obtain ⟨o3, S3, L3⟩ := SRel.put S2 R2 hl
    exact q o3 _ H1 ((L1.trans L2).trans L3) (Keep.set hpn) S3
  · cases e3
end
end MM
namespace MM
open PySem PySem.Spec PyProof.Rows L2

/-! ### xs[i], xs[k] = two data -/
def st1Ix (j : Nat) (mi : SM R) (z : D) (k : SM Fl) : SM Fl := fun sa => if isL sa[j]? then bnd mi (fun ri sa => match rv ri sa, sa[j]? with
  | some (.d (.int i)), some (some (true, l)) => match setA l i z with
    | some l' => k (sa.set j (some (true, l')))
    | none => none
  | _, _ => none) sa else none
def sSwapIx (j : Nat) (mi mk me : SM R) : SM Fl := bnd me fun r sa => match rv r sa with
  | some (.d (.tup [z1, z2])) => st1Ix j mi z1 (st1Ix j mk z2 (ret .nx)) sa
  | _ => none
section
variable {pn : Nat} {X : Cx} {x : Str} {px pos tpos : Pos} {i : Expr} {j : Nat} {mi : SM R}
theorem st1_ok (hi : PM X i mi) {k : SM Fl} {z : D} {y : V} {sa sa' : List Slot} {f : Fl} {σ : L2.St} {H : Hp} {o : List Addr} {T : Tmp} {Q : L2.St → Hp → Prop} (e : st1Ix j mi z k sa = some (f, sa')) (S : SRel X.K o T sa σ H) (rz : RepD X.K H z y)
    (q : ∀ o' sb H', k sb = some (f, sa') → Le o H o' H' → SRel X.K o' T sb σ H' → Q σ H') : gSub (tVar j) (tOf X.K mi) rSetL y σ H Q := by
  unfold st1Ix at e
  split at e
  · rename_i hl
    obtain ⟨p, ys, ep, hp⟩ := isL_ok S hl
    obtain ⟨r2, s2, em, e3⟩ := bnd_some e
    split at e3
    · rename_i i l ei el
      split at e3
      · rename_i l' el'
        refine ⟨_, ep, o, _, sa, r2, s2, em, S, fun o2 v2 H2 L2 S2 R2 => ?_⟩
        obtain ⟨fb, rb⟩ := rv_rep S2 R2 ei
        obtain ⟨o3, S3, L3⟩ := SRel.pop S2
        obtain ⟨fi, rl, so, ndi, _, put⟩ := SRel.wr (fx := []) S3 el ep S3.nd (fun _ h => nomatch h) S3.sl
        have rz2 : RepD X.K H2 z y := rz.mono (S.imm L2)
        obtain ⟨p', ys', k, fi', ev, hp', hk, mp, rl', nd', sub⟩ := setA_ok rl rz2 el' ndi
        cases ev
        obtain ⟨o5, S5, L5⟩ := put (fun b u e n => by rw [upd_ne (fun z => n (by rw [z]; exact mp))]; exact e) rl' nd' fun b hb => .inl (sub b hb)
        exact ⟨p, ys', i, k, rfl, int_of rb, hp', hk, q o5 _ _ e3 ((L2.trans L3).trans L5) S5⟩
      · cases e3
    · cases e3
  · cases e
theorem pms_swapIx {px2 tpos2 tp : Pos} {kt : Nat} {k e : Expr} {mk me : SM R} (hx : PE X (.Name x px) (tVar j)) (hx2 : PE X (.Name x px2) (tVar j)) (hi : PM X i mi) (hk : PM X k mk) (he : PM X e me) (hc : X.calm = true := by rfl)
    (ha : ∀ v, assign (.Subscript (.Name x px) i tpos) X.env v = (do
      let ov ← holding [v] (eval (.Name x px) X.env)
      let iv ← holding [v, ov] (eval i X.env)
      standAt tpos
      holding [v, ov, iv] (setItem ov iv v)
      release [v, ov, iv] []) := by intro _; rfl)
    (ha2 : ∀ v, assign (.Subscript (.Name x px2) k tpos2) X.env v = (do
      let ov ← holding [v] (eval (.Name x px2) X.env)
      let iv ← holding [v, ov] (eval k X.env)
      standAt tpos2
      holding [v, ov, iv] (setItem ov iv v)
      release [v, ov, iv] []) := by intro _; rfl)
    (hs : swapsWithSole [.Tuple [.Subscript (.Name x px) i tpos, .Subscript (.Name x px2) k tpos2] kt tp] e pos.line X.env = pure false := by rfl) (hw : swappedStores [.Tuple [.Subscript (.Name x px) i tpos, .Subscript (.Name x px2) k tpos2] kt tp] e X.env = pure none := by rfl)
    (h1 : (assignEach [.Tuple [.Subscript (.Name x px) i tpos, .Subscript (.Name x px2) k tpos2] kt tp] X.env).map (·.2) = [assign (.Tuple [.Subscript (.Name x px) i tpos, .Subscript (.Name x px2) k tpos2] kt tp) X.env] := by rfl)
    (hn : (assignEach [.Subscript (.Name x px) i tpos, .Subscript (.Name x px2) k tpos2] X.env).length = 2 := by rfl) (hst : (assignEach [.Subscript (.Name x px) i tpos, .Subscript (.Name x px2) k tpos2] X.env).findIdx? (·.1) = none := by rfl)
    (hp1 : (assignEach [.Subscript (.Name x px) i tpos, .Subscript (.Name x px2) k tpos2] X.env).map (·.2) = assign (.Subscript (.Name x px) i tpos) X.env :: (assignEach [.Subscript (.Name x px2) k tpos2] X.env).map (·.2) := by rfl)
    (hp2 : (assignEach [.Subscript (.Name x px2) k tpos2] X.env).map (·.2) = assign (.Subscript (.Name x px2) k tpos2) X.env :: (assignEach [] X.env).map (·.2) := by rfl) :
    PMS pn X (.Assign [.Tuple [.Subscript (.Name x px) i tpos, .Subscript (.Name x px2) k tpos2] kt tp] e pos) (sSwapIx j mi mk me) :=
  PS.weak (ps_asg he (pg_tup (n := 2) hc (pgs_cons (pg_sub hx hi set_list ha) (pgs_cons (pg_sub hx2 hk set_list ha2) pgs_nil hp2) hp1) hn hst) hs hw h1) fun D σ H h => by
  obtain ⟨o, T, sa, f, sa', e, S, q⟩ := h
  obtain ⟨r1, s1, e1, e2⟩ := bnd_some e
  split at e2
  · rename_i z1 z2 ez
    refine ⟨o, T, sa, r1, s1, e1, S, fun o1 v H1 L1 S1 R1 => ?_⟩
    obtain ⟨fa, ra⟩ := rv_rep S1 R1 ez
    obtain ⟨p, ys, rfl, s, rs⟩ := tup_of ra
    unfold RepDs at rs
    obtain ⟨y1, yr, rfl, ra1, rs⟩ := rs
    unfold RepDs at rs
    obtain ⟨y2, yr, rfl, ra2, rs⟩ := rs
    unfold RepDs at rs
    subst rs
    obtain ⟨o2, S2, L2⟩ := SRel.pop S1
    refine ⟨p, _, rfl, s, rfl, y1, [y2], rfl, st1_ok hi e2 S2 ra1 fun o3 sb H3 e3 L3 S3 => ?_⟩
    refine ⟨y2, [], rfl, st1_ok hk e3 S3 (ra2.mono (S2.imm L3)) fun o4 sc H4 e4 L4 S4 => ?_⟩
    cases e4
    exact ⟨rfl, q o4 σ H4 (((L1.trans L2).trans L3).trans L4) Keep.refl S4⟩
  · cases e2
end
end MM
namespace MM
open PySem PySem.Spec PyProof.Rows L2
section
variable {X : Cx}
theorem pm_lcW {ws : List Nat} {elt tg iter : Expr} {ifs : List Expr} {scope : Scope} {own : List (Str × Nat)} {pos : Pos} {wi : SM (List A)} {t : Tg} {tt : SM Bool} {te : SM R} (hc : X.calm = true) (hN : X.N.Nodup) (hi : PMI X tg iter wi) (ok : BlkOk X.N X.env.scope scope own) (hw : own.map (·.2) = ws) (hws : ∀ i ∈ t.slots, i ∈ ws)
    (hg : ∀ (s : Shared) (H : Hp) (C : Addr) (cl : List (Str × Addr)) (fp : List Addr), PGM (X.blk s H scope (compEnvC scope cl C X.env) fp) tg t) (ht : ∀ (s : Shared) (H : Hp) (C : Addr) (cl : List (Str × Addr)) (fp : List Addr), PMTs (X.blk s H scope (compEnvC scope cl C X.env) fp) ifs tt)
    (he : ∀ (s : Shared) (H : Hp) (C : Addr) (cl : List (Str × Addr)) (fp : List Addr), PM (X.blk s H scope (compEnvC scope cl C X.env) fp) elt te) (hs : ∀ x, foldedSetIterable iter X.env x = pure x := by intro _; rfl) :
    PM X (.ListComp elt [⟨tg, iter, ifs, 0⟩] scope pos) (mComp ws wi t tt te) := by
  subst hw
  exact pm_lc hc hN hi ok hws hg ht he hs
theorem pm_lc2W {ws : List Nat} {elt tg iter tg1 iter1 : Expr} {ifs ifs1 : List Expr} {scope : Scope} {own : List (Str × Nat)} {ws1 : List Nat} {pos : Pos} {wi wi1 : SM (List A)} {t t1 : Tg} {tt tt1 : SM Bool} {te : SM R} (hc : X.calm = true) (hN : X.N.Nodup) (hi : PMI X tg iter wi) (ok : BlkOk X.N X.env.scope scope own) (hw : own.map (·.2) = ws)
    (hws : ∀ i ∈ t.slots, i ∈ ws) (hws1 : ∀ i ∈ t1.slots, i ∈ ws1) (hsub : ∀ i ∈ ws1, i ∈ ws)
    (hg : ∀ (s : Shared) (H : Hp) (C : Addr) (cl : List (Str × Addr)) (fp : List Addr), PGM (X.blk s H scope (compEnvC scope cl C X.env) fp) tg t) (ht : ∀ (s : Shared) (H : Hp) (C : Addr) (cl : List (Str × Addr)) (fp : List Addr), PMTs (X.blk s H scope (compEnvC scope cl C X.env) fp) ifs tt)
    (hi1 : ∀ (s : Shared) (H : Hp) (C : Addr) (cl : List (Str × Addr)) (fp : List Addr), PMI (X.blk s H scope (compEnvC scope cl C X.env) fp) tg1 iter1 wi1)
    (hg1 : ∀ (s : Shared) (H : Hp) (C : Addr) (cl : List (Str × Addr)) (fp : List Addr), PGM (X.blk s H scope (compEnvC scope cl C X.env) fp) tg1 t1) (ht1 : ∀ (s : Shared) (H : Hp) (C : Addr) (cl : List (Str × Addr)) (fp : List Addr), PMTs (X.blk s H scope (compEnvC scope cl C X.env) fp) ifs1 tt1)
    (he : ∀ (s : Shared) (H : Hp) (C : Addr) (cl : List (Str × Addr)) (fp : List Addr), PM (X.blk s H scope (compEnvC scope cl C X.env) fp) elt te) (hs : ∀ x, foldedSetIterable iter X.env x = pure x := by intro _; rfl) (hs1 : ∀ env x, foldedSetIterable iter1 env x = pure x := by intro _ _; rfl) :
    PM X (.ListComp elt [⟨tg, iter, ifs, 0⟩, ⟨tg1, iter1, ifs1, 0⟩] scope pos) (mComp2 ws ws1 wi t tt wi1 t1 tt1 te) := by
  subst hw
  exact pm_lc2 hc hN hi ok hws hws1 hsub hg ht hi1 hg1 ht1 he hs hs1
theorem pms_setLcW {ws : List Nat} {pn i : Nat} {y : Str} {py : Pos} {elt tg iter : Expr} {ifs : List Expr} {scope : Scope} {own : List (Str × Nat)} {pos spos : Pos} {wi : SM (List A)} {t : Tg} {tt : SM Bool} {te : SM R} (hpn : pn ≤ i) (hc : X.calm = true) (hN : X.N.Nodup) (hy : X.N[i]? = some y) (hyl : X.env.scope.names.lookup y = some .local)
    (hsw : swapsWith (.ListComp elt [⟨tg, iter, ifs, 0⟩] scope pos) (some (.Name y py)) spos.line X.env = pure true) (hi : PMI X tg iter wi) (ok : BlkOk X.N X.env.scope scope own) (hw : own.map (·.2) = ws) (hws : ∀ i ∈ t.slots, i ∈ ws)
    (hg : ∀ (s : Shared) (H : Hp) (C : Addr) (cl : List (Str × Addr)) (fp : List Addr), PGM (X.blk s H scope (compEnvC scope cl C X.env) fp) tg t) (ht : ∀ (s : Shared) (H : Hp) (C : Addr) (cl : List (Str × Addr)) (fp : List Addr), PMTs (X.blk s H scope (compEnvC scope cl C X.env) fp) ifs tt)
    (he : ∀ (s : Shared) (H : Hp) (C : Addr) (cl : List (Str × Addr)) (fp : List Addr), PM (X.blk s H scope (compEnvC scope cl C X.env) fp) elt te) (hs : ∀ x, foldedSetIterable iter X.env x = pure x := by intro _; rfl) :
    PMS pn X (.Assign [.Name y py] (.ListComp elt [⟨tg, iter, ifs, 0⟩] scope pos) spos) (sSet i (mComp ws wi t tt te)) := by
  subst hw
  exact pms_setLc hpn hc hN hy hyl hsw hi ok hws hg ht he hs
theorem pms_setLc2W {ws : List Nat} {pn i : Nat} {y : Str} {py : Pos} {elt tg iter tg1 iter1 : Expr} {ifs ifs1 : List Expr} {scope : Scope} {own : List (Str × Nat)} {ws1 : List Nat} {pos spos : Pos} {wi wi1 : SM (List A)} {t t1 : Tg} {tt tt1 : SM Bool} {te : SM R} (hpn : pn ≤ i) (hc : X.calm = true) (hN : X.N.Nodup) (hy : X.N[i]? = some y) (hyl : X.env.scope.names.lookup y = some .local)
    (hsw : swapsWith (.ListComp elt [⟨tg, iter, ifs, 0⟩, ⟨tg1, iter1, ifs1, 0⟩] scope pos) (some (.Name y py)) spos.line X.env = pure true) (hi : PMI X tg iter wi) (ok : BlkOk X.N X.env.scope scope own) (hw : own.map (·.2) = ws)
    (hws : ∀ i ∈ t.slots, i ∈ ws) (hws1 : ∀ i ∈ t1.slots, i ∈ ws1) (hsub : ∀ i ∈ ws1, i ∈ ws)
    (hg : ∀ (s : Shared) (H : Hp) (C : Addr) (cl : List (Str × Addr)) (fp : List Addr), PGM (X.blk s H scope (compEnvC scope cl C X.env) fp) tg t) (ht : ∀ (s : Shared) (H : Hp) (C : Addr) (cl : List (Str × Addr)) (fp : List Addr), PMTs (X.blk s H scope (compEnvC scope cl C X.env) fp) ifs tt)
    (hi1 : ∀ (s : Shared) (H : Hp) (C : Addr) (cl : List (Str × Addr)) (fp : List Addr), PMI (X.blk s H scope (compEnvC scope cl C X.env) fp) tg1 iter1 wi1)
    (hg1 : ∀ (s : Shared) (H : Hp) (C : Addr) (cl : List (Str × Addr)) (fp : List Addr), PGM (X.blk s H scope (compEnvC scope cl C X.env) fp) tg1 t1) (ht1 : ∀ (s : Shared) (H : Hp) (C : Addr) (cl : List (Str × Addr)) (fp : List Addr), PMTs (X.blk s H scope (compEnvC scope cl C X.env) fp) ifs1 tt1)
    (he : ∀ (s : Shared) (H : Hp) (C : Addr) (cl : List (Str × Addr)) (fp : List Addr), PM (X.blk s H scope (compEnvC scope cl C X.env) fp) elt te) (hs : ∀ x, foldedSetIterable iter X.env x = pure x := by intro _; rfl) (hs1 : ∀ env x, foldedSetIterable iter1 env x = pure x := by intro _ _; rfl) :
    PMS pn X (.Assign [.Name y py] (.ListComp elt [⟨tg, iter, ifs, 0⟩, ⟨tg1, iter1, ifs1, 0⟩] scope pos) spos) (sSet i (mComp2 ws ws1 wi t tt wi1 t1 tt1 te)) := by
  subst hw
  exact pms_setLc2 hpn hc hN hy hyl hsw hi ok hws hws1 hsub hg ht hi1 hg1 ht1 he hs hs1
end
end MM
namespace MM
open PySem PySem.Spec PyProof.Rows L2

/-! ### running: the terms on a given state -/
/-- m ends in r with Q -/
def Ok {α : Type} (m : SM α) (sa : List Slot) (Q : α → List Slot → Prop) : Prop := ∃ r sa', m sa = some (r, sa') ∧ Q r sa'
def obind {α β : Type} (x : Option (α × List Slot)) (f : α → SM β) : Option (β × List Slot) := match x with
  | some (a, s) => f a s
  | none => none
section
variable {α β : Type} {s : List Slot} {a : α} {f : α → SM β} {x : A} {fl : Bool} {j : Nat}
@[simp] theorem obind_some : obind (some (a, s)) f = f a s := rfl
@[simp] theorem obind_none : obind none f = none := rfl
@[simp] theorem run_bnd {m : SM α} : bnd m f s = obind (m s) f := by unfold bnd obind; cases m s <;> rfl
@[simp] theorem run_ret : ret a s = some (a, s) := rfl
@[simp] theorem run_mC {z : D} : mC z s = some (.val false (.d z), s) := rfl
/-- a slot that is known -/
def peekO : Option Slot → Nat → List Slot → Option (R × List Slot)
  | some (some _), j, s => some (.peek j, s)
  | _, _, _ => none
@[simp] theorem peekO_some {p : Bool × A} : peekO (some (some p)) j s = some (.peek j, s) := rfl
@[simp] theorem run_mV : mV j s = peekO s[j]? j s := by unfold mV peekO; split <;> simp_all
@[simp] theorem rv_val : rv (.val fl x) s = some x := rfl
def rvO : Option Slot → Option A
  | some (some p) => some p.2
  | _ => none
@[simp] theorem rvO_some {p : Bool × A} : rvO (some (some p)) = some p.2 := rfl
@[simp] theorem rv_peek : rv (.peek j) s = rvO s[j]? := by unfold rv rvO; rfl
@[simp] theorem use_val : use (.val fl x) s = some ((fl, x), s) := rfl
def useO : Option Slot → Nat → List Slot → Option ((Bool × A) × List Slot)
  | some (some (_, a)), j, s => some ((false, a), s.set j (some (false, a)))
  | _, _, _ => none
@[simp] theorem useO_some : useO (some (some (fl, x))) j s = some ((false, x), s.set j (some (false, x))) := rfl
@[simp] theorem use_peek : use (.peek j) s = useO s[j]? j s := by
  show (match s[j]? with
    | some (some (_, a)) => some ((false, a), s.set j (some (false, a)))
    | _ => none) = _
  unfold useO
  split <;> simp_all
def useMO : Option Slot → Nat → List Slot → Option ((Bool × A) × List Slot)
  | some (some p), j, s => some (p, s.set j none)
  | _, _, _ => none
@[simp] theorem useMO_some {p : Bool × A} : useMO (some (some p)) j s = some (p, s.set j none) := rfl
@[simp] theorem useM_val : useM (.val fl x) s = some ((fl, x), s) := rfl
@[simp] theorem useM_peek : useM (.peek j) s = useMO s[j]? j s := by
  show (match s[j]? with
    | some (some p) => some (p, s.set j none)
    | _ => none) = _
  unfold useMO
  split <;> simp_all
def o1 (x : Option A) (g : A → Option A) (s : List Slot) : Option (R × List Slot) := match x with
  | some a => match g a with
    | some c => some (fin c, s)
    | none => none
  | none => none
def ofin (x : Option A) (s : List Slot) : Option (R × List Slot) := match x with
  | some c => some (fin c, s)
  | none => none
@[simp] theorem ofin_some {c : A} : ofin (some c) s = some (fin c, s) := rfl
@[simp] theorem fin_d {z : D} : fin (.d z) = .val false (.d z) := rfl
@[simp] theorem fin_ls {z : List D} : fin (.ls z) = .val true (.ls z) := rfl
@[simp] theorem fin_lst {z : List A} : fin (.lst z) = .val true (.lst z) := rfl
@[simp] theorem fin_tpl {z : List A} : fin (.tpl z) = .val true (.tpl z) := rfl
def ob1 (x : Option A) (g : A → Option A) : Option A := x.bind g
@[simp] theorem run_app1 {g : A → Option A} {r : R} : app1 g r s = ofin ((rv r s).bind g) s := by
  unfold app1 ofin
  cases rv r s with
  | none => rfl
  | some a => rfl
def bind2 {γ : Type} (x y : Option A) (g : A → A → Option γ) : Option γ := match x, y with
  | some a, some b => g a b
  | _, _ => none
@[simp] theorem bind2_some {γ : Type} {a b : A} {g : A → A → Option γ} : bind2 (some a) (some b) g = g a b := rfl
@[simp] theorem run_app2 {g : A → A → Option A} {r1 r2 : R} : app2 g r1 r2 s = ofin (bind2 (rv r1 s) (rv r2 s) g) s := by
  unfold app2 ofin bind2
  cases rv r1 s <;> cases rv r2 s <;> rfl
@[simp] theorem rvs_nil : rvs [] s = some [] := rfl
def ocons {γ : Type} : Option γ → Option (List γ) → Option (List γ)
  | some a, some as => some (a :: as)
  | _, _ => none
@[simp] theorem ocons_some {γ : Type} {a : γ} {as : List γ} : ocons (some a) (some as) = some (a :: as) := rfl
@[simp] theorem rvs_cons {r : R} {rs : List R} : rvs (r :: rs) s = ocons (rv r s) (rvs rs s) := by
  show (match rv r s, rvs rs s with
    | some a, some as => some (a :: as)
    | _, _ => none) = _
  unfold ocons
  split <;> simp_all
@[simp] theorem run_appN {g : List A → Option A} {rs : List R} : appN g rs s = ofin ((rvs rs s).bind g) s := by
  unfold appN ofin
  cases rvs rs s with
  | none => rfl
  | some a => rfl
@[simp] theorem run_m1 {g : A → Option A} {m : SM R} : m1 g m s = obind (m s) fun r => app1 g r := by unfold m1; exact run_bnd
@[simp] theorem run_m2 {g : A → A → Option A} {m n : SM R} : m2 g m n s = obind (m s) fun r1 => bnd n fun r2 => app2 g r1 r2 := by unfold m2; exact run_bnd
@[simp] theorem run_mN {g : List A → Option A} {m : SM (List R)} : mN g m s = obind (m s) fun rs => appN g rs := by unfold mN; exact run_bnd
@[simp] theorem run_mNil : mNil s = some ([], s) := rfl
@[simp] theorem run_mCons {m : SM R} {ms : SM (List R)} : mCons m ms s = obind (m s) fun r => bnd ms fun rs => ret (r :: rs) := by unfold mCons; exact run_bnd
def okB (x : Option Bool) (s : List Slot) : Option (Bool × List Slot) := match x with
  | some k => some (k, s)
  | none => none
@[simp] theorem okB_some {k : Bool} : okB (some k) s = some (k, s) := rfl
@[simp] theorem run_cmp2 {g : A → A → Option Bool} {r1 r2 : R} : cmp2 g r1 r2 s = okB (bind2 (rv r1 s) (rv r2 s) g) s := by
  unfold cmp2 okB bind2
  cases rv r1 s with
  | none => cases rv r2 s <;> rfl
  | some a =>
    cases rv r2 s with
    | none => rfl
    | some b => cases h : g a b <;> simp [h]
@[simp] theorem run_tCmpM {g : A → A → Option Bool} {m n : SM R} : tCmpM g m n s = obind (m s) fun r1 => bnd n fun r2 => cmp2 g r1 r2 := by unfold tCmpM; exact run_bnd
@[simp] theorem run_asV {m : SM Bool} : asV m s = obind (m s) fun k => ret (.val false (.d (.bl k))) := by unfold asV; exact run_bnd
@[simp] theorem run_tru1 {r : R} : tru1 r s = okB ((rv r s).bind truA) s := by
  unfold tru1 okB
  cases rv r s with
  | none => rfl
  | some a => cases h : truA a <;> simp [h]
@[simp] theorem run_mTru {m : SM R} : mTru m s = obind (m s) tru1 := by unfold mTru; exact run_bnd
@[simp] theorem run_tNotM {m : SM Bool} : tNotM m s = obind (m s) fun k => ret (!k) := by unfold tNotM; exact run_bnd
def iteM {γ : Type} (k : Bool) (a b : SM γ) : SM γ := if k then a else b
@[simp] theorem iteM_t {γ : Type} {a b : SM γ} : iteM true a b = a := rfl
@[simp] theorem iteM_f {γ : Type} {a b : SM γ} : iteM false a b = b := rfl
@[simp] theorem run_tAndM {m n : SM Bool} : tAndM m n s = obind (m s) fun k => iteM k n (ret false) := by unfold tAndM; exact run_bnd
@[simp] theorem run_tOrM {m n : SM Bool} : tOrM m n s = obind (m s) fun k => iteM k (ret true) n := by unfold tOrM; exact run_bnd
@[simp] theorem run_mIf {t : SM Bool} {m n : SM R} : mIf t m n s = obind (t s) fun k => iteM k m n := by unfold mIf; exact run_bnd
def andO (x : Option Bool) (n : SM R) (s : List Slot) : Option (R × List Slot) := match x with
  | some true => n s
  | some false => some (.val false (.d (.bl false)), s)
  | none => none
def orO (x : Option Bool) (n : SM R) (s : List Slot) : Option (R × List Slot) := match x with
  | some false => n s
  | some true => some (.val false (.d (.bl true)), s)
  | none => none
@[simp] theorem andO_t {n : SM R} : andO (some true) n s = n s := rfl
@[simp] theorem andO_f {n : SM R} : andO (some false) n s = some (.val false (.d (.bl false)), s) := rfl
@[simp] theorem orO_t {n : SM R} : orO (some true) n s = some (.val false (.d (.bl true)), s) := rfl
@[simp] theorem orO_f {n : SM R} : orO (some false) n s = n s := rfl
@[simp] theorem run_mAndV {m n : SM R} : mAndV m n s = obind (m s) fun r s => andO (boolOf r s) n s := by unfold mAndV; exact run_bnd
@[simp] theorem run_mOrV {m n : SM R} : mOrV m n s = obind (m s) fun r s => orO (boolOf r s) n s := by unfold mOrV; exact run_bnd
def notO (x : Option Bool) (s : List Slot) : Option (R × List Slot) := match x with
  | some k => some (.val false (.d (.bl (!k))), s)
  | none => none
@[simp] theorem notO_some {k : Bool} : notO (some k) s = some (.val false (.d (.bl (!k))), s) := rfl
@[simp] theorem run_mNotV {m : SM R} : mNotV m s = obind (m s) fun r s => notO (boolOf r s) s := by unfold mNotV; exact run_bnd
@[simp] theorem boolOf_val {b : Bool} : boolOf (.val false (.d (.bl b))) s = some b := rfl
def boO : Option Slot → Option Bool
  | some (some (_, .d (.bl b))) => some b
  | _ => none
@[simp] theorem boO_some {b : Bool} : boO (some (some (fl, .d (.bl b)))) = some b := rfl
@[simp] theorem boolOf_peek : boolOf (.peek j) s = boO s[j]? := by
  show (match rv (.peek j) s with
    | some (.d (.bl b)) => some b
    | _ => none) = _
  rw [rv_peek]
  unfold rvO boO
  cases s[j]? with
  | none => rfl
  | some p =>
    cases p with
    | none => rfl
    | some q =>
      obtain ⟨f, a⟩ := q
      cases a with
      | d z => cases z <;> rfl
      | _ => rfl
@[simp] theorem run_chain {g g' : A → A → Option Bool} {ma mb mc : SM R} : tChainM g g' ma mb mc s = obind (ma s) fun r1 => bnd mb fun r2 => bnd (cmp2 g r1 r2) fun k => iteM k (bnd mc fun r3 => cmp2 g' r2 r3) (ret false) := by unfold tChainM; exact run_bnd
@[simp] theorem od_val {a : A} : od (.val true a) s = some a := rfl
@[simp] theorem od_d {z : D} : od (.val false (.d z)) s = some (.d z) := rfl
def odO : Option Slot → Option A
  | some (some (_, .d z)) => some (.d z)
  | _ => none
@[simp] theorem odO_some {z : D} : odO (some (some (fl, .d z))) = some (.d z) := rfl
@[simp] theorem od_peek : od (.peek j) s = odO s[j]? := by
  show (match rv (.peek j) s with
    | some (A.d x) => some (A.d x)
    | _ => none) = _
  rw [rv_peek]
  unfold rvO odO
  cases s[j]? with
  | none => rfl
  | some p =>
    cases p with
    | none => rfl
    | some q =>
      obtain ⟨f, a⟩ := q
      cases a <;> rfl
@[simp] theorem ods_nil : ods [] s = some [] := rfl
@[simp] theorem ods_cons {r : R} {rs : List R} : ods (r :: rs) s = ocons (od r s) (ods rs s) := by
  show (match od r s, ods rs s with
    | some a, some as => some (a :: as)
    | _, _ => none) = _
  unfold ocons
  split <;> simp_all
def seqO (x : Option (List A)) (g : List A → A) (s : List Slot) : Option (R × List Slot) := match x with
  | some as => if szB as.length then some (fin (g as), s) else none
  | none => none
theorem seqO_some {as : List A} {g : List A → A} (h : szB as.length = true) : seqO (some as) g s = some (fin (g as), s) := by unfold seqO; simp only [h]; rfl
@[simp] theorem run_mTup {ms : SM (List R)} : mTup ms s = obind (ms s) fun rs s => seqO (ods rs s) mkT s := by unfold mTup; exact run_bnd
@[simp] theorem run_mLst {ms : SM (List R)} : mLst ms s = obind (ms s) fun rs s => seqO (ods rs s) mkL s := by unfold mLst; exact run_bnd
def ixO (x i : Option A) (r1 : R) (s : List Slot) : Option (R × List Slot) := match x, i with
  | some a, some i => match ixA a i with
    | some (.d z) => some (.val false (.d z), s)
    | some c => match r1 with
      | .val fl _ => some (.val fl c, s)
      | .peek j => some (.val false c, downg j s)
    | none => none
  | _, _ => none
@[simp] theorem run_mIx {m n : SM R} : mIx m n s = obind (m s) fun r1 => bnd n fun r2 s => ixO (rv r1 s) (rv r2 s) r1 s := by unfold mIx; exact run_bnd
theorem ixO_d {a i : A} {r1 : R} {z : D} (h : ixA a i = some (.d z)) : ixO (some a) (some i) r1 s = some (.val false (.d z), s) := by unfold ixO; simp [h]
@[simp] theorem run_mSl {m : SM R} {l h : SM (Option Int)} : mSl m l h s = obind (m s) fun r => bnd l fun lo => bnd h fun hi => app1 (slA lo hi) r := by unfold mSl; exact run_bnd
@[simp] theorem run_partN : partN s = some (none, s) := rfl
def partO : Option A → List Slot → Option (Option Int × List Slot)
  | some (.d (.int i)), s => some (some i, s)
  | _, _ => none
@[simp] theorem partO_some {i : Int} : partO (some (.d (.int i))) s = some (some i, s) := rfl
def partR (r : R) (s : List Slot) : Option (Option Int × List Slot) := match r with
  | .val true _ => none
  | r => partO (rv r s) s
@[simp] theorem partR_val {i : Int} : partR (.val false (.d (.int i))) s = some (some i, s) := rfl
@[simp] theorem partR_peek : partR (.peek j) s = partO (rvO s[j]?) s := rfl
@[simp] theorem run_partS {m : SM R} : partS m s = obind (m s) partR := by
  unfold partS
  rw [run_bnd]
  congr 1
  funext r s
  have key : ∀ x : Option A, (match x with
    | some (.d (.int i)) => some (some i, s)
    | _ => none) = partO x s := fun x => by
    cases x with
    | none => rfl
    | some a =>
      cases a with
      | d z => cases z <;> rfl
      | _ => rfl
  cases r with
  | val f a =>
    cases f with
    | true => rfl
    | false => exact key _
  | peek i => exact key _
@[simp] theorem run_sNop : sNop s = some (.nx, s) := rfl
@[simp] theorem run_sBk : sBk s = some (.bk, s) := rfl
@[simp] theorem run_sCt : sCt s = some (.ct, s) := rfl
def seqF (b : SM Fl) (f : Fl) : SM Fl := match f with
  | .nx => b
  | f => ret f
@[simp] theorem seqF_nx {b : SM Fl} : seqF b .nx = b := rfl
@[simp] theorem seqF_bk {b : SM Fl} : seqF b .bk = ret .bk := rfl
@[simp] theorem seqF_ct {b : SM Fl} : seqF b .ct = ret .ct := rfl
@[simp] theorem seqF_rt {b : SM Fl} {a : A} : seqF b (.rt fl a) = ret (.rt fl a) := rfl
@[simp] theorem run_sSeq {m n : SM Fl} : sSeq m n s = obind (m s) (seqF n) := by unfold sSeq; exact run_bnd
@[simp] theorem run_sIf {t : SM Bool} {m n : SM Fl} : sIf t m n s = obind (t s) fun k => iteM k m n := by unfold sIf; exact run_bnd
@[simp] theorem run_sExpr {m : SM R} : sExpr m s = obind (m s) fun _ => ret .nx := by unfold sExpr; exact run_bnd
def setO (j : Nat) (p : Bool × A) : SM Fl := fun s => if j < s.length then some (.nx, s.set j (some p)) else none
@[simp] theorem setO_run {p : Bool × A} (h : j < s.length) : setO j p s = some (.nx, s.set j (some p)) := by unfold setO; rw [if_pos h]
@[simp] theorem run_sSet {m : SM R} : sSet j m s = obind (m s) fun r => bnd (use r) (setO j) := by unfold sSet; exact run_bnd
@[simp] theorem run_sRet {m : SM R} : sRet m s = obind (m s) fun r => bnd (useM r) fun p => ret (.rt p.1 p.2) := by unfold sRet; exact run_bnd
@[simp] theorem run_sRetN : sRetN s = some (.rt false (.d .non), s) := rfl
def six (j : Nat) (z i : Option A) (l : Option Slot) (s : List Slot) : Option (Fl × List Slot) := match z, i, l with
  | some (.d z), some (.d (.int i)), some (some (true, l)) => match setA l i z with
    | some l' => some (.nx, s.set j (some (true, l')))
    | none => none
  | _, _, _ => none
theorem six_some {z : D} {i : Int} {l l' : A} (h : setA l i z = some l') : six j (some (.d z)) (some (.d (.int i))) (some (some (true, l))) s = some (.nx, s.set j (some (true, l'))) := by unfold six; simp [h]
theorem run_sSetIx {mi me : SM R} {r ri : R} {s1 s2 : List Slot} (h1 : me s = some (r, s1)) (h2 : isL s1[j]? = true) (h3 : mi s1 = some (ri, s2)) : sSetIx j mi me s = six j (rv r s2) (rv ri s2) s2[j]? s2 := by
  unfold sSetIx
  rw [run_bnd, h1, obind_some, if_pos h2, run_bnd, h3, obind_some]
  unfold six
  split
  · rename_i z i l q1 q2 q3
    first
    | (rw [q1, q2, q3]; cases h : setA l i z <;> simp [h])
    | (cases h : setA l i z <;> rfl)
  · rename_i q
    first
    | rfl
    | (split
       · rename_i q1 q2 q3
         exact (q _ _ _ q1 q2 q3).elim
       · rfl)
end
theorem mulB_l {i j : Int} (h : (-(2 ^ 64) < i ∧ i < 2 ^ 64)) : mulB i j = true := by
  unfold mulB
  rw [decide_eq_true h]
  rfl
theorem mulB_r {i j : Int} (h : (-(2 ^ 64) < j ∧ j < 2 ^ 64)) : mulB i j = true := by
  unfold mulB
  rw [decide_eq_true h, Bool.or_true]
  rfl
@[simp] theorem mulA_int {i j : Int} : mulA (.d (.int i)) (.d (.int j)) = if mulB i j then some (.i (i * j)) else none := rfl
@[simp] theorem addA_int {i j : Int} : addA (.d (.int i)) (.d (.int j)) = some (.i (i + j)) := rfl
@[simp] theorem subA_int {i j : Int} : subA (.d (.int i)) (.d (.int j)) = some (.i (i - j)) := rfl
@[simp] theorem modA_int {i j : Int} : modA (.d (.int i)) (.d (.int j)) = if j = 0 then none else some (.i (i.fmod j)) := rfl
@[simp] theorem fdivA_int {i j : Int} : fdivA (.d (.int i)) (.d (.int j)) = if divB j then some (.i (i.fdiv j)) else none := rfl
@[simp] theorem negA_int {i : Int} : negA (.d (.int i)) = some (.i (-i)) := rfl
@[simp] theorem ltA_int {i j : Int} : ltA (.d (.int i)) (.d (.int j)) = some (decide (i < j)) := rfl
@[simp] theorem leA_int {i j : Int} : leA (.d (.int i)) (.d (.int j)) = some (decide (i ≤ j)) := rfl
@[simp] theorem gtA_int {i j : Int} : gtA (.d (.int i)) (.d (.int j)) = some (decide (j < i)) := rfl
@[simp] theorem geA_int {i j : Int} : geA (.d (.int i)) (.d (.int j)) = some (decide (j ≤ i)) := rfl
@[simp] theorem intA_int {i : Int} : intA (.d (.int i)) = some (.i i) := rfl
@[simp] theorem f1_one {g : A → Option A} {a : A} : f1 g [a] = g a := rfl
@[simp] theorem f2_two {g : A → A → Option A} {a b : A} : f2 g [a, b] = g a b := rfl
theorem szB_of {n : Nat} (h : n ≤ 16777216) : szB n = true := decide_eq_true h
end MM
namespace MM
open PySem PySem.Spec PyProof.Rows L2

/-! ### _law_load: its cells are lent out of the box while it runs -/
def m_mix : SM Fl := (sSeq (sSet 4 (m2 modA (mN (f1 intA) (mCons (m2 addA (m2 mulA (mIx (mV 0) (mC (.int 2))) (mC (.int 48271))) (mC (.int 17))) mNil)) (mC (.int 2147483629))))
    (sSeq (sSet 5 (m2 modA (mN (f1 intA) (mCons (m2 addA (m2 mulA (mV 4) (mC (.int 69621))) (mC (.int 5))) mNil)) (mC (.int 2147483587))))
    (sSeq (sSetIx 0 (mC (.int 2)) (m2 modA (mN (f1 intA) (mCons (m2 addA (m2 mulA (mV 5) (mC (.int 40692))) (mC (.int 3))) mNil)) (mC (.int 2147483563))))
    (sRet (m2 addA (m2 addA (m2 mulA (mV 4) (mC (.int 4611686014132420609))) (m2 mulA (mV 5) (mC (.int 2147483647)))) (mIx (mV 0) (mC (.int 2))))))))
def m_pop : SM Fl := sIf (tCmpM gtA (mN (f1 lenA) (mCons (mV 1) mNil)) (mC (.int 0))) (sSeq (sSet 2 (mN (f1 intA) (mCons (mPopAt 1 (mC (.int 0))) mNil)))
    (sSeq (sSet 3 (mIf (tCmpM geA (mV 2) (mC (.int 0))) (m2 mulA (mC (.int 2)) (mV 2)) (m2 subA (m2 mulA (m1 negA (mC (.int 2))) (mV 2)) (mC (.int 1)))))
    (sSeq (sIf (tCmpM geA (mV 3) (mC (.int 1000000000000000000))) (sRet (mV 3)) sNop)
    (sSetIx 0 (mC (.int 2)) (m2 modA (mN (f1 intA) (mCons (m2 addA (m2 addA (m2 mulA (mIx (mV 0) (mC (.int 2))) (mC (.int 69621))) (m2 mulA (mV 3) (mC (.int 48271)))) (mC (.int 11))) mNil)) (mC (.int 2147483647))))))) sNop
def m_load : SM Fl := sSeq m_pop m_mix
/-- two more numbers and the last -/
def mixV (y : Int) : Int × Int :=
  ((y * 48271 + 17).fmod 2147483629 * 4611686014132420609 + ((y * 48271 + 17).fmod 2147483629 * 69621 + 5).fmod 2147483587 * 2147483647 + (((y * 48271 + 17).fmod 2147483629 * 69621 + 5).fmod 2147483587 * 40692 + 3).fmod 2147483563,
   (((y * 48271 + 17).fmod 2147483629 * 69621 + 5).fmod 2147483587 * 40692 + 3).fmod 2147483563)
def sizeV (c : Int) : Int := if 0 ≤ c then 2 * c else -2 * c - 1
def loadV (cs : List Int) (y : Int) : Int × List Int × Int := match cs with
  | [] => ((mixV y).1, [], (mixV y).2)
  | c :: r => if 1000000000000000000 ≤ sizeV c then (sizeV c, r, y) else ((mixV ((y * 69621 + sizeV c * 48271 + 11).fmod 2147483647)).1, r, (mixV ((y * 69621 + sizeV c * 48271 + 11).fmod 2147483647)).2)
def F_load : A → List D → Option (D × A)
  | .lst [.ls ds, .d (.int x), .d (.int y)], [] => match intsD ds with
    | some cs => if szB cs.length then some (.int (loadV cs y).1, .lst [.ls ((loadV cs y).2.1.map .int), .d (.int x), .d (.int (loadV cs y).2.2)]) else none
    | none => none
  | _, _ => none
theorem ix2 {v x y : A} : ixA (.lst [v, x, y]) (.d (.int 2)) = some y := rfl
theorem set2 {v x y : A} {z : D} : setA (.lst [v, x, y]) 2 z = some (.lst [v, x, .d z]) := rfl
theorem mix_run (v : D) (l : A) (x y : Int) (s2 s3 : Slot) : ∃ t : List Slot, m_mix [some (true, .lst [.d v, .d (.int x), .d (.int y)]), some (true, l), s2, s3, none, none] =
    some (.rt false (.d (.int (mixV y).1)), some (true, .lst [.d v, .d (.int x), .d (.int (mixV y).2)]) :: some (true, l) :: t) := by
  refine ⟨[s2, s3, some (false, .d (.int ((y * 48271 + 17).fmod 2147483629))), some (false, .d (.int ((((y * 48271 + 17).fmod 2147483629) * 69621 + 5).fmod 2147483587)))], ?_⟩
  have e3 : ∀ (b : Int) (s1 : List Slot), s1[5]? = some (some (false, .d (.int b))) → (m2 modA (mN (f1 intA) (mCons (m2 addA (m2 mulA (mV 5) (mC (.int 40692))) (mC (.int 3))) mNil)) (mC (.int 2147483563))) s1 = some (.val false (.d (.int ((b * 40692 + 3).fmod 2147483563))), s1) := fun b s1 h => by
    simp [h, mulB_r]
  unfold m_mix
  simp [ixO_d ix2, mulB_r]
  rw [run_sSetIx (e3 _ _ rfl) rfl run_mC]
  simp [six_some set2]
  simp [ixO_d ix2, mulB_r]
  simp [mixV]
@[simp] theorem lenA_ls {xs : List D} : lenA (.ls xs) = some (.i xs.length) := rfl
theorem popAt_run {s : List Slot} {j : Nat} {x : D} {xs : List D} (h : s[j]? = some (some (true, .ls (x :: xs)))) (hz : szB (xs.length + 1) = true) : mPopAt j (mC (.int 0)) s = some (.val false (.d x), s.set j (some (true, .ls xs))) := by
  unfold mPopAt
  rw [h, if_pos (show isL (some (some (true, .ls (x :: xs)))) = true from rfl), run_bnd, run_mC, obind_some]
  simp only [rv_val, h]
  have e1 : ixN (xs.length + 1) 0 = some 0 := by
    unfold ixN
    rw [if_pos (by omega), if_pos (by omega)]
    rfl
  simp only [List.length_cons, e1, hz, if_true, List.getElem?_cons_zero, List.eraseIdx_zero, List.tail_cons]
theorem load_run (v : D) (cs : List Int) (x y : Int) (hz : szB cs.length = true) : ∃ t : List Slot, m_load [some (true, .lst [.d v, .d (.int x), .d (.int y)]), some (true, .ls (cs.map .int)), none, none, none, none] =
    some (.rt false (.d (.int (loadV cs y).1)), some (true, .lst [.d v, .d (.int x), .d (.int (loadV cs y).2.2)]) :: some (true, .ls ((loadV cs y).2.1.map .int)) :: t) := by
  unfold m_load
  rw [run_sSeq]
  cases cs with
  | nil =>
    have e : m_pop [some (true, .lst [.d v, .d (.int x), .d (.int y)]), some (true, .ls []), none, none, none, none] = some (.nx, [some (true, .lst [.d v, .d (.int x), .d (.int y)]), some (true, .ls []), none, none, none, none]) := by
      unfold m_pop
      simp
    rw [List.map_nil, e, obind_some, seqF_nx]
    exact mix_run v _ x y _ _
  | cons c r =>
    have hz' : szB ((r.map D.int).length + 1) = true := by simpa using hz
    have e0 := popAt_run (j := 1) (s := [some (true, .lst [.d v, .d (.int x), .d (.int y)]), some (true, .ls (.int c :: r.map .int)), none, none, none, none]) rfl hz'
    have e1 : (mIf (tCmpM geA (mV 2) (mC (.int 0))) (m2 mulA (mC (.int 2)) (mV 2)) (m2 subA (m2 mulA (m1 negA (mC (.int 2))) (mV 2)) (mC (.int 1)))) [some (true, .lst [.d v, .d (.int x), .d (.int y)]), some (true, .ls (r.map .int)), some (false, .d (.int c)), none, none, none] =
        some (.val false (.d (.int (sizeV c))), [some (true, .lst [.d v, .d (.int x), .d (.int y)]), some (true, .ls (r.map .int)), some (false, .d (.int c)), none, none, none]) := by
      unfold sizeV
      by_cases hc : 0 ≤ c
      · simp [hc, mulB_l]
      · simp [hc, mulB_l]
    have e3 : ∀ (s1 : List Slot), s1[0]? = some (some (true, .lst [.d v, .d (.int x), .d (.int y)])) → s1[3]? = some (some (false, .d (.int (sizeV c)))) → (m2 modA (mN (f1 intA) (mCons (m2 addA (m2 addA (m2 mulA (mIx (mV 0) (mC (.int 2))) (mC (.int 69621))) (m2 mulA (mV 3) (mC (.int 48271)))) (mC (.int 11))) mNil)) (mC (.int 2147483647))) s1 = some (.val false (.d (.int ((y * 69621 + sizeV c * 48271 + 11).fmod 2147483647))), s1) := fun s1 h h' => by
      simp [h, h', ixO_d ix2, mulB_r]
    have hgt : decide ((0 : Int) < ((r.map D.int).length : Int) + 1) = true := decide_eq_true (by omega)
    by_cases hs : 1000000000000000000 ≤ sizeV c
    · have e : m_pop [some (true, .lst [.d v, .d (.int x), .d (.int y)]), some (true, .ls ((c :: r).map .int)), none, none, none, none] = some (.rt false (.d (.int (sizeV c))), [some (true, .lst [.d v, .d (.int x), .d (.int y)]), some (true, .ls (r.map .int)), some (false, .d (.int c)), none, none, none]) := by
        unfold m_pop
        rw [List.map_cons]
        generalize hm : mIf (tCmpM geA (mV 2) (mC (.int 0))) (m2 mulA (mC (.int 2)) (mV 2)) (m2 subA (m2 mulA (m1 negA (mC (.int 2))) (mV 2)) (mC (.int 1))) = mm at e1
        have h0 : (0 : Int) < (r.length : Int) + 1 := by omega
        simp [e0, e1, h0, hs]
      rw [e, obind_some, seqF_rt, run_ret]
      simp only [loadV, if_pos hs]
      exact ⟨_, rfl⟩
    · have e : m_pop [some (true, .lst [.d v, .d (.int x), .d (.int y)]), some (true, .ls ((c :: r).map .int)), none, none, none, none] =
          some (.nx, [some (true, .lst [.d v, .d (.int x), .d (.int ((y * 69621 + sizeV c * 48271 + 11).fmod 2147483647))]), some (true, .ls (r.map .int)), some (false, .d (.int c)), some (false, .d (.int (sizeV c))), none, none]) := by
        unfold m_pop
        rw [List.map_cons]
        generalize hm : mIf (tCmpM geA (mV 2) (mC (.int 0))) (m2 mulA (mC (.int 2)) (mV 2)) (m2 subA (m2 mulA (m1 negA (mC (.int 2))) (mV 2)) (mC (.int 1))) = mm at e1
        generalize hn : (m2 modA (mN (f1 intA) (mCons (m2 addA (m2 addA (m2 mulA (mIx (mV 0) (mC (.int 2))) (mC (.int 69621))) (m2 mulA (mV 3) (mC (.int 48271)))) (mC (.int 11))) mNil)) (mC (.int 2147483647))) = nn at e3
        have h0 : (0 : Int) < (r.length : Int) + 1 := by omega
        simp [e0, e1, h0, hs]
        rw [run_sSetIx (e3 _ rfl rfl) rfl run_mC]
        simp [six_some set2]
      rw [e, obind_some, seqF_nx]
      simp only [loadV, if_neg hs]
      exact mix_run v _ x _ _ _
/-- cells = box[0] : the list is lent -/
def tBor (K : PySem.W.Frag) : TS := fun D σ H => ∃ o T sa ds b, sa = some (true, .lst (.ls ds :: b)) :: none :: sa.drop 2 ∧ SRel K o T sa σ H ∧
  ∀ v o' σ' H', Le o H o' H' → Keep 1 σ σ' → σ'[1]? = some (some v) → SRel K o' T (some (true, .lst (.d (.opq v) :: b)) :: some (true, .ls ds) :: sa.drop 2) σ' H' → D.nx σ' H'
end MM
namespace MM
open PySem PySem.Spec PyProof.Rows L2
theorem atI_zero {α : Type} {x : α} {xs : List α} : atI (x :: xs) 0 = some x := by
  have e : ixN (x :: xs).length 0 = some 0 := by
    unfold ixN
    rw [if_pos (by omega), if_pos (by simp)]
    rfl
  unfold atI
  rw [e]
  rfl
section
variable {X : Cx} {y b : Str} {py px sp cp pos : Pos} {k0 : Nat}
theorem ps_bor (hx : PE X (.Name b px) (tVar 0)) (hN : X.N.Nodup) (hi : X.N[1]? = some y) (hy : Loc X.env.scope y) (hs : swapsWith (.Subscript (.Name b px) (.Constant (.int 0) k0 cp) sp) (some (.Name y py)) pos.line X.env = pure false := by rfl)
    (hf : X.fn y = true ∨ X.env.scope.names.lookup y = some .local := by first | exact .inl rfl | exact .inr rfl | assumption) :
    PS X (.Assign [.Name y py] (.Subscript (.Name b px) (.Constant (.int 0) k0 cp) sp) pos) (tBor X.K) := PS.weak (ps_set hN hi hy (pe_ix ix_seq hx pe_int (fun _ _ => rfl)) hs hf) fun D σ H h => by
  obtain ⟨o, T, sa, ds, bx, es, S, q⟩ := h
  have e0 : sa[0]? = some (some (true, .lst (.ls ds :: bx))) := by rw [es]; rfl
  have hl : 1 < sa.length := by rw [es]; simp
  obtain ⟨v0, ev0, _⟩ := S.sl 0 _ _ e0
  obtain ⟨fi, o', r0, S', sub, h1, _⟩ := SRel.out S e0 ev0
  obtain ⟨mo, nd, mi⟩ := h1 rfl
  obtain ⟨p, ys, g, rfl, hp, rs, rfl⟩ := lst_of r0
  unfold Reps at rs
  obtain ⟨v1, yr, f, g', rfl, rfl, r1, r2⟩ := rs
  obtain ⟨c, zs, rfl, hc, rd, rfl⟩ := ls_of r1
  have nd : (p :: ([c] ++ g') ++ o').Nodup := nd
  have nd2 : ([c] ++ o').Nodup := by
    have this : (([c] ++ g') ++ o').Nodup := (List.nodup_cons.mp nd).2
    rw [List.append_assoc] at this
    exact (List.nodup_append.mp ((List.perm_append_comm_assoc [c] g' o').nodup this)).2.1
  have nd3 : ((p :: g') ++ ([c] ++ o')).Nodup := by
    have h2 : (p :: ([c] ++ g') ++ o').Perm ((p :: g') ++ ([c] ++ o')) := by
      refine List.Perm.cons p ?_
      show (([c] ++ g') ++ o').Perm (g' ++ ([c] ++ o'))
      rw [List.append_assoc]
      exact List.perm_append_comm_assoc [c] g' o'
    exact h2.nodup nd
  have all : ∀ b, b ∈ (p :: g') ++ ([c] ++ o') → b ∈ o := fun b hb => by
    simp only [List.mem_append, List.mem_cons, List.mem_singleton] at hb
    rcases hb with (hb | hb) | hb | hb
    · exact mi b (by simp [hb])
    · exact mi b (by simp [hb])
    · exact mi b (by rcases hb with rfl | hb; · simp
                     · cases hb)
    · exact sub b hb
  have S1 : SRel X.K ([c] ++ o') ((.ls ds, .ref c) :: T) (sa.set 0 none) σ H := by
    refine ⟨S'.len, fun i fl a e => ?_, Reps.cons r1 S'.own, nd2⟩
    have e' : sa[i]? = some (some (fl, a)) := by
      by_cases hi0 : i = 0
      · subst hi0
        rw [List.getElem?_set_self (by omega)] at e
        cases e
      · rwa [List.getElem?_set_ne (Ne.symm hi0)] at e
    obtain ⟨w, e1, z⟩ := S.sl i fl a e'
    exact ⟨w, e1, fun y => RepS.sub (fun b hb => all b (List.mem_append_right _ hb)) (z y)⟩
  obtain ⟨o2, S2, L2⟩ := SRel.put (j := 1) (fl := true) S1 True.intro (by simpa using hl)
  have r3 : Rep X.K H (.lst (.d (.opq (.ref c)) :: bx)) (.ref p) (p :: g') := by
    unfold Rep
    refine ⟨p, .ref c :: yr, g', rfl, hp, ?_, rfl⟩
    have := Reps.cons (K := X.K) (H := H) (x := .d (.opq (.ref c))) (y := .ref c) (f := []) (rep_d (by unfold RepD; rfl)) r2
    simpa using this
  have nd4 : ((p :: g') ++ o2).Nodup := List.nodup_append.mpr ⟨(List.nodup_append.mp nd3).1, S2.nd, fun a ha b hb e => by
    subst e
    obtain ⟨u, eu, _⟩ := r3.mem a ha
    exact (L2 a u eu fun z => (List.nodup_append.mp nd3).2.2 a ha a z rfl).2 hb⟩
  have hs2 : ∀ b, b ∈ o2 → b ∈ [c] ++ o' := fun b hb => by
    obtain ⟨u, eu, _⟩ := S2.mut b hb
    by_cases z : b ∈ [c] ++ o'
    · exact z
    · exact ((L2 b u eu z).2 hb).elim
  have e1' : (σ.set 1 (some (V.ref c)))[0]? = some (some (.ref p)) := by
    rw [List.getElem?_set_ne (by omega)]
    exact ev0
  have S3 : SRel X.K ((p :: g') ++ o2) ((.lst (.d (.opq (.ref c)) :: bx), .ref p) :: T) ((sa.set 0 none).set 1 (some (true, .ls ds))) (σ.set 1 (some (.ref c))) H := by
    refine ⟨S2.len, fun i fl a e => ?_, Reps.cons r3 S2.own, nd4⟩
    by_cases hi1 : i = 1
    · subst hi1
      rw [List.getElem?_set_self (by simpa using hl)] at e
      cases e
      exact ⟨.ref c, List.getElem?_set_self (by rw [← S.len]; exact hl), fun z => nomatch z⟩
    · rw [List.getElem?_set_ne (Ne.symm hi1)] at e
      have e' : sa[i]? = some (some (fl, a)) := by
        by_cases hi0 : i = 0
        · subst hi0
          rw [List.getElem?_set_self (by omega)] at e
          cases e
        · rwa [List.getElem?_set_ne (Ne.symm hi0)] at e
      obtain ⟨w, e1, z⟩ := S.sl i fl a e'
      exact ⟨w, by rw [List.getElem?_set_ne (Ne.symm hi1)]; exact e1, fun y => RepS.sub (fun b hb => all b (by
        rcases List.mem_append.mp hb with hb | hb
        · exact List.mem_append_left _ hb
        · exact List.mem_append_right _ (hs2 b hb))) (z y)⟩
  obtain ⟨o4, S4, L4⟩ := SRel.put (j := 0) (fl := true) S3 True.intro (by simp; omega)
  have eσ : ((σ.set 1 (some (V.ref c))).set 0 (some (.ref p))) = σ.set 1 (some (.ref c)) := by
    apply List.ext_getElem?
    intro i
    by_cases hi0 : i = 0
    · subst hi0
      rw [List.getElem?_set_self (by rw [List.length_set, ← S.len]; omega), e1']
    · rw [List.getElem?_set_ne (Ne.symm hi0)]
  have esa : ((sa.set 0 none).set 1 (some (true, A.ls ds))).set 0 (some (true, .lst (.d (.opq (.ref c)) :: bx))) = some (true, .lst (.d (.opq (.ref c)) :: bx)) :: some (true, .ls ds) :: sa.drop 2 := by
    rw [es]
    rfl
  rw [eσ, esa] at S4
  have L0 : Le o H o4 H := fun b u e n => by
    refine ⟨e, fun z => ?_⟩
    have h2 : b ∈ (p :: g') ++ o2 := by
      by_cases z2 : b ∈ (p :: g') ++ o2
      · exact z2
      · exact ((L4 b u e z2).2 z).elim
    exact n (all b (by
        rcases List.mem_append.mp h2 with hb | hb
        · exact List.mem_append_left _ hb
        · exact List.mem_append_right _ (hs2 b hb)))
  exact ⟨.ref p, ev0, .inl ⟨p, _, 0, .ref c, rfl, rfl, .of hp, atI_zero, q (.ref c) o4 _ H L0 (Keep.set (by omega)) (List.getElem?_set_self (by rw [← S.len]; exact hl)) S4⟩⟩
end
section
variable {P : Program} {w : World} {K : PySem.W.Frag} {mg : Str → Option Value} {base : Heap}
theorem load_ok {x qual : Str} {st : Stmt} {f : Addr} {fd : FuncData} {N ps : List Str} {k : Nat} {st1 : Stmt} {rest : List Stmt} (F : Fun K x qual st f fd) (S : FnScope N ps (defScope st)) (hN : N.length = 6) (hps : ps.length = 1) (hst : defBody st = st1 :: rest)
    (h1 : ∀ (cdv : Value) (A : Around) (outer : List Env) (s : Shared) (H : Hp), Room k (A.deeper (envOfC qual (defScope st) s.heap.objs.size f cdv)) → ∀ E, PS (cxOf CX0 P w K mg base N qual (defScope st) f cdv A outer s H E).nox st1 (tBor K))
    (hb : ∀ (cdv : Value) (A : Around) (outer : List Env) (s : Shared) (H : Hp), Room k (A.deeper (envOfC qual (defScope st) s.heap.objs.size f cdv)) → ∀ E, PMB 2 (cxOf CX0 P w K mg base N qual (defScope st) f cdv A outer s H E).nox rest m_load) :
    FnOk P w K mg base CX0 (k + 1) f fd ps (spB K 1 F_load) := by
  refine F.ok S (fun vs H Q E h => ?_) fun cdv AA outer s H vs Q E hr h => ?_
  · obtain ⟨b, v0, xs, vr, fb, c, b', rfl, hl, _, _, r, _⟩ := h
    rw [hps, ← hl, r.len]
    rfl
  · obtain ⟨b, v0, xs, vr, fb, c, b', rfl, hl, rb, nd, r, e, q⟩ := h
    refine ⟨tSeq (tBor K) (tOfS 2 K m_load), by rw [hst]; exact pss_cons (h1 cdv AA outer s H hr E) (hb cdv AA outer s H hr E), ?_⟩
    unfold F_load at e
    split at e
    · rename_i ds x y
      split at e
      · rename_i cs ecs
        split at e
        · rename_i hz
          cases e
          unfold RepDs at r
          subst r
          have S0 := initB_rel (N := N) (xs := []) (vr := []) rb nd (by unfold RepDs; rfl)
          rw [hN] at S0
          have st0 : (start N [v0])[0]? = some (some v0) := by simp [L2.start]
          refine ⟨fb, [], _, ds, _, rfl, S0, fun v o1 σ1 H1 L1 k1 ev1 S1 => ?_⟩
          have eds : ds = cs.map .int := by
            have gen : ∀ (ds : List D) (cs : List Int), intsD ds = some cs → ds = cs.map .int := by
              intro ds
              induction ds with
              | nil => intro cs h; cases h; rfl
              | cons d r ih =>
                intro cs h
                cases d with
                | int i =>
                  unfold intsD at h
                  cases h2 : intsD r with
                  | none => rw [h2] at h; cases h
                  | some z =>
                    rw [h2] at h
                    cases h
                    rw [ih z h2]
                    rfl
                | _ => cases h
            exact gen ds cs ecs
          subst eds
          obtain ⟨t, er⟩ := load_run (.opq v) cs x y hz
          refine ⟨o1, [], _, _, _, er, S1, fun o2 σ2 H2 L2 k2 => ?_⟩
          intro vz S2 R2
          have e20 : σ2[0]? = some (some v0) := (k2 0 (by omega)).trans ((k1 0 (by omega)).trans st0)
          have e21 : σ2[1]? = some (some v) := (k2 1 (by omega)).trans ev1
          have S2 : SRel K o2 [] _ σ2 H2 := S2
          have rz : RepD K H2 (.int (loadV cs y).1) vz := by
            obtain ⟨fp, r, _⟩ := R2
            exact repD_d r
          obtain ⟨fi, o3, ri, S3, sub3, h3, _⟩ := SRel.out (j := 0) S2 rfl e20
          obtain ⟨_, nd3, mo3⟩ := h3 rfl
          obtain ⟨fj, o4, rj, S4, sub4, h4, _⟩ := SRel.out (j := 1) S3 rfl e21
          obtain ⟨_, nd4, mo4⟩ := h4 rfl
          obtain ⟨p, ys, g, rfl, hp, rs, rfl⟩ := lst_of ri
          unfold Reps at rs
          obtain ⟨v1, yr, f1, g1, rfl, rfl, r1, r2⟩ := rs
          have hv : v1 = v ∧ f1 = [] := by
            unfold Rep at r1
            refine ⟨?_, r1.2⟩
            have := r1.1
            unfold RepD at this
            exact this
          obtain ⟨rfl, rfl⟩ := hv
          have rf : Rep K H2 (.lst (.ls ((loadV cs y).2.1.map .int) :: [.d (.int x), .d (.int (loadV cs y).2.2)])) (.ref p) (p :: (fj ++ g1)) := by
            unfold Rep
            exact ⟨p, _, _, rfl, hp, Reps.cons rj r2, rfl⟩
          have nd3 : (p :: g1 ++ o3).Nodup := nd3
          have ndf : (p :: (fj ++ g1)).Nodup := by
            have a1 : ∀ b ∈ fj, b ∈ o3 := mo4
            have a2 := (List.nodup_append.mp nd4).1
            have a3 := List.nodup_append.mp nd3
            have a4 := List.nodup_cons.mp a3.1
            refine List.nodup_cons.mpr ⟨fun z => ?_, List.nodup_append.mpr ⟨a2, a4.2, fun u hu w hw e => a3.2.2 w (List.mem_cons_of_mem _ hw) u (a1 u hu) e.symm⟩⟩
            rcases List.mem_append.mp z with z | z
            · exact a3.2.2 p List.mem_cons_self p (a1 p z) rfl
            · exact a4.1 z
          refine q vz H2 (p :: (fj ++ g1)) (fun b u e n => ?_) ndf rz rf
          obtain ⟨e1, n1⟩ := (L1.trans L2) b u e n
          refine ⟨e1, fun z => n1 ?_⟩
          rcases List.mem_cons.mp z with rfl | z
          · exact mo3 b (by simp)
          · rcases List.mem_append.mp z with z | z
            · exact sub3 b (mo4 b z)
            · exact mo3 b (by simp [z])
        · cases e
      · cases e
    · cases e
end
end MM
namespace MM
open PySem PySem.Spec PyProof.Rows L2

/-! ### what the laws share -/
def m__law_box : SM Fl :=
    sRet (mLst (mCons (mN (f1 listA) (mCons (mSl (mV 0) partN (partS (mC (.int 63)))) mNil)) (mCons (mC (.int 0)) (mCons (m2 addA (mC (.int 4711)) (mN (f1 lenA) (mCons (mV 0) mNil))) mNil))))
def F__law_box : List MM.A → Option MM.A := runF 1 m__law_box
def m__law_draw : SM Fl :=
    sSeq (sIf (tCmpM ltA (mIx (mV 0) (mC (.int 1))) (mV 1)) (sSetIx 0 (mC (.int 1)) (mCallB 1 F_load 0 mNil)) sNop)
    (sSeq (sSet 2 (m2 modA (mN (f1 intA) (mCons (mIx (mV 0) (mC (.int 1))) mNil)) (mV 1)))
    (sSeq (sSetIx 0 (mC (.int 1)) (m2 fdivA (mIx (mV 0) (mC (.int 1))) (mV 1)))
    (sRet (mV 2))))
def F__law_draw : MM.A → List D → Option (D × MM.A) := runB 3 m__law_draw
def m__law_same (self : List MM.A → Option MM.A) : SM Fl :=
    sSeq (sIf (tOrM (tAndM (mTru (mN (fIsi .tuple) (mCons (mV 0) (mCons (mC (.opq (.ty "tuple"))) mNil)))) (mTru (mN (fIsi .tuple) (mCons (mV 1) (mCons (mC (.opq (.ty "tuple"))) mNil))))) (tAndM (mTru (mN (fIsi .list) (mCons (mV 0) (mCons (mC (.opq (.ty "list"))) mNil)))) (mTru (mN (fIsi .list) (mCons (mV 1) (mCons (mC (.opq (.ty "list"))) mNil)))))) (sRet (mAndV (asV (tCmpM eqA (mN (f1 lenA) (mCons (mV 0) mNil)) (mN (f1 lenA) (mCons (mV 1) mNil)))) (mN (f1 allA) (mCons (mComp [2] (mRange1 (mCons (mN (f1 lenA) (mCons (mV 0) mNil)) mNil)) (.nm 2) tYesM (mN (fN 2 self) (mCons (mIx (mV 0) (mV 2)) (mCons (mIx (mV 1) (mV 2)) mNil)))) mNil)))) sNop)
    (sSeq (sIf (tOrM (mTru (mN (fIsi .bool) (mCons (mV 0) (mCons (mC (.opq (.ty "bool"))) mNil)))) (mTru (mN (fIsi .bool) (mCons (mV 1) (mCons (mC (.opq (.ty "bool"))) mNil))))) (sRet (mAndV (mN (fIsi .bool) (mCons (mV 0) (mCons (mC (.opq (.ty "bool"))) mNil))) (mAndV (mN (fIsi .bool) (mCons (mV 1) (mCons (mC (.opq (.ty "bool"))) mNil))) (asV (tCmpM eqA (mV 0) (mV 1)))))) sNop)
    (sSeq (sIf (tOrM (tAndM (mTru (mN (fIsi .int) (mCons (mV 0) (mCons (mC (.opq (.ty "int"))) mNil)))) (mTru (mN (fIsi .int) (mCons (mV 1) (mCons (mC (.opq (.ty "int"))) mNil))))) (tAndM (mTru (mN (fIsi .str) (mCons (mV 0) (mCons (mC (.opq (.ty "str"))) mNil)))) (mTru (mN (fIsi .str) (mCons (mV 1) (mCons (mC (.opq (.ty "str"))) mNil)))))) (sRet (asV (tCmpM eqA (mV 0) (mV 1)))) sNop)
    (sRet (mAndV (asV (tCmpM isA (mV 0) (mC .non))) (asV (tCmpM isA (mV 1) (mC .non)))))))
def F__law_same : Nat → (List MM.A → Option MM.A)
  | 0 => fun _ => none
  | k + 1 => runF 3 (m__law_same (F__law_same k))

/-! ### running: statements with lists and loops -/
section
variable {s s1 s2 : List Slot} {j n : Nat} {r : R} {m : SM R} {fl : Bool}
theorem run_append {a l l' : A} (h0 : isL s[j]? = true) (h : m s = some (r, s1)) (ha : od r s1 = some a) (hl : s1[j]? = some (some (true, l))) (h' : appA l a = some l') : mAppend j m s = some (.val false (.d .non), s1.set j (some (true, l'))) := by
  unfold mAppend
  rw [if_pos h0, run_bnd, h, obind_some]
  simp only [ha, hl, h', Option.map_some]
theorem run_popAt {xs : List D} {i : Int} {x : D} {k : Nat} (h0 : isL s[j]? = true) (h : m s = some (r, s1)) (hr : rv r s1 = some (.d (.int i))) (hl : s1[j]? = some (some (true, .ls xs))) (hi : ixN xs.length i = some k) (hz : szB xs.length = true) (hx : xs[k]? = some x) :
    mPopAt j m s = some (.val false (.d x), s1.set j (some (true, .ls (xs.eraseIdx k)))) := by
  unfold mPopAt
  rw [if_pos h0, run_bnd, h, obind_some]
  simp only [hr, hl, hi, hz, hx, if_true]
theorem run_callB {G : A → List D → Option (D × A)} {ms : SM (List R)} {rs : List R} {xs : List D} {b b' : A} {c : D} (h0 : s[j]? = some (some (true, b))) (h : ms s = some (rs, s1)) (hx : rds rs s1 = some xs) (hb : s1[j]? = some (some (true, b))) (hn : xs.length + 1 = n) (hG : G b xs = some (c, b')) :
    mCallB n G j ms s = some (.val false (.d c), s1.set j (some (true, b'))) := by
  unfold mCallB
  rw [h0]
  simp only [run_bnd, h, obind_some, hx, hb, hn, if_true, hG]
@[simp] theorem rds_nil : rds [] s = some [] := rfl
theorem rds_cons {rs : List R} {x : D} {xs : List D} (h1 : rv r s = some (.d x)) (h2 : rds rs s = some xs) : rds (r :: rs) s = some (x :: xs) := by unfold rds; rw [h1, h2]
theorem rds_one {x : D} (h1 : rv r s = some (.d x)) : rds [r] s = some [x] := rds_cons h1 rds_nil
@[simp] theorem fN1 {F : List A → Option A} {a : A} : fN 1 F [a] = F [a] := rfl
@[simp] theorem fN2 {F : List A → Option A} {a b : A} : fN 2 F [a, b] = F [a, b] := rfl
@[simp] theorem fN3 {F : List A → Option A} {a b c : A} : fN 3 F [a, b, c] = F [a, b, c] := rfl
@[simp] theorem fN4 {F : List A → Option A} {a b c d : A} : fN 4 F [a, b, c, d] = F [a, b, c, d] := rfl
@[simp] theorem fN5 {F : List A → Option A} {a b c d e : A} : fN 5 F [a, b, c, d, e] = F [a, b, c, d, e] := rfl
@[simp] theorem run_mUse : mUse m s = obind (m s) fun r => bnd (use r) fun p => ret (.val p.1 p.2) := by unfold mUse; exact run_bnd
@[simp] theorem setAll_nil : setAll [] [] s = some s := rfl
theorem setAll_cons {js : List Nat} {rs : List R} {a : A} (h : setAll js rs s = some s1) (hj : j < s1.length) : setAll (j :: js) (.val fl a :: rs) s = some (s1.set j (some (fl, a))) := by
  unfold setAll
  simp only [h, hj, if_true]
theorem setAll_two {i k : Nat} {f g : Bool} {a b : A} (h1 : k < s.length) (h2 : i < s.length) : setAll [i, k] [.val f a, .val g b] s = some ((s.set k (some (g, b))).set i (some (f, a))) := setAll_cons (setAll_cons setAll_nil h1) (by simpa using h2)
theorem run_sPar {js : List Nat} {ms : SM (List R)} {rs : List R} (h : ms s = some (rs, s1)) (hz : szB rs.length = true) (h2 : setAll js rs s1 = some s2) : sPar js ms s = some (.nx, s2) := by
  unfold sPar
  rw [run_bnd, h, obind_some, if_pos hz, h2]
  rfl
theorem run_swap {mi mk me : SM R} {z1 z2 : D} {ri rk : R} {i k : Int} {l1 l2 l3 : A} {s3 s4 : List Slot} (h : me s = some (r, s1)) (hr : rv r s1 = some (.d (.tup [z1, z2]))) (h1 : isL s1[j]? = true) (hi : mi s1 = some (ri, s2)) (hri : rv ri s2 = some (.d (.int i))) (hl : s2[j]? = some (some (true, l1))) (hs : setA l1 i z1 = some l2)
    (h2 : isL (s2.set j (some (true, l2)))[j]? = true) (hk : mk (s2.set j (some (true, l2))) = some (rk, s3)) (hrk : rv rk s3 = some (.d (.int k))) (hl3 : s3[j]? = some (some (true, l2))) (hs2 : setA l2 k z2 = some l3) :
    sSwapIx j mi mk me s = some (.nx, s3.set j (some (true, l3))) := by
  unfold sSwapIx
  rw [run_bnd, h, obind_some]
  simp only [hr]
  unfold st1Ix
  rw [if_pos h1, run_bnd, hi, obind_some]
  simp only [hri, hl, hs]
  rw [if_pos h2, run_bnd, hk, obind_some]
  simp only [hrk, hl3, hs2]
  rfl
/-! targets -/
theorem putI_nm {a : A} (h : j < s.length) : putI (.nm j) a s = some (s.set j (some (false, a))) := by
  cases a with
  | d x =>
    show Tg.put (.nm j) x s = _
    unfold Tg.put
    rw [if_pos h]
  | _ => exact if_pos h
theorem put_nm {x : D} (h : j < s.length) : Tg.put (.nm j) x s = some (s.set j (some (false, .d x))) := by
  unfold Tg.put
  rw [if_pos h]
@[simp] theorem puts_nil : Tg.puts [] [] s = some s := by unfold Tg.puts; rfl
theorem puts_cons {t : Tg} {ts : List Tg} {x : D} {xs : List D} (h : t.put x s = some s1) (h2 : Tg.puts ts xs s1 = some s2) : Tg.puts (t :: ts) (x :: xs) s = some s2 := by
  unfold Tg.puts
  simp only [h, h2]
theorem putI_tp {ts : List Tg} {xs : List D} (h : Tg.puts ts xs s = some s1) : putI (.tp ts) (.d (.tup xs)) s = some s1 := by
  show Tg.put (.tp ts) (.tup xs) s = _
  unfold Tg.put
  exact h
theorem putI_pair {i k : Nat} {x y : D} (h1 : i < s.length) (h2 : k < s.length) : putI (.tp [.nm i, .nm k]) (.d (.tup [x, y])) s = some ((s.set i (some (false, .d x))).set k (some (false, .d y))) :=
  putI_tp (puts_cons (put_nm h1) (puts_cons (put_nm (by simpa using h2)) puts_nil))
theorem putI_trip {i k l : Nat} {x y z : D} (h1 : i < s.length) (h2 : k < s.length) (h3 : l < s.length) : putI (.tp [.nm i, .nm k, .nm l]) (.d (.tup [x, y, z])) s = some (((s.set i (some (false, .d x))).set k (some (false, .d y))).set l (some (false, .d z))) :=
  putI_tp (puts_cons (put_nm h1) (puts_cons (put_nm (by simpa using h2)) (puts_cons (put_nm (by simpa using h3)) puts_nil)))
/-! what is walked -/
theorem run_iter {p : Bool × A} {its : List A} (h : m s = some (r, s1)) (hu : use r s1 = some (p, s2)) (hi : iterA p.2 = some its) : mIter m s = some (its, s2) := by
  unfold mIter
  rw [run_bnd, h, obind_some, run_bnd, hu, obind_some, hi]
  rfl
theorem run_enum {p : Bool × A} {its : List A} (h : m s = some (r, s1)) (hu : use r s1 = some (p, s2)) (hi : enA p.2 = some its) : mEnum m s = some (its, s2) := by
  unfold mEnum
  rw [run_bnd, h, obind_some, run_bnd, hu, obind_some, hi]
  rfl
theorem run_range1 {i : Int} (h : m s = some (r, s1)) (hr : rv r s1 = some (.d (.int i))) (hj : rgB i = true) : mRange1 (mCons m mNil) s = some (rangeL 0 i.toNat, s1) := by
  unfold mRange1
  have e : mCons m mNil s = some ([r], s1) := by simp [h]
  rw [run_bnd, e, obind_some, rds_one hr]
  simp only [hj, if_true]
theorem run_range2 {i k : Int} {m2 : SM R} {r2 : R} (h : m s = some (r, s1)) (h2 : m2 s1 = some (r2, s2)) (hr : rv r s2 = some (.d (.int i))) (hr2 : rv r2 s2 = some (.d (.int k))) (hj : rgB i = true) (hk : rgB k = true) : mRange2 (mCons m (mCons m2 mNil)) s = some (rangeL i (k - i).toNat, s2) := by
  unfold mRange2
  have e : mCons m (mCons m2 mNil) s = some ([r, r2], s2) := by simp [h, h2]
  rw [run_bnd, e, obind_some, rds_cons hr (rds_one hr2)]
  simp only [hj, hk, Bool.and_self, if_true]
theorem rgB_of {i : Int} (h0 : -4000000000000000000 ≤ i) (h : i < 4000000000000000000) : rgB i = true := decide_eq_true ⟨by omega, by omega⟩
theorem rangeL_len {lo : Int} {n : Nat} : (rangeL lo n).length = n := by simp [rangeL]
theorem rangeL_get {lo : Int} {n i : Nat} (h : i < n) : (rangeL lo n)[i]? = some (.d (.int (lo + (i : Nat)))) := by simp [rangeL, h]
@[simp] theorem run_sFor {t : Tg} {mi : SM (List A)} {b : SM Fl} : sFor t mi b s = obind (mi s) fun its => forL t b its := by unfold sFor; exact run_bnd
/-- a loop that goes to its end -/
theorem forL_ok {t : Tg} {b : SM Fl} {its : List A} (Inv : Nat → List Slot → Prop) (h0 : Inv 0 s)
    (h : ∀ (i : Nat) (a : A) (s : List Slot), its[i]? = some a → Inv i s → ∃ s1 s2, putI t a s = some s1 ∧ b s1 = some (.nx, s2) ∧ Inv (i + 1) s2) : ∃ s', forL t b its s = some (.nx, s') ∧ Inv its.length s' := by
  have gen : ∀ (k i : Nat) (s : List Slot), its.length = i + k → Inv i s → ∃ s', forL t b (its.drop i) s = some (.nx, s') ∧ Inv its.length s' := by
    intro k
    induction k with
    | zero =>
      intro i s e hs
      rw [List.drop_eq_nil_of_le (by omega)]
      exact ⟨s, rfl, by rw [e]; exact hs⟩
    | succ k ih =>
      intro i s e hs
      have hi : i < its.length := by omega
      obtain ⟨s1, s2, e1, e2, hs2⟩ := h i its[i] s (List.getElem?_eq_getElem hi) hs
      rw [List.drop_eq_getElem_cons hi]
      unfold forL
      simp only [e1, e2]
      exact ih (i + 1) s2 (by omega) hs2
  have := gen its.length 0 s (by omega) h0
  rwa [List.drop_zero] at this
/-- a comprehension, turn by turn -/
theorem compL_ok {ws : List Nat} {t : Tg} {tt : SM Bool} {te : SM R} {its : List A} {l : A} (Inv : Nat → A → List Slot → Prop) (h0 : Inv 0 l s)
    (h : ∀ (i : Nat) (a l : A) (s : List Slot), its[i]? = some a → Inv i l s → ∃ s1 k s2, putI t a s = some s1 ∧ tt s1 = some (k, s2) ∧ (k = true → ∃ r s3 y l', te s2 = some (r, s3) ∧ od r s3 = some y ∧ appA l y = some l' ∧ Inv (i + 1) l' (wipeA ws s3)) ∧ (k = false → Inv (i + 1) l (wipeA ws s2))) :
    ∃ l' s', compL ws t tt te its l s = some (l', s') ∧ Inv its.length l' s' := by
  have gen : ∀ (k i : Nat) (l : A) (s : List Slot), its.length = i + k → Inv i l s → ∃ l' s', compL ws t tt te (its.drop i) l s = some (l', s') ∧ Inv its.length l' s' := by
    intro k
    induction k with
    | zero =>
      intro i l s e hs
      rw [List.drop_eq_nil_of_le (by omega)]
      exact ⟨l, s, rfl, by rw [e]; exact hs⟩
    | succ k ih =>
      intro i l s e hs
      have hi : i < its.length := by omega
      obtain ⟨s1, q, s2, e1, e2, ht, hf⟩ := h i its[i] l s (List.getElem?_eq_getElem hi) hs
      rw [List.drop_eq_getElem_cons hi]
      unfold compL
      cases q with
      | true =>
        obtain ⟨r, s3, y, l', e3, e4, e5, hs3⟩ := ht rfl
        simp only [e1, e2, e3, e4, e5]
        exact ih (i + 1) l' _ (by omega) hs3
      | false =>
        simp only [e1, e2]
        exact ih (i + 1) l _ (by omega) (hf rfl)
  have := gen its.length 0 l s (by omega) h0
  rwa [List.drop_zero] at this
/-- a comprehension whose turns leave the state: data of each item -/
theorem compL_map {ws : List Nat} {t : Tg} {tt : SM Bool} {te : SM R} {α : Type} (enc : α → A) (p : α → Bool) (g : α → D) {acc : List D} :
    ∀ {xs : List α}, (∀ a ∈ xs, ∃ s1, putI t (enc a) s = some s1 ∧ wipeA ws s1 = s ∧ tt s1 = some (p a, s1) ∧ (p a = true → ∃ r, te s1 = some (r, s1) ∧ od r s1 = some (.d (g a)))) → szB (acc.length + xs.length) = true →
    compL ws t tt te (xs.map enc) (.ls acc) s = some (.ls (acc ++ (xs.filter p).map g), s)
  | [], _, _ => by simp [compL]
  | a :: xs, h, hz => by
    obtain ⟨s1, e1, e2, e3, e4⟩ := h a List.mem_cons_self
    have hx := fun b hb => h b (List.mem_cons_of_mem _ hb)
    rw [List.map_cons]
    unfold compL
    have hle := of_decide_eq_true hz
    rw [List.length_cons] at hle
    cases hp : p a with
    | true =>
      obtain ⟨r, e5, e6⟩ := e4 hp
      have e7 : appA (.ls acc) (.d (g a)) = some (.ls (acc ++ [g a])) := by
        show (if szB (acc.length + 1) then some (A.ls (acc ++ [g a])) else none) = _
        rw [if_pos (szB_of (by omega))]
      simp only [e1, e3, hp, e5, e6, e7, e2]
      rw [compL_map enc p g hx (szB_of (by simp; omega)), List.filter_cons_of_pos hp]
      simp
    | false =>
      simp only [e1, e3, hp, e2]
      rw [compL_map enc p g hx (szB_of (by omega)), List.filter_cons_of_neg (by simp [hp])]
/-- .. with the source -/
theorem run_comp {ws : List Nat} {mi : SM (List A)} {t : Tg} {tt : SM Bool} {te : SM R} {its : List A} {l : A} (h : mi s = some (its, s1)) (h2 : compL ws t tt te its (.ls []) (wipeA ws s1) = some (l, s2)) : mComp ws mi t tt te s = some (fin l, restA ws s1 s2) := by
  unfold mComp
  simp only [h, h2]
theorem run_compM {ws : List Nat} {mi : SM (List A)} {t : Tg} {tt : SM Bool} {te : SM R} {α : Type} (enc : α → A) (p : α → Bool) (g : α → D) {xs : List α} (h : mi s = some (xs.map enc, s1))
    (ht : ∀ a ∈ xs, ∃ s2, putI t (enc a) (wipeA ws s1) = some s2 ∧ wipeA ws s2 = wipeA ws s1 ∧ tt s2 = some (p a, s2) ∧ (p a = true → ∃ r, te s2 = some (r, s2) ∧ od r s2 = some (.d (g a)))) (hz : xs.length ≤ 16777216) :
    mComp ws mi t tt te s = some (.val true (.ls ((xs.filter p).map g)), restA ws s1 (wipeA ws s1)) := by
  have := compL_map (acc := []) enc p g ht (szB_of (by simpa using hz))
  rw [run_comp h this]
  rfl
@[simp] theorem run_tYes : tYesM s = some (true, s) := rfl
theorem filter_yes {α : Type} {xs : List α} : xs.filter (fun _ => true) = xs := by simp
end

/-! ### data -/
theorem toPDs_map {α : Type} {f : α → D} {g : α → PyData} : ∀ {xs : List α}, (∀ x ∈ xs, toPD (f x) = some (g x)) → toPDs (xs.map f) = some (xs.map g)
  | [], _ => by simp [toPDs]
  | x :: xs, h => by
    rw [List.map_cons, List.map_cons]
    unfold toPDs
    rw [h x List.mem_cons_self, toPDs_map fun y hy => h y (List.mem_cons_of_mem _ hy)]
theorem toPD_str {x : Str} (h : PyData.strOk x = true) : toPD (.str x) = some (.str x) := by
  unfold toPD
  rw [if_pos h]
theorem toPD_int {i : Int} : toPD (.int i) = some (.int i) := by unfold toPD; rfl
theorem toPD_bl {i : Bool} : toPD (.bl i) = some (.bool i) := by unfold toPD; rfl
theorem toPD_tup {xs : List D} {ds : List PyData} (h : toPDs xs = some ds) : toPD (.tup xs) = some (.tuple ds) := by
  unfold toPD
  rw [h]
  rfl
theorem canAll {ds : List PyData} (h : ∀ d ∈ ds, PyData.canLay0 d = true) : PyData.canLayAll0 ds = true := by
  induction ds with
  | nil => simp [PyData.canLayAll0]
  | cons d r ih =>
    unfold PyData.canLayAll0
    rw [h d List.mem_cons_self, ih fun x hx => h x (List.mem_cons_of_mem _ hx)]
    rfl
theorem shaped_str {x : Str} (h : PyData.strOk x = true) : SeqAt.shaped (.str x) = true := by
  unfold SeqAt.shaped PyData.canLay0
  simp [h, PyData.depth]
theorem shaped_int {i : Int} : SeqAt.shaped (.int i) = true := by
  unfold SeqAt.shaped PyData.canLay0
  simp [PyData.depth]
theorem shaped_bool {i : Bool} : SeqAt.shaped (.bool i) = true := by
  unfold SeqAt.shaped PyData.canLay0
  simp [PyData.depth]
@[simp] theorem eqA_int {i j : Int} : eqA (.d (.int i)) (.d (.int j)) = some (decide (i = j)) := by
  unfold eqA toP
  simp only [toPD_int, shaped_int, Bool.and_self, if_true]
  simp [PyData.eqv]
  by_cases h : i = j <;> simp [h]
@[simp] theorem neA_int {i j : Int} : neA (.d (.int i)) (.d (.int j)) = some (!decide (i = j)) := by
  unfold neA
  rw [eqA_int]
  rfl
@[simp] theorem eqA_bl {i j : Bool} : eqA (.d (.bl i)) (.d (.bl j)) = some (i == j) := by
  unfold eqA toP
  simp only [toPD_bl, shaped_bool, Bool.and_self, if_true]
  simp [PyData.eqv]
theorem eqA_str {x y : Str} (hx : PyData.strOk x = true) (hy : PyData.strOk y = true) : eqA (.d (.str x)) (.d (.str y)) = some (x == y) := by
  unfold eqA toP
  simp only [toPD_str hx, toPD_str hy, shaped_str hx, shaped_str hy, Bool.and_self, if_true]
  simp [PyData.eqv]
theorem inA_strs {x : Str} {ys : List Str} (hx : PyData.strOk x = true) (hy : ∀ y ∈ ys, PyData.strOk y = true) : inA (.d (.str x)) (.d (.tup (ys.map .str))) = some (ys.any fun y => y == x) := by
  have e1 : toPDs (ys.map .str) = some (ys.map PyData.str) := toPDs_map fun y h => toPD_str (hy y h)
  have e2 : PyData.canLayAll0 (ys.map PyData.str) = true := canAll fun d hd => by
    obtain ⟨y, h, rfl⟩ := List.mem_map.mp hd
    unfold PyData.canLay0
    exact hy y h
  unfold inA itemsP toP
  simp only [toPD_str hx, toPD_tup e1, shaped_str hx, e2, Bool.and_self, if_true]
  simp [List.any_map, Function.comp_def, PyData.eqv]
end MM
namespace MM
open PySem PySem.Spec PyProof.Rows L2

/-! ### the box of draws -/
def BoxOk (b : A) : Prop := ∃ (cs : List Int) (x y : Int), b = .lst [.ls (cs.map .int), .d (.int x), .d (.int y)] ∧ cs.length ≤ 63
theorem cutL_map {α β : Type} (f : α → β) (xs : List α) (lo hi : Option Int) : cutL (xs.map f) lo hi = (cutL xs lo hi).map f := by
  unfold cutL
  rw [List.length_map, List.map_take, List.map_drop]
theorem cutL_le {α : Type} (xs : List α) (lo hi : Option Int) : (cutL xs lo hi).length ≤ xs.length := by
  unfold cutL
  rw [List.length_take, List.length_drop]
  omega
theorem seqO_mk {s : List Slot} {as : List A} {g : List A → A} (h : as.length ≤ 16777216) : seqO (some as) g s = some (fin (g as), s) := seqO_some (szB_of h)
theorem box_ok {ns : List Int} (hl : ns.length ≤ 63) : ∃ b, F__law_box [.d (.scr ns)] = some b ∧ BoxOk b ∧ fin b = .val true b := by
  refine ⟨_, ?_, ⟨cutL ns none (some 63), 0, 4711 + ns.length, rfl, Nat.le_trans (cutL_le _ _ _) hl⟩, rfl⟩
  unfold F__law_box runF m__law_box
  show endF (sRet _ [some (false, .d (.scr ns))]) = _
  have e1 : slA none (some 63) (.d (.scr ns)) = some (.ls ((cutL ns none (some 63)).map .int)) := by rw [← cutL_map]; rfl
  have e2 : lenA (.d (.scr ns)) = some (.i ns.length) := rfl
  have e3 : ∀ xs, listA (.ls xs) = some (.ls xs) := fun _ => rfl
  simp [e1, e2, e3, seqO_mk, mkL, allD, endF]
theorem ix1 {v x y : A} : ixA (.lst [v, x, y]) (.d (.int 1)) = some x := rfl
theorem set1 {v x y : A} {z : D} : setA (.lst [v, x, y]) 1 z = some (.lst [v, .d z, y]) := rfl
theorem load_box {cs : List Int} {x y : Int} (h : cs.length ≤ 63) : ∃ (v : Int) (cs' : List Int) (y' : Int), F_load (.lst [.ls (cs.map .int), .d (.int x), .d (.int y)]) [] = some (.int v, .lst [.ls (cs'.map .int), .d (.int x), .d (.int y')]) ∧ cs'.length ≤ 63 := by
  refine ⟨(loadV cs y).1, (loadV cs y).2.1, (loadV cs y).2.2, ?_, ?_⟩
  · unfold F_load
    simp only [intsD_map]
    rw [if_pos (szB_of (by omega))]
  · unfold loadV
    cases cs with
    | nil => simp
    | cons c r =>
      simp at h
      simp only
      split <;> simp <;> omega
theorem divB_of {m : Int} (h0 : 0 < m) (h : m < 1073741824) : divB m = true := by
  unfold divB
  rw [decide_eq_true (show m ≠ 0 ∧ m.natAbs < 1073741824 from ⟨by omega, by omega⟩)]
  rfl
theorem draw_ok {b : A} {m : Int} (B : BoxOk b) (h0 : 0 < m) (h : m < 1073741824) : ∃ (k : Int) (b' : A), F__law_draw b [.int m] = some (.int k, b') ∧ 0 ≤ k ∧ k < m ∧ BoxOk b' := by
  obtain ⟨cs, x, y, rfl, hc⟩ := B
  have fin : ∀ (cs : List Int) (x y : Int), cs.length ≤ 63 → ∃ (k : Int) (b' : A), endB ((sSeq (sSet 2 (m2 modA (mN (f1 intA) (mCons (mIx (mV 0) (mC (.int 1))) mNil)) (mV 1)))
    (sSeq (sSetIx 0 (mC (.int 1)) (m2 fdivA (mIx (mV 0) (mC (.int 1))) (mV 1)))
    (sRet (mV 2)))) [some (true, .lst [.ls (cs.map .int), .d (.int x), .d (.int y)]), some (false, .d (.int m)), none]) = some (.int k, b') ∧ 0 ≤ k ∧ k < m ∧ BoxOk b' := fun cs x y hc => by
    refine ⟨x.fmod m, .lst [.ls (cs.map .int), .d (.int (x.fdiv m)), .d (.int y)], ?_, ?_, ?_, cs, x.fdiv m, y, rfl, hc⟩
    · have e : ∀ s : List Slot, s[0]? = some (some (true, .lst [.ls (cs.map .int), .d (.int x), .d (.int y)])) → s[1]? = some (some (false, .d (.int m))) → (m2 fdivA (mIx (mV 0) (mC (.int 1))) (mV 1)) s = some (.val false (.d (.int (x.fdiv m))), s) := fun s h1 h2 => by
        simp [h1, h2, ixO_d ix1, divB_of h0 h]
      simp [ixO_d ix1, show m ≠ 0 by omega]
      rw [run_sSetIx (e _ rfl rfl) rfl run_mC]
      simp [six_some set1, endB]
    · exact Int.fmod_nonneg_of_pos x h0
    · exact Int.fmod_lt_of_pos x h0
  unfold F__law_draw runB m__law_draw
  show ∃ k b', endB (sSeq _ _ [some (true, .lst [.ls (cs.map .int), .d (.int x), .d (.int y)]), some (false, .d (.int m)), none]) = _ ∧ _
  rw [run_sSeq]
  by_cases hx : x < m
  · obtain ⟨v, cs', y', e1, hc'⟩ := load_box (x := x) (y := y) hc
    have e2 : (sIf (tCmpM ltA (mIx (mV 0) (mC (.int 1))) (mV 1)) (sSetIx 0 (mC (.int 1)) (mCallB 1 F_load 0 mNil)) sNop) [some (true, .lst [.ls (cs.map .int), .d (.int x), .d (.int y)]), some (false, .d (.int m)), none] =
        some (.nx, [some (true, .lst [.ls (cs'.map .int), .d (.int v), .d (.int y')]), some (false, .d (.int m)), none]) := by
      have e3 := run_callB (j := 0) (n := 1) (G := F_load) (s := [some (true, .lst [.ls (cs.map .int), .d (.int x), .d (.int y)]), some (false, .d (.int m)), none]) (ms := mNil) rfl run_mNil rds_nil rfl rfl e1
      simp [ixO_d ix1, hx]
      rw [run_sSetIx e3 rfl run_mC]
      simp [six_some set1]
    rw [e2, obind_some, seqF_nx]
    exact fin cs' v y' hc'
  · have e2 : (sIf (tCmpM ltA (mIx (mV 0) (mC (.int 1))) (mV 1)) (sSetIx 0 (mC (.int 1)) (mCallB 1 F_load 0 mNil)) sNop) [some (true, .lst [.ls (cs.map .int), .d (.int x), .d (.int y)]), some (false, .d (.int m)), none] =
        some (.nx, [some (true, .lst [.ls (cs.map .int), .d (.int x), .d (.int y)]), some (false, .d (.int m)), none]) := by
      simp [ixO_d ix1, hx]
    rw [e2, obind_some, seqF_nx]
    exact fin cs x y hc
/-- a draw, as a term -/
theorem run_draw {s s1 : List Slot} {m : SM R} {r : R} {j : Nat} {b : A} {i : Int} (hs : s[j]? = some (some (true, b))) (h : m s = some (r, s1)) (hr : rv r s1 = some (.d (.int i))) (hs1 : s1[j]? = some (some (true, b))) (B : BoxOk b) (h0 : 0 < i) (h1 : i < 1073741824) :
    ∃ (k : Int) (b' : A), mCallB 2 F__law_draw j (mCons m mNil) s = some (.val false (.d (.int k)), s1.set j (some (true, b'))) ∧ 0 ≤ k ∧ k < i ∧ BoxOk b' := by
  obtain ⟨k, b', e, h2, h3, B'⟩ := draw_ok B h0 h1
  have e1 : mCons m mNil s = some ([r], s1) := by simp [h]
  exact ⟨k, b', run_callB hs e1 (rds_one hr) hs1 rfl e, h2, h3, B'⟩

/-! ### _law_same over data -/
def okD : Nat → D → Bool
  | 0, _ => false
  | n + 1, .tup xs => xs.all (okD n) && szB xs.length
  | _ + 1, .str x => PyData.strOk x
  | _ + 1, .opq _ => false
  | _ + 1, .scr _ => false
  | _ + 1, _ => true
def sameN : Nat → D → D → Bool
  | n + 1, .tup xs, .tup ys => xs.length == ys.length && (List.range xs.length).all fun k => sameN n (xs.getD k .non) (ys.getD k .non)
  | _ + 1, .bl a, .bl b => a == b
  | _ + 1, .int a, .int b => decide (a = b)
  | _ + 1, .str a, .str b => a == b
  | _ + 1, .non, .non => true
  | _, _, _ => false
@[simp] theorem isi_tup {x : A} : fIsi .tuple [x, .d (.opq (.ty "tuple"))] = (isiA .tuple x).map fun b => .d (.bl b) := rfl
@[simp] theorem isi_list {x : A} : fIsi .list [x, .d (.opq (.ty "list"))] = (isiA .list x).map fun b => .d (.bl b) := rfl
@[simp] theorem isi_bool {x : A} : fIsi .bool [x, .d (.opq (.ty "bool"))] = (isiA .bool x).map fun b => .d (.bl b) := rfl
@[simp] theorem isi_int {x : A} : fIsi .int [x, .d (.opq (.ty "int"))] = (isiA .int x).map fun b => .d (.bl b) := rfl
@[simp] theorem isi_str {x : A} : fIsi .str [x, .d (.opq (.ty "str"))] = (isiA .str x).map fun b => .d (.bl b) := rfl
@[simp] theorem truA_bl {b : Bool} : truA (.d (.bl b)) = some b := rfl
@[simp] theorem lenA_tup {xs : List D} : lenA (.d (.tup xs)) = some (.i xs.length) := rfl
@[simp] theorem isA_non {x : A} : isA x (.d .non) = isNon x := by cases x with
  | d z => cases z <;> rfl
  | _ => rfl
theorem iteM_bl {γ : Type} {k : Bool} {a b : SM γ} {s : List Slot} : iteM k a b s = if k then a s else b s := by cases k <;> rfl
theorem blsD_mapF {α : Type} {f : α → Bool} {xs : List α} : blsD (xs.map fun a => .bl (f a)) = some (xs.map f) := by
  have := blsD_map (xs.map f)
  rwa [List.map_map] at this
theorem ix_tup {xs : List D} {k : Nat} (h : k < xs.length) : ixA (.d (.tup xs)) (.d (.int (k : Int))) = some (.d (xs.getD k .non)) := by
  show (atI xs (k : Int)).map A.d = _
  have e : ixN xs.length (k : Int) = some k := by
    unfold ixN
    rw [if_pos (by omega), if_pos (by omega)]
    simp
  unfold atI
  rw [e]
  simp [h]
def SameAt (n : Nat) (F : List A → Option A) : Prop := ∀ (a b : D), okD n a = true → okD n b = true → F [.d a, .d b] = some (.d (.bl (sameN n a b)))
theorem okD_tup {n : Nat} {xs : List D} (h : okD (n + 1) (.tup xs) = true) : (∀ x ∈ xs, okD n x = true) ∧ xs.length ≤ 16777216 := by
  have hx := Bool.and_eq_true_iff.mp h
  exact ⟨List.all_eq_true.mp hx.1, of_decide_eq_true hx.2⟩
theorem same_comp {n : Nat} {F : List A → Option A} (ih : SameAt n F) {xs ys : List D} (hx : ∀ x ∈ xs, okD n x = true) (hy : ∀ x ∈ ys, okD n x = true) (hz : xs.length ≤ 16777216) (hl : xs.length = ys.length) :
    (mComp [2] (mRange1 (mCons (mN (f1 lenA) (mCons (mV 0) mNil)) mNil)) (.nm 2) tYesM (mN (fN 2 F) (mCons (mIx (mV 0) (mV 2)) (mCons (mIx (mV 1) (mV 2)) mNil)))) [some (false, .d (.tup xs)), some (false, .d (.tup ys)), none] =
      some (.val true (.ls ((List.range xs.length).map fun k => .bl (sameN n (xs.getD k .non) (ys.getD k .non)))), [some (false, .d (.tup xs)), some (false, .d (.tup ys)), none]) := by
  have e1 : (mRange1 (mCons (mN (f1 lenA) (mCons (mV 0) mNil)) mNil)) [some (false, .d (.tup xs)), some (false, .d (.tup ys)), none] = some ((List.range xs.length).map (fun k : Nat => A.d (.int ((0 : Int) + (k : Nat)))), [some (false, .d (.tup xs)), some (false, .d (.tup ys)), none]) := by
    have h0 : (mN (f1 lenA) (mCons (mV 0) mNil)) [some (false, .d (.tup xs)), some (false, .d (.tup ys)), none] = some (.val false (.d (.int xs.length)), [some (false, .d (.tup xs)), some (false, .d (.tup ys)), none]) := by simp
    refine (run_range1 h0 rfl (rgB_of (by omega) (by omega))).trans ?_
    rfl
  have e2 := run_compM (ws := [2]) (t := .nm 2) (tt := tYesM) (te := mN (fN 2 F) (mCons (mIx (mV 0) (mV 2)) (mCons (mIx (mV 1) (mV 2)) mNil))) (fun k : Nat => A.d (.int ((0 : Int) + (k : Nat)))) (fun _ => true) (fun k => D.bl (sameN n (xs.getD k .non) (ys.getD k .non))) e1 (fun k hk => by
    have hk := List.mem_range.mp hk
    refine ⟨[some (false, .d (.tup xs)), some (false, .d (.tup ys)), some (false, .d (.int ((0 : Int) + (k : Nat))))], putI_nm (by simp [wipeA]), rfl, rfl, fun _ => ⟨.val false (.d (.bl (sameN n (xs.getD k .non) (ys.getD k .non)))), ?_, rfl⟩⟩
    have ex : okD n (xs.getD k .non) = true := hx _ (by simp [List.getD_eq_getElem?_getD, hk])
    have ey : okD n (ys.getD k .non) = true := hy _ (by simp [List.getD_eq_getElem?_getD, hl ▸ hk])
    have ih := ih _ _ ex ey
    simp only [List.getD_eq_getElem?_getD] at ih
    simp only [Int.zero_add]
    simp [ixO_d (ix_tup hk), ixO_d (ix_tup (hl ▸ hk)), ih]) (by simp; exact hz)
  rw [e2, filter_yes]
  rfl
theorem same_tup1 {n : Nat} {F : List A → Option A} {xs ys : List D} (hl : xs.length = ys.length) {zs : List D} {b : Bool}
    (hc : (mComp [2] (mRange1 (mCons (mN (f1 lenA) (mCons (mV 0) mNil)) mNil)) (.nm 2) tYesM (mN (fN 2 F) (mCons (mIx (mV 0) (mV 2)) (mCons (mIx (mV 1) (mV 2)) mNil)))) [some (false, .d (.tup xs)), some (false, .d (.tup ys)), none] = some (.val true (.ls zs), [some (false, .d (.tup xs)), some (false, .d (.tup ys)), none]))
    (e1 : allA (.ls zs) = some (.d (.bl b))) : endF (m__law_same F [some (false, .d (.tup xs)), some (false, .d (.tup ys)), none]) = some (.d (.bl b)) := by
  have e0 : decide ((xs.length : Int) = ys.length) = true := decide_eq_true (by omega)
  unfold m__law_same
  generalize mComp [2] (mRange1 (mCons (mN (f1 lenA) (mCons (mV 0) mNil)) mNil)) (.nm 2) tYesM (mN (fN 2 F) (mCons (mIx (mV 0) (mV 2)) (mCons (mIx (mV 1) (mV 2)) mNil))) = mm at hc ⊢
  simp (implicitDefEqProofs := false) only [run_sSeq, run_sIf, run_tOrM, run_tAndM, run_mTru, run_mN, run_mCons, run_mV, List.getElem?_cons_zero, List.getElem?_cons_succ, peekO_some, obind_some, run_bnd, run_mC, run_mNil, run_ret, run_appN, rvs_cons, rvs_nil, rv_peek, rvO_some, rv_val, ocons_some, Option.bind_some, isi_tup, isiA, tyOf, Option.map_some, isT, ofin_some, fin_d, run_tru1, truA_bl, okB_some, decide_true, Bool.true_or, iteM_t, run_sRet, run_mAndV, run_asV, run_tCmpM, f1_one, lenA_tup, run_cmp2, bind2_some, eqA_int, e0, boolOf_val, andO_t, hc, e1, useM_val, seqF_rt]
  rfl
theorem same_tup2 {F : List A → Option A} {xs ys : List D} (h2 : decide ((xs.length : Int) = ys.length) = false) :
    endF (m__law_same F [some (false, .d (.tup xs)), some (false, .d (.tup ys)), none]) = some (.d (.bl false)) := by
  unfold m__law_same
  generalize mComp [2] (mRange1 (mCons (mN (f1 lenA) (mCons (mV 0) mNil)) mNil)) (.nm 2) tYesM (mN (fN 2 F) (mCons (mIx (mV 0) (mV 2)) (mCons (mIx (mV 1) (mV 2)) mNil))) = mm
  simp (implicitDefEqProofs := false) only [run_sSeq, run_sIf, run_tOrM, run_tAndM, run_mTru, run_mN, run_mCons, run_mV, List.getElem?_cons_zero, List.getElem?_cons_succ, peekO_some, obind_some, run_bnd, run_mC, run_mNil, run_ret, run_appN, rvs_cons, rvs_nil, rv_peek, rvO_some, rv_val, ocons_some, Option.bind_some, isi_tup, isiA, tyOf, Option.map_some, isT, ofin_some, fin_d, run_tru1, truA_bl, okB_some, decide_true, Bool.true_or, iteM_t, run_sRet, run_mAndV, run_asV, run_tCmpM, f1_one, lenA_tup, run_cmp2, bind2_some, eqA_int, h2, boolOf_val, andO_f, useM_val, seqF_rt]
  rfl
theorem sameN_tup {n : Nat} {xs ys : List D} : sameN (n + 1) (.tup xs) (.tup ys) = (xs.length == ys.length && (List.range xs.length).all fun k => sameN n (xs.getD k .non) (ys.getD k .non)) := by conv => lhs; unfold sameN
theorem all_bl {α : Type} {f : α → Bool} {xs : List α} : allA (.ls (xs.map fun a => .bl (f a))) = some (.d (.bl (xs.all f))) := by
  show (blsD (xs.map fun a => .bl (f a))).map (fun bs => A.b (bs.all id)) = _
  rw [blsD_mapF]
  simp [List.all_map, Function.comp_def]
theorem same_tup {n : Nat} {F : List A → Option A} (ih : SameAt n F) {xs ys : List D} (hx : ∀ x ∈ xs, okD n x = true) (hy : ∀ x ∈ ys, okD n x = true) (hz : xs.length ≤ 16777216) :
    endF (m__law_same F [some (false, .d (.tup xs)), some (false, .d (.tup ys)), none]) = some (.d (.bl (sameN (n + 1) (.tup xs) (.tup ys)))) := by
  by_cases hl : xs.length = ys.length
  · have e := same_tup1 (n := n) hl (same_comp ih hx hy hz hl) all_bl
    rw [e, sameN_tup]
    rw [show (xs.length == ys.length) = true from beq_iff_eq.mpr hl, Bool.true_and]
  · rw [same_tup2 (decide_eq_false (by clear hz; omega)), sameN_tup, show (xs.length == ys.length) = false from beq_eq_false_iff_ne.mpr hl, Bool.false_and]
theorem same_flat {n : Nat} {F : List A → Option A} {a b : D} (ha : okD (n + 1) a = true) (hb : okD (n + 1) b = true) (h : ∀ xs ys, ¬ (a = .tup xs ∧ b = .tup ys)) : endF (m__law_same F [some (false, .d a), some (false, .d b), none]) = some (.d (.bl (sameN (n + 1) a b))) := by
  unfold m__law_same
  cases a with
  | opq v => cases ha
  | scr v => cases ha
  | tup xs =>
    cases b with
    | opq v => cases hb
    | scr v => cases hb
    | tup ys => exact (h _ _ ⟨rfl, rfl⟩).elim
    | _ => simp (implicitDefEqProofs := false) [isiA, tyOf, isT, isNon, endF, sameN]
  | str x =>
    cases b with
    | opq v => cases hb
    | scr v => cases hb
    | str y =>
      have e := eqA_str (x := x) (y := y) ha hb
      simp (implicitDefEqProofs := false) [isiA, tyOf, isT, isNon, endF, sameN, e]
    | _ => simp (implicitDefEqProofs := false) [isiA, tyOf, isT, isNon, endF, sameN]
  | bl x =>
    cases b with
    | opq v => cases hb
    | scr v => cases hb
    | _ => simp (implicitDefEqProofs := false) [isiA, tyOf, isT, isNon, endF, sameN]
  | int x =>
    cases b with
    | opq v => cases hb
    | scr v => cases hb
    | _ => simp (implicitDefEqProofs := false) [isiA, tyOf, isT, isNon, endF, sameN]
  | non =>
    cases b with
    | opq v => cases hb
    | scr v => cases hb
    | _ => simp (implicitDefEqProofs := false) [isiA, tyOf, isT, isNon, endF, sameN]
theorem same_run (n : Nat) : SameAt n (F__law_same n) := by
  induction n with
  | zero =>
    intro a b h
    cases h
  | succ n ih =>
    intro a b ha hb
    show endF (m__law_same (F__law_same n) [some (false, .d a), some (false, .d b), none]) = _
    by_cases h : ∃ xs ys, a = .tup xs ∧ b = .tup ys
    · obtain ⟨xs, ys, rfl, rfl⟩ := h
      have hx := okD_tup ha
      have hy := okD_tup hb
      exact same_tup ih hx.1 hy.1 hx.2
    · exact same_flat ha hb fun xs ys e => h ⟨xs, ys, e⟩
end MM
namespace MM
open PySem PySem.Spec PyProof.Rows L2

/-! ### comprehensions of two clauses, parts of lists -/
section
variable {s s1 s2 : List Slot}
theorem compL2_map {ws ws1 : List Nat} {t t1 : Tg} {tt tt1 : SM Bool} {wi1 : SM (List A)} {te : SM R} {α β : Type} (enc : α → A) (p : α → Bool) (ys : α → List β) (enc1 : α → β → A) (p1 : α → β → Bool) (g : α → β → D) :
    ∀ {xs : List α} {acc : List D}, (∀ a ∈ xs, ∃ s1, putI t (enc a) s = some s1 ∧ tt s1 = some (p a, s1) ∧ (p a = false → wipeA ws s1 = s) ∧ (p a = true → ∃ s2, wi1 s1 = some ((ys a).map (enc1 a), s2) ∧ wipeA ws (wipeA ws1 s2) = s ∧
      ∀ b ∈ ys a, ∃ s3, putI t1 (enc1 a b) (wipeA ws1 s2) = some s3 ∧ wipeA ws1 s3 = wipeA ws1 s2 ∧ tt1 s3 = some (p1 a b, s3) ∧ (p1 a b = true → ∃ r, te s3 = some (r, s3) ∧ od r s3 = some (.d (g a b))))) →
    acc.length + (xs.map fun a => (ys a).length).sum ≤ 16777216 → compL2 ws ws1 t tt wi1 t1 tt1 te (xs.map enc) (.ls acc) s = some (.ls (acc ++ (xs.filter p).flatMap fun a => ((ys a).filter (p1 a)).map (g a)), s)
  | [], acc, _, _ => by simp [compL2]
  | a :: xs, acc, h, hz => by
    obtain ⟨s1, e1, e2, ef, et⟩ := h a List.mem_cons_self
    have hx := fun b hb => h b (List.mem_cons_of_mem _ hb)
    rw [List.map_cons]
    unfold compL2
    rw [List.map_cons, List.sum_cons] at hz
    cases hp : p a with
    | true =>
      obtain ⟨s2, e3, e4, hb⟩ := et hp
      have e5 := compL_map (acc := acc) (enc1 a) (p1 a) (g a) hb (szB_of (by omega))
      simp only [e1, e2, hp, e3, e5, e4]
      have hle : (((ys a).filter (p1 a)).map (g a)).length ≤ (ys a).length := by rw [List.length_map]; exact List.length_filter_le _ _
      rw [compL2_map enc p ys enc1 p1 g hx (by rw [List.length_append]; omega), List.filter_cons_of_pos hp]
      simp
    | false =>
      simp only [e1, e2, hp, ef hp]
      rw [compL2_map enc p ys enc1 p1 g hx (by omega), List.filter_cons_of_neg (by simp [hp])]
theorem run_comp2 {ws ws1 : List Nat} {mi wi1 : SM (List A)} {t t1 : Tg} {tt tt1 : SM Bool} {te : SM R} {its : List A} {l : A} (h : mi s = some (its, s1)) (h2 : compL2 ws ws1 t tt wi1 t1 tt1 te its (.ls []) (wipeA ws s1) = some (l, s2)) : mComp2 ws ws1 mi t tt wi1 t1 tt1 te s = some (fin l, restA ws s1 s2) := by
  unfold mComp2
  simp only [h, h2]
end
theorem sIx_hi {n : Nat} {f : Nat} : HT.sIx n n (some (f : Int)) = min n f := by
  rw [HT.sIx_nat, Nat.min_comm]
theorem cutL_to {α : Type} {xs : List α} {f : Nat} : cutL xs none (some (f : Int)) = xs.take f := by
  unfold cutL
  rw [sIx_hi]
  have : HT.sIx xs.length 0 none = 0 := rfl
  rw [this, List.drop_zero, Nat.sub_zero]
  rcases Nat.le_total xs.length f with h | h
  · rw [Nat.min_eq_left h, List.take_length, List.take_of_length_le h]
  · rw [Nat.min_eq_right h]
@[simp] theorem ix_cons0 {x : D} {xs : List D} : ixA (.d (.tup (x :: xs))) (.d (.int 0)) = some (.d x) := by
  show (atI (x :: xs) 0).map A.d = _
  rw [atI_zero]
  rfl
end MM
namespace MM
open PySem PySem.Spec PyProof.Rows L2
def topS (i : Nat) : Stmt := PySem.Challenge.pw_marksrounded_k49_whole_who_goes_on.main.body.getD i (.Pass ⟨0, 0, 0, 0⟩)
abbrev st_going_on : Stmt := topS 1
abbrev N_going_on : List Str := ["results", "quota", "further", "rows", "first", "more", "row", "g", "order", "k", "name", "_"]
theorem sc_going_on : FnScope N_going_on ["results", "quota", "further"] (defScope st_going_on) := ⟨rfl, rfl, rfl, by decide +kernel, rfl, by decide +kernel, by decide +kernel⟩
abbrev st_is_through : Stmt := topS 2
abbrev N_is_through : List Str := ["sizes", "place", "quota", "further", "group", "ahead", "size"]
theorem sc_is_through : FnScope N_is_through ["sizes", "place", "quota", "further", "group"] (defScope st_is_through) := ⟨rfl, rfl, rfl, by decide +kernel, rfl, by decide +kernel, by decide +kernel⟩
abbrev st__law_box : Stmt := topS 4
abbrev N__law_box : List Str := ["script"]
theorem sc__law_box : FnScope N__law_box ["script"] (defScope st__law_box) := ⟨rfl, rfl, rfl, by decide +kernel, rfl, by decide +kernel, by decide +kernel⟩
abbrev st__law_load : Stmt := topS 5
abbrev N__law_load : List Str := ["box", "cells", "cell", "size", "first", "second"]
theorem sc__law_load : FnScope N__law_load ["box"] (defScope st__law_load) := ⟨rfl, rfl, rfl, by decide +kernel, rfl, by decide +kernel, by decide +kernel⟩
abbrev st__law_draw : Stmt := topS 6
abbrev N__law_draw : List Str := ["box", "many", "digit"]
theorem sc__law_draw : FnScope N__law_draw ["box", "many"] (defScope st__law_draw) := ⟨rfl, rfl, rfl, by decide +kernel, rfl, by decide +kernel, by decide +kernel⟩
abbrev st__law_same : Stmt := topS 7
abbrev N__law_same : List Str := ["a", "b", "k"]
theorem sc__law_same : FnScope N__law_same ["a", "b"] (defScope st__law_same) := ⟨rfl, rfl, rfl, by decide +kernel, rfl, by decide +kernel, by decide +kernel⟩
abbrev st__law_going : Stmt := topS 8
abbrev N__law_going : List Str := ["results", "quota", "further", "found", "more", "place", "order"]
theorem sc__law_going : FnScope N__law_going ["results", "quota", "further"] (defScope st__law_going) := ⟨rfl, rfl, rfl, by decide +kernel, rfl, by decide +kernel, by decide +kernel⟩
abbrev st_law : Stmt := topS 9
abbrev N_law : List Str := ["script", "box", "turn", "k", "left", "results", "group", "quota", "further", "due", "order", "sure", "sizes", "g", "through", "mixed", "row", "i", "j", "other", "places"]
theorem sc_law : FnScope N_law ["script"] (defScope st_law) := ⟨rfl, rfl, rfl, by decide +kernel, rfl, by decide +kernel, by decide +kernel⟩
structure Tx (K : PySem.W.Frag) (mg : Str → Option Value) where
  b_all : mg "all" = none
  b_bool : mg "bool" = none
  b_enumerate : mg "enumerate" = none
  b_int : mg "int" = none
  b_isinstance : mg "isinstance" = none
  b_len : mg "len" = none
  b_list : mg "list" = none
  b_max : mg "max" = none
  b_min : mg "min" = none
  b_range : mg "range" = none
  b_sorted : mg "sorted" = none
  b_str : mg "str" = none
  b_sum : mg "sum" = none
  b_tuple : mg "tuple" = none
  a_going_on : Addr
  f_going_on : FuncData
  F_going_on : Fun K "going_on" "going_on" st_going_on a_going_on f_going_on
  g_going_on : mg "going_on" = some (.ref a_going_on)
  d_going_on : Binds K f_going_on ["results", "quota", "further"] []
  a_is_through : Addr
  f_is_through : FuncData
  F_is_through : Fun K "is_through" "is_through" st_is_through a_is_through f_is_through
  g_is_through : mg "is_through" = some (.ref a_is_through)
  d_is_through : Binds K f_is_through ["sizes", "place", "quota", "further", "group"] []
  a__law_box : Addr
  f__law_box : FuncData
  F__law_box : Fun K "_law_box" "_law_box" st__law_box a__law_box f__law_box
  g__law_box : mg "_law_box" = some (.ref a__law_box)
  d__law_box : Binds K f__law_box ["script"] []
  a__law_load : Addr
  f__law_load : FuncData
  F__law_load : Fun K "_law_load" "_law_load" st__law_load a__law_load f__law_load
  g__law_load : mg "_law_load" = some (.ref a__law_load)
  d__law_load : Binds K f__law_load ["box"] []
  a__law_draw : Addr
  f__law_draw : FuncData
  F__law_draw : Fun K "_law_draw" "_law_draw" st__law_draw a__law_draw f__law_draw
  g__law_draw : mg "_law_draw" = some (.ref a__law_draw)
  d__law_draw : Binds K f__law_draw ["box", "many"] []
  a__law_same : Addr
  f__law_same : FuncData
  F__law_same : Fun K "_law_same" "_law_same" st__law_same a__law_same f__law_same
  g__law_same : mg "_law_same" = some (.ref a__law_same)
  d__law_same : Binds K f__law_same ["a", "b"] []
  a__law_going : Addr
  f__law_going : FuncData
  F__law_going : Fun K "_law_going" "_law_going" st__law_going a__law_going f__law_going
  g__law_going : mg "_law_going" = some (.ref a__law_going)
  d__law_going : Binds K f__law_going ["results", "quota", "further"] []
  a_law : Addr
  f_law : FuncData
  F_law : Fun K "law" "law" st_law a_law f_law
  g_law : mg "law" = some (.ref a_law)
  d_law : Binds K f_law ["script"] []
section
variable {P : Program} {w : World} {K : PySem.W.Frag} {mg : Str → Option Value}
def m_going_on : SM Fl :=
    sSeq (sSet 3 (mN (f1 sortA) (mCons (mComp2 [7, 8, 9, 10] [9, 10] (mEnum (mV 0)) (.tp [.nm 7, .nm 8]) tYesM (mEnum (mV 8)) (.tp [.nm 9, .nm 10]) tYesM (mTup (mCons (mV 9) (mCons (mV 7) (mCons (mV 10) mNil))))) mNil)))
    (sSeq (sSet 4 (mComp [6] (mIter (mV 3)) (.nm 6) (tCmpM ltA (mIx (mV 6) (mC (.int 0))) (mV 1)) (mV 6)))
    (sSeq (sSet 5 (mSl (mComp [6] (mIter (mV 3)) (.nm 6) (tCmpM geA (mIx (mV 6) (mC (.int 0))) (mV 1)) (mV 6)) partN (partS (mV 2))))
    (sRet (mN (f1 tupleA) (mCons (mComp [11, 10] (mIter (m2 addA (mV 4) (mV 5))) (.tp [.nm 11, .nm 11, .nm 10]) tYesM (mV 10)) mNil)))))
def F_going_on : List MM.A → Option MM.A := runF 12 m_going_on
theorem ok_going_on (T : Tx K mg) (base : Heap) : FnOk P w K mg base CX0 1 T.a_going_on T.f_going_on ["results", "quota", "further"] (spF K 3 F_going_on) := fn_ok T.F_going_on sc_going_on (fun cdv A outer s H hr E => by
    have hu : ∀ (n : Nat) (B : Around), B.units = (A.deeper (envOfC "going_on" (defScope st_going_on) s.heap.objs.size T.a_going_on cdv)).units + n → n ≤ 90 → B.units + 65 < cLine := fun n B e h => by have := hr.un; omega
    refine pmb_cons ?_ ?_
    · exact (pms_set (by decide) sc_going_on.nd rfl (Or.inl rfl) (pm_callB (call_sortA (hu 0 _ rfl (by decide))) pr_sort (by rfl) T.b_sorted (by decide +kernel) (pma_cons (pm_lc2W rfl sc_going_on.nd (pmi_enum (by rfl) T.b_enumerate (pm_v (pv 0))) (blkOk_by (own := [("g", 7), ("order", 8), ("k", 9), ("name", 10)]) (N := N_going_on) (sc := (defScope st_going_on)) (scope := { kind := .function, names := [(".0", .local), ("g", .local), ("order", .local), ("k", .local), ("name", .local), ("enumerate", .globalImplicit)], isGenerator := false, isCoroutine := false }) (by decide +kernel)) rfl (by decide) (by decide) (by decide) (fun _ _ _ _ _ => (pgm_tup rfl (pgms_cons (pgm_name sc_going_on.nd rfl (by first | exact Or.inl rfl | exact Or.inr rfl)) (pgms_cons (pgm_name sc_going_on.nd rfl (by first | exact Or.inl rfl | exact Or.inr rfl)) pgms_nil)))) (fun _ _ _ _ _ => pmts_nil) (fun _ _ _ _ _ => (pmi_enum (by rfl) T.b_enumerate (pm_v (pv 8)))) (fun _ _ _ _ _ => (pgm_tup rfl (pgms_cons (pgm_name sc_going_on.nd rfl (by first | exact Or.inl rfl | exact Or.inr rfl)) (pgms_cons (pgm_name sc_going_on.nd rfl (by first | exact Or.inl rfl | exact Or.inr rfl)) pgms_nil)))) (fun _ _ _ _ _ => pmts_nil) (fun _ _ _ _ _ => (pm_tup (pma_cons (pm_v (pv 9)) (pma_cons (pm_v (pv 7)) (pma_cons (pm_v (pv 10)) pma_nil)))))) pma_nil)))
    refine pmb_cons ?_ ?_
    · exact (pms_setLcW (by decide) rfl sc_going_on.nd rfl rfl (sw_true rfl rfl rfl (by decide +kernel)) (pmi_seq (pm_v (pv 3))) (blkOk_by (own := [("row", 6)]) (N := N_going_on) (sc := (defScope st_going_on)) (scope := { kind := .function, names := [(".0", .local), ("row", .local), ("quota", .free)], isGenerator := false, isCoroutine := false }) (by decide +kernel)) rfl (by decide) (fun _ _ _ _ _ => (pgm_name sc_going_on.nd rfl (by first | exact Or.inl rfl | exact Or.inr rfl))) (fun _ _ _ _ _ => (pmts_one (pmt_lt (pm_ix (pm_v (pv 6)) pm_int (fun _ _ => rfl)) (pm_v (pv 1))))) (fun _ _ _ _ _ => (pm_v (pv 6))))
    refine pmb_cons ?_ ?_
    · exact (pms_set (by decide) sc_going_on.nd rfl (Or.inl rfl) (pm_sl (pm_lcW rfl sc_going_on.nd (pmi_seq (pm_v (pv 3))) (blkOk_by (own := [("row", 6)]) (N := N_going_on) (sc := (defScope st_going_on)) (scope := { kind := .function, names := [(".0", .local), ("row", .local), ("quota", .free)], isGenerator := false, isCoroutine := false }) (by decide +kernel)) rfl (by decide) (fun _ _ _ _ _ => (pgm_name sc_going_on.nd rfl (by first | exact Or.inl rfl | exact Or.inr rfl))) (fun _ _ _ _ _ => (pmts_one (pmt_ge (pm_ix (pm_v (pv 6)) pm_int (fun _ _ => rfl)) (pm_v (pv 1))))) (fun _ _ _ _ _ => (pm_v (pv 6)))) pmp_none (pmp_some (pm_v (pv 2)))))
    refine pmb_one ?_
    exact (pms_ret (pm_callT call_tuple_of pr_tuple (by rfl) T.b_tuple (by decide +kernel) (pma_cons (pm_lcW rfl sc_going_on.nd (pmi_seq (pm_add (pm_v (pv 4)) (pm_v (pv 5)))) (blkOk_by (own := [("_", 11), ("name", 10)]) (N := N_going_on) (sc := (defScope st_going_on)) (scope := { kind := .function, names := [(".0", .local), ("_", .local), ("name", .local)], isGenerator := false, isCoroutine := false }) (by decide +kernel)) rfl (by decide) (fun _ _ _ _ _ => (pgm_tup rfl (pgms_cons (pgm_name sc_going_on.nd rfl (by first | exact Or.inl rfl | exact Or.inr rfl)) (pgms_cons (pgm_name sc_going_on.nd rfl (by first | exact Or.inl rfl | exact Or.inr rfl)) (pgms_cons (pgm_name sc_going_on.nd rfl (by first | exact Or.inl rfl | exact Or.inr rfl)) pgms_nil))))) (fun _ _ _ _ _ => pmts_nil) (fun _ _ _ _ _ => (pm_v (pv 10)))) pma_nil))))
def m_is_through : SM Fl :=
    sSeq (sIf (tCmpM leA (mV 1) (mV 2)) (sRet (mC (.bl true))) sNop)
    (sSeq (sSet 5 (mN (f1 sumA) (mCons (mComp [6] (mIter (mV 0)) (.nm 6) tYesM (mN (f2 max2A) (mCons (mC (.int 0)) (mCons (m2 subA (mN (f2 min2A) (mCons (mV 6) (mCons (m2 subA (mV 1) (mC (.int 1))) mNil))) (mV 2)) mNil)))) mNil)))
    (sRet (asV (tCmpM ltA (m2 addA (mV 5) (mN (f1 lenA) (mCons (mComp [6] (mIter (mSl (mV 0) partN (partS (mV 4)))) (.nm 6) (tCmpM geA (mV 6) (mV 1)) (mV 6)) mNil))) (mV 3)))))
def F_is_through : List MM.A → Option MM.A := runF 7 m_is_through
theorem ok_is_through (T : Tx K mg) (base : Heap) : FnOk P w K mg base CX0 1 T.a_is_through T.f_is_through ["sizes", "place", "quota", "further", "group"] (spF K 5 F_is_through) := fn_ok T.F_is_through sc_is_through (fun cdv A outer s H hr E => by
    have hu : ∀ (n : Nat) (B : Around), B.units = (A.deeper (envOfC "is_through" (defScope st_is_through) s.heap.objs.size T.a_is_through cdv)).units + n → n ≤ 90 → B.units + 65 < cLine := fun n B e h => by have := hr.un; omega
    refine pmb_cons ?_ ?_
    · refine pms_if ?_ ?_ ?_
      · exact (pmt_le (pm_v (pv 1)) (pm_v (pv 2)))
      · refine pmb_one ?_
        exact (pms_ret pm_bl)
      · exact pmb_nil
    refine pmb_cons ?_ ?_
    · exact (pms_set (by decide) sc_is_through.nd rfl (Or.inl rfl) (pm_callB (cr_sum rfl) pr_sum (by rfl) T.b_sum (by decide +kernel) (pma_cons (pm_lcW rfl sc_is_through.nd (pmi_seq (pm_v (pv 0))) (blkOk_by (own := [("size", 6)]) (N := N_is_through) (sc := (defScope st_is_through)) (scope := { kind := .function, names := [(".0", .local), ("size", .local), ("max", .globalImplicit), ("min", .globalImplicit), ("place", .free), ("quota", .free)], isGenerator := false, isCoroutine := false }) (by decide +kernel)) rfl (by decide) (fun _ _ _ _ _ => (pgm_name sc_is_through.nd rfl (by first | exact Or.inl rfl | exact Or.inr rfl))) (fun _ _ _ _ _ => pmts_nil) (fun _ _ _ _ _ => (pm_callB (call_max2 rfl) pr_max2 (by rfl) T.b_max (by decide +kernel) (pma_cons pm_int (pma_cons (pm_sub (pm_callB (call_min2 rfl) pr_min2 (by rfl) T.b_min (by decide +kernel) (pma_cons (pm_v (pv 6)) (pma_cons (pm_sub (pm_v (pv 1)) pm_int) pma_nil))) (pm_v (pv 2))) pma_nil))))) pma_nil)))
    refine pmb_one ?_
    exact (pms_ret (pm_lt (pm_add (pm_v (pv 5)) (pm_callB call_len pr_len (by rfl) T.b_len (by decide +kernel) (pma_cons (pm_lcW rfl sc_is_through.nd (pmi_seq (pm_sl (pm_v (pv 0)) pmp_none (pmp_some (pm_v (pv 4))))) (blkOk_by (own := [("size", 6)]) (N := N_is_through) (sc := (defScope st_is_through)) (scope := { kind := .function, names := [(".0", .local), ("size", .local), ("place", .free)], isGenerator := false, isCoroutine := false }) (by decide +kernel)) rfl (by decide) (fun _ _ _ _ _ => (pgm_name sc_is_through.nd rfl (by first | exact Or.inl rfl | exact Or.inr rfl))) (fun _ _ _ _ _ => (pmts_one (pmt_ge (pm_v (pv 6)) (pm_v (pv 1))))) (fun _ _ _ _ _ => (pm_v (pv 6)))) pma_nil))) (pm_v (pv 3)))))
theorem ok__law_box (T : Tx K mg) (base : Heap) : FnOk P w K mg base CX0 1 T.a__law_box T.f__law_box ["script"] (spF K 1 F__law_box) := fn_ok T.F__law_box sc__law_box (fun cdv A outer s H hr E => by
    have hu : ∀ (n : Nat) (B : Around), B.units = (A.deeper (envOfC "_law_box" (defScope st__law_box) s.heap.objs.size T.a__law_box cdv)).units + n → n ≤ 90 → B.units + 65 < cLine := fun n B e h => by have := hr.un; omega
    refine pmb_one ?_
    exact (pms_ret (pm_lst (pma_cons (pm_callT call_list_of pr_list (by rfl) T.b_list (by decide +kernel) (pma_cons (pm_sl (pm_v (pv 0)) pmp_none (pmp_some pm_int)) pma_nil)) (pma_cons pm_int (pma_cons (pm_add pm_int (pm_callB call_len pr_len (by rfl) T.b_len (by decide +kernel) (pma_cons (pm_v (pv 0)) pma_nil))) pma_nil))))))
theorem ok__law_load (T : Tx K mg) (base : Heap) : FnOk P w K mg base CX0 1 T.a__law_load T.f__law_load ["box"] (spB K 1 F_load) := load_ok (K := K) T.F__law_load sc__law_load rfl rfl (st1 := (defBody st__law_load).getD 0 (.Pass ⟨0, 0, 0, 0⟩)) (rest := (defBody st__law_load).drop 1) rfl
    (fun cdv A outer s H hr E => ps_bor (pv 0) sc__law_load.nd rfl (Or.inl rfl)) (fun cdv A outer s H hr E => by
    refine pmb_cons ?_ ?_
    · refine pms_if ?_ ?_ ?_
      · exact (pmt_gt (pm_callB call_len pr_len (by rfl) T.b_len (by decide +kernel) (pma_cons (pm_v (pv 1)) pma_nil)) pm_int)
      · refine pmb_cons ?_ ?_
        · exact (pms_set (by decide) sc__law_load.nd rfl (Or.inl rfl) (pm_callT call_int1 pr_int (by rfl) T.b_int (by decide +kernel) (pma_cons (pm_popAt (pv 1) pm_int) pma_nil)))
        refine pmb_cons ?_ ?_
        · exact (pms_set (by decide) sc__law_load.nd rfl (Or.inl rfl) (pm_if (pmt_ge (pm_v (pv 2)) pm_int) (pm_mul pm_int (pm_v (pv 2))) (pm_sub (pm_mul (pm_neg pm_int) (pm_v (pv 2))) pm_int)))
        refine pmb_cons ?_ ?_
        · refine pms_if ?_ ?_ ?_
          · exact (pmt_ge (pm_v (pv 3)) pm_int)
          · refine pmb_one ?_
            exact (pms_ret (pm_v (pv 3)))
          · exact pmb_nil
        refine pmb_one ?_
        exact (pms_setIx (pv 0) pm_int (pm_mod (pm_callT call_int1 pr_int (by rfl) T.b_int (by decide +kernel) (pma_cons (pm_add (pm_add (pm_mul (pm_ix (pm_v (pv 0)) pm_int (fun _ _ => rfl)) pm_int) (pm_mul (pm_v (pv 3)) pm_int)) pm_int) pma_nil)) pm_int))
      · exact pmb_nil
    refine pmb_cons ?_ ?_
    · exact (pms_set (by decide) sc__law_load.nd rfl (Or.inl rfl) (pm_mod (pm_callT call_int1 pr_int (by rfl) T.b_int (by decide +kernel) (pma_cons (pm_add (pm_mul (pm_ix (pm_v (pv 0)) pm_int (fun _ _ => rfl)) pm_int) pm_int) pma_nil)) pm_int))
    refine pmb_cons ?_ ?_
    · exact (pms_set (by decide) sc__law_load.nd rfl (Or.inl rfl) (pm_mod (pm_callT call_int1 pr_int (by rfl) T.b_int (by decide +kernel) (pma_cons (pm_add (pm_mul (pm_v (pv 4)) pm_int) pm_int) pma_nil)) pm_int))
    refine pmb_cons ?_ ?_
    · exact (pms_setIx (pv 0) pm_int (pm_mod (pm_callT call_int1 pr_int (by rfl) T.b_int (by decide +kernel) (pma_cons (pm_add (pm_mul (pm_v (pv 5)) pm_int) pm_int) pma_nil)) pm_int))
    refine pmb_one ?_
    exact (pms_ret (pm_add (pm_add (pm_mul (pm_v (pv 4)) pm_int) (pm_mul (pm_v (pv 5)) pm_int)) (pm_ix (pm_v (pv 0)) pm_int (fun _ _ => rfl)))))
theorem ok__law_draw (T : Tx K mg) (base : Heap) : FnOk P w K mg base CX0 2 T.a__law_draw T.f__law_draw ["box", "many"] (spB K 2 F__law_draw) := fnB_ok T.F__law_draw sc__law_draw (by decide) (fun cdv A outer s H hr E => by
    have hu : ∀ (n : Nat) (B : Around), B.units = (A.deeper (envOfC "_law_draw" (defScope st__law_draw) s.heap.objs.size T.a__law_draw cdv)).units + n → n ≤ 90 → B.units + 65 < cLine := fun n B e h => by have := hr.un; omega
    refine pmb_cons ?_ ?_
    · refine pms_if ?_ ?_ ?_
      · exact (pmt_lt (pm_ix (pm_v (pv 0)) pm_int (fun _ _ => rfl)) (pm_v (pv 1)))
      · refine pmb_one ?_
        exact (pms_setIx (pv 0) pm_int (pm_callBr (ok__law_load T base) (hr.mono (by decide)) (by rfl) T.g__law_load T.F__law_load.kp T.d__law_load (pv 0) pma_nil))
      · exact pmb_nil
    refine pmb_cons ?_ ?_
    · exact (pms_set (by decide) sc__law_draw.nd rfl (Or.inl rfl) (pm_mod (pm_callT call_int1 pr_int (by rfl) T.b_int (by decide +kernel) (pma_cons (pm_ix (pm_v (pv 0)) pm_int (fun _ _ => rfl)) pma_nil)) (pm_v (pv 1))))
    refine pmb_cons ?_ ?_
    · exact (pms_setIx (pv 0) pm_int (pm_fdiv (pm_ix (pm_v (pv 0)) pm_int (fun _ _ => rfl)) (pm_v (pv 1))))
    refine pmb_one ?_
    exact (pms_ret (pm_v (pv 2))))
theorem ok__law_same (T : Tx K mg) : ∀ (k : Nat) (base : Heap), FnOk P w K mg base CX0 (1 + k) T.a__law_same T.f__law_same ["a", "b"] (spF K 2 (F__law_same k))
  | 0, base => ok_noneF
  | k + 1, base => fn_ok T.F__law_same sc__law_same (fun cdv A outer s H hr E => by
    have ih := fun base => ok__law_same T k base
    have hu : ∀ (n : Nat) (B : Around), B.units = (A.deeper (envOfC "_law_same" (defScope st__law_same) s.heap.objs.size T.a__law_same cdv)).units + n → n ≤ 90 → B.units + 65 < cLine := fun n B e h => by have := hr.un; omega
    refine pmb_cons ?_ ?_
    · refine pms_if ?_ ?_ ?_
      · exact (PMW.pt (pmw_or (PMW.pt (pmw_and (pmt_tru (pm_callB call_isi (pr_isi .tuple) (by rfl) T.b_isinstance (by decide +kernel) (pma_cons (pm_v (pv 0)) (pma_cons (pm_ty (by rfl) T.b_tuple (by decide +kernel)) pma_nil))) (fun _ => rfl)) (pmw_and1 (pmt_tru (pm_callB call_isi (pr_isi .tuple) (by rfl) T.b_isinstance (by decide +kernel) (pma_cons (pm_v (pv 1)) (pma_cons (pm_ty (by rfl) T.b_tuple (by decide +kernel)) pma_nil))) (fun _ => rfl))))) (pmw_or1 (PMW.pt (pmw_and (pmt_tru (pm_callB call_isi (pr_isi .list) (by rfl) T.b_isinstance (by decide +kernel) (pma_cons (pm_v (pv 0)) (pma_cons (pm_ty (by rfl) T.b_list (by decide +kernel)) pma_nil))) (fun _ => rfl)) (pmw_and1 (pmt_tru (pm_callB call_isi (pr_isi .list) (by rfl) T.b_isinstance (by decide +kernel) (pma_cons (pm_v (pv 1)) (pma_cons (pm_ty (by rfl) T.b_list (by decide +kernel)) pma_nil))) (fun _ => rfl))))))))
      · refine pmb_one ?_
        exact (pms_ret (pm_and (pm_eq (hu 0 _ rfl (by decide)) (pm_callB call_len pr_len (by rfl) T.b_len (by decide +kernel) (pma_cons (pm_v (pv 0)) pma_nil)) (pm_callB call_len pr_len (by rfl) T.b_len (by decide +kernel) (pma_cons (pm_v (pv 1)) pma_nil))) (pm_one (pm_callB (cr_all rfl) pr_all (by rfl) T.b_all (by decide +kernel) (pma_cons (pm_lcW rfl sc__law_same.nd (pmi_range1 (by rfl) T.b_range (pma_cons (pm_callB call_len pr_len (by rfl) T.b_len (by decide +kernel) (pma_cons (pm_v (pv 0)) pma_nil)) pma_nil)) (blkOk_by (own := [("k", 2)]) (N := N__law_same) (sc := (defScope st__law_same)) (scope := { kind := .function, names := [(".0", .local), ("k", .local), ("_law_same", .globalImplicit), ("a", .free), ("b", .free)], isGenerator := false, isCoroutine := false }) (by decide +kernel)) rfl (by decide) (fun _ _ _ _ _ => (pgm_name sc__law_same.nd rfl (by first | exact Or.inl rfl | exact Or.inr rfl))) (fun _ _ _ _ _ => pmts_nil) (fun _ _ _ _ _ => (pm_call (ih base) (hr.mono (Nat.le_refl _)) (by rfl) T.g__law_same T.F__law_same.kp T.d__law_same (pma_cons (pm_ix (pm_v (pv 0)) (pm_v (pv 2)) (fun _ _ => rfl)) (pma_cons (pm_ix (pm_v (pv 1)) (pm_v (pv 2)) (fun _ _ => rfl)) pma_nil))))) pma_nil)))))
      · exact pmb_nil
    refine pmb_cons ?_ ?_
    · refine pms_if ?_ ?_ ?_
      · exact (PMW.pt (pmw_or (pmt_tru (pm_callB call_isi (pr_isi .bool) (by rfl) T.b_isinstance (by decide +kernel) (pma_cons (pm_v (pv 0)) (pma_cons (pm_ty (by rfl) T.b_bool (by decide +kernel)) pma_nil))) (fun _ => rfl)) (pmw_or1 (pmt_tru (pm_callB call_isi (pr_isi .bool) (by rfl) T.b_isinstance (by decide +kernel) (pma_cons (pm_v (pv 1)) (pma_cons (pm_ty (by rfl) T.b_bool (by decide +kernel)) pma_nil))) (fun _ => rfl)))))
      · refine pmb_one ?_
        exact (pms_ret (pm_and (pm_callB call_isi (pr_isi .bool) (by rfl) T.b_isinstance (by decide +kernel) (pma_cons (pm_v (pv 0)) (pma_cons (pm_ty (by rfl) T.b_bool (by decide +kernel)) pma_nil))) (pm_and (pm_callB call_isi (pr_isi .bool) (by rfl) T.b_isinstance (by decide +kernel) (pma_cons (pm_v (pv 1)) (pma_cons (pm_ty (by rfl) T.b_bool (by decide +kernel)) pma_nil))) (pm_one (pm_eq (hu 0 _ rfl (by decide)) (pm_v (pv 0)) (pm_v (pv 1)))))))
      · exact pmb_nil
    refine pmb_cons ?_ ?_
    · refine pms_if ?_ ?_ ?_
      · exact (PMW.pt (pmw_or (PMW.pt (pmw_and (pmt_tru (pm_callB call_isi (pr_isi .int) (by rfl) T.b_isinstance (by decide +kernel) (pma_cons (pm_v (pv 0)) (pma_cons (pm_ty (by rfl) T.b_int (by decide +kernel)) pma_nil))) (fun _ => rfl)) (pmw_and1 (pmt_tru (pm_callB call_isi (pr_isi .int) (by rfl) T.b_isinstance (by decide +kernel) (pma_cons (pm_v (pv 1)) (pma_cons (pm_ty (by rfl) T.b_int (by decide +kernel)) pma_nil))) (fun _ => rfl))))) (pmw_or1 (PMW.pt (pmw_and (pmt_tru (pm_callB call_isi (pr_isi .str) (by rfl) T.b_isinstance (by decide +kernel) (pma_cons (pm_v (pv 0)) (pma_cons (pm_ty (by rfl) T.b_str (by decide +kernel)) pma_nil))) (fun _ => rfl)) (pmw_and1 (pmt_tru (pm_callB call_isi (pr_isi .str) (by rfl) T.b_isinstance (by decide +kernel) (pma_cons (pm_v (pv 1)) (pma_cons (pm_ty (by rfl) T.b_str (by decide +kernel)) pma_nil))) (fun _ => rfl))))))))
      · refine pmb_one ?_
        exact (pms_ret (pm_eq (hu 0 _ rfl (by decide)) (pm_v (pv 0)) (pm_v (pv 1))))
      · exact pmb_nil
    refine pmb_one ?_
    exact (pms_ret (pm_and (pm_is (pm_v (pv 0)) pm_non) (pm_one (pm_is (pm_v (pv 1)) pm_non)))))
def m__law_going : SM Fl :=
    sSeq (sPar [3, 4] (mCons (mUse (mLst mNil)) (mCons (mUse (mV 2)) mNil)))
    (sSeq (sFor (.nm 5) (mRange2 (mCons (mC (.int 1)) (mCons (mC (.int 8)) mNil))) (sFor (.nm 6) (mIter (mV 0)) (sIf (tCmpM leA (mV 5) (mN (f1 lenA) (mCons (mV 6) mNil))) (sIf (tCmpM leA (mV 5) (mV 1)) (sExpr (mAppend 3 (mIx (mV 6) (m2 subA (mV 5) (mC (.int 1)))))) (sIf (tCmpM gtA (mV 4) (mC (.int 0))) (sSeq (sExpr (mAppend 3 (mIx (mV 6) (m2 subA (mV 5) (mC (.int 1))))))
    (sSet 4 (m2 subA (mV 4) (mC (.int 1))))) sNop)) sNop)))
    (sRet (mN (f1 tupleA) (mCons (mV 3) mNil))))
def F__law_going : List MM.A → Option MM.A := runF 7 m__law_going
theorem ok__law_going (T : Tx K mg) (base : Heap) : FnOk P w K mg base CX0 1 T.a__law_going T.f__law_going ["results", "quota", "further"] (spF K 3 F__law_going) := fn_ok T.F__law_going sc__law_going (fun cdv A outer s H hr E => by
    have hu : ∀ (n : Nat) (B : Around), B.units = (A.deeper (envOfC "_law_going" (defScope st__law_going) s.heap.objs.size T.a__law_going cdv)).units + n → n ≤ 90 → B.units + 65 < cLine := fun n B e h => by have := hr.un; omega
    refine pmb_cons ?_ ?_
    · exact (pms_par2 (by decide) rfl sc__law_going.nd rfl rfl (by decide) rfl rfl (pma_cons (pm_use (pm_lst pma_nil)) (pma_cons (pm_use (pm_v (pv 2))) pma_nil)) (by rfl))
    refine pmb_cons ?_ ?_
    · refine pms_for (by decide) PassesOwn.never rfl ?_ ?_ ?_
      · exact (pmi_range2 (by rfl) T.b_range (pma_cons pm_int (pma_cons pm_int pma_nil)))
      · exact (pgm_name sc__law_going.nd rfl (by first | exact Or.inl rfl | exact Or.inr rfl))
      · refine pmb_one ?_
        refine pms_for (by decide) PassesOwn.never rfl ?_ ?_ ?_
        · exact (pmi_seq (pm_v (pv 0)))
        · exact (pgm_name sc__law_going.nd rfl (by first | exact Or.inl rfl | exact Or.inr rfl))
        · refine pmb_one ?_
          refine pms_if ?_ ?_ ?_
          · exact (pmt_le (pm_v (pv 5)) (pm_callB call_len pr_len (by rfl) T.b_len (by decide +kernel) (pma_cons (pm_v (pv 6)) pma_nil)))
          · refine pmb_one ?_
            refine pms_if ?_ ?_ ?_
            · exact (pmt_le (pm_v (pv 5)) (pm_v (pv 1)))
            · refine pmb_one ?_
              exact (pms_expr (pm_append (pv 3) (pm_ix (pm_v (pv 6)) (pm_sub (pm_v (pv 5)) pm_int) (fun _ _ => rfl))))
            · refine pmb_one ?_
              refine pms_if ?_ ?_ ?_
              · exact (pmt_gt (pm_v (pv 4)) pm_int)
              · refine pmb_cons ?_ ?_
                · exact (pms_expr (pm_append (pv 3) (pm_ix (pm_v (pv 6)) (pm_sub (pm_v (pv 5)) pm_int) (fun _ _ => rfl))))
                refine pmb_one ?_
                exact (pms_set (by decide) sc__law_going.nd rfl (Or.inl rfl) (pm_sub (pm_v (pv 4)) pm_int))
              · exact pmb_nil
          · exact pmb_nil
    refine pmb_one ?_
    exact (pms_ret (pm_callT call_tuple_of pr_tuple (by rfl) T.b_tuple (by decide +kernel) (pma_cons (pm_v (pv 3)) pma_nil))))
def m_law : SM Fl :=
    sSeq (sSet 1 (mN (fN 1 F__law_box) (mCons (mV 0) mNil)))
    (sSeq (sFor (.nm 2) (mRange1 (mCons (mC (.int 6)) mNil)) (sSeq (sPar [4, 5] (mCons (mUse (mComp [3] (mRange1 (mCons (mC (.int 30)) mNil)) (.nm 3) tYesM (m2 addA (mC (.str "b")) (mN (f1 strA) (mCons (mV 3) mNil))))) (mCons (mUse (mLst mNil)) mNil)))
    (sSeq (sFor (.nm 6) (mRange1 (mCons (mCallB 2 F__law_draw 1 (mCons (mC (.int 6)) mNil)) mNil)) (sExpr (mAppend 5 (mN (f1 tupleA) (mCons (mComp [3] (mRange1 (mCons (mCallB 2 F__law_draw 1 (mCons (mC (.int 7)) mNil)) mNil)) (.nm 3) tYesM (mPopAt 4 (mCallB 2 F__law_draw 1 (mCons (mN (f1 lenA) (mCons (mV 4) mNil)) mNil)))) mNil)))))
    (sSeq (sSet 5 (mN (f1 tupleA) (mCons (mV 5) mNil)))
    (sSeq (sPar [7, 8] (mCons (mUse (mCallB 2 F__law_draw 1 (mCons (mC (.int 5)) mNil))) (mCons (mUse (mCallB 2 F__law_draw 1 (mCons (mC (.int 5)) mNil))) mNil)))
    (sSeq (sSet 9 (mN (fN 3 F__law_going) (mCons (mV 5) (mCons (mV 7) (mCons (mV 8) mNil)))))
    (sSeq (sIf (tNotM (mTru (mN (fN 2 (F__law_same 70)) (mCons (mN (fN 3 F_going_on) (mCons (mV 5) (mCons (mV 7) (mCons (mV 8) mNil)))) (mCons (mV 9) mNil))))) (sRet (mC (.bl false))) sNop)
    (sSeq (sSet 11 (mN (f1 sumA) (mCons (mComp [10] (mIter (mV 5)) (.nm 10) tYesM (mN (f2 min2A) (mCons (mV 7) (mCons (mN (f1 lenA) (mCons (mV 10) mNil)) mNil)))) mNil)))
    (sSeq (sIf (tCmpM neA (mN (f1 lenA) (mCons (mV 9) mNil)) (m2 addA (mV 11) (mN (f2 min2A) (mCons (mV 8) (mCons (m2 subA (mN (f1 sumA) (mCons (mComp [10] (mIter (mV 5)) (.nm 10) tYesM (mN (f1 lenA) (mCons (mV 10) mNil))) mNil)) (mV 11)) mNil))))) (sRet (mC (.bl false))) sNop)
    (sSeq (sSet 12 (mN (f1 tupleA) (mCons (mComp [10] (mIter (mV 5)) (.nm 10) tYesM (mN (f1 lenA) (mCons (mV 10) mNil))) mNil)))
    (sSeq (sFor (.nm 13) (mRange1 (mCons (mN (f1 lenA) (mCons (mV 5) mNil)) mNil)) (sFor (.nm 3) (mRange1 (mCons (mN (f1 lenA) (mCons (mIx (mV 5) (mV 13)) mNil)) mNil)) (sSeq (sSet 14 (mN (fN 5 F_is_through) (mCons (mV 12) (mCons (m2 addA (mV 3) (mC (.int 1))) (mCons (mV 7) (mCons (mV 8) (mCons (mV 13) mNil)))))))
    (sSeq (sIf (tNotM (mTru (mN (fN 2 (F__law_same 70)) (mCons (mV 14) (mCons (asV (tCmpM inA (mIx (mIx (mV 5) (mV 13)) (mV 3)) (mV 9))) mNil))))) (sRet (mC (.bl false))) sNop)
    (sSeq (sIf (tAndM (mTru (mV 14)) (tAndM (tCmpM gtA (mV 3) (mC (.int 0))) (tCmpM isnA (mN (fN 5 F_is_through) (mCons (mV 12) (mCons (mV 3) (mCons (mV 7) (mCons (mV 8) (mCons (mV 13) mNil)))))) (mC (.bl true))))) (sRet (mC (.bl false))) sNop)
    (sIf (tAndM (mTru (mV 14)) (tNotM (tAndM (mTru (mN (fN 5 F_is_through) (mCons (mV 12) (mCons (m2 addA (mV 3) (mC (.int 1))) (mCons (m2 addA (mV 7) (mC (.int 1))) (mCons (mV 8) (mCons (mV 13) mNil))))))) (mTru (mN (fN 5 F_is_through) (mCons (mV 12) (mCons (m2 addA (mV 3) (mC (.int 1))) (mCons (mV 7) (mCons (m2 addA (mV 8) (mC (.int 1))) (mCons (mV 13) mNil)))))))))) (sRet (mC (.bl false))) sNop))))))
    (sSeq (sSet 15 (mLst mNil))
    (sSeq (sFor (.nm 10) (mIter (mV 5)) (sSeq (sSet 16 (mN (f1 listA) (mCons (mV 10) mNil)))
    (sSeq (sIf (tCmpM gtA (mN (f1 lenA) (mCons (mV 16) mNil)) (mC (.int 1))) (sSeq (sPar [17, 18] (mCons (mUse (mCallB 2 F__law_draw 1 (mCons (mN (f1 lenA) (mCons (mV 16) mNil)) mNil))) (mCons (mUse (mCallB 2 F__law_draw 1 (mCons (mN (f1 lenA) (mCons (mV 16) mNil)) mNil))) mNil)))
    (sSwapIx 16 (mV 17) (mV 18) (mTup (mCons (mIx (mV 16) (mV 18)) (mCons (mIx (mV 16) (mV 17)) mNil))))) sNop)
    (sExpr (mAppend 15 (mN (f1 tupleA) (mCons (mV 16) mNil)))))))
    (sSeq (sSet 19 (mN (fN 3 F_going_on) (mCons (mN (f1 tupleA) (mCons (mV 15) mNil)) (mCons (mV 7) (mCons (mV 8) mNil)))))
    (sSeq (sSet 20 (mComp [13] (mRange1 (mCons (mN (f1 lenA) (mCons (mV 5) mNil)) mNil)) (.nm 13) tYesM (mComp [3] (mRange1 (mCons (mN (f1 lenA) (mCons (mIx (mV 5) (mV 13)) mNil)) mNil)) (.nm 3) (tCmpM inA (mIx (mIx (mV 5) (mV 13)) (mV 3)) (mV 9)) (mV 3))))
    (sIf (tCmpM neA (mComp [13] (mRange1 (mCons (mN (f1 lenA) (mCons (mV 15) mNil)) mNil)) (.nm 13) tYesM (mComp [3] (mRange1 (mCons (mN (f1 lenA) (mCons (mIx (mV 15) (mV 13)) mNil)) mNil)) (.nm 3) (tCmpM inA (mIx (mIx (mV 15) (mV 13)) (mV 3)) (mV 19)) (mV 3))) (mV 20)) (sRet (mC (.bl false))) sNop))))))))))))))))
    (sRet (mAndV (mN (fN 2 (F__law_same 70)) (mCons (mN (fN 3 F_going_on) (mCons (mTup (mCons (mTup (mCons (mC (.str "a")) (mCons (mC (.str "b")) (mCons (mC (.str "c")) mNil)))) (mCons (mTup (mCons (mC (.str "d")) (mCons (mC (.str "e")) mNil))) mNil))) (mCons (mC (.int 1)) (mCons (mC (.int 2)) mNil)))) (mCons (mTup (mCons (mC (.str "a")) (mCons (mC (.str "d")) (mCons (mC (.str "b")) (mCons (mC (.str "e")) mNil))))) mNil))) (asV (tCmpM isA (mN (fN 5 F_is_through) (mCons (mTup (mCons (mC (.int 3)) (mCons (mC (.int 2)) mNil))) (mCons (mC (.int 2)) (mCons (mC (.int 1)) (mCons (mC (.int 1)) (mCons (mC (.int 0)) mNil)))))) (mC (.bl true)))))))
def F_law : List MM.A → Option MM.A := runF 21 m_law
theorem ok_law (T : Tx K mg) (base : Heap) : FnOk P w K mg base CX0 72 T.a_law T.f_law ["script"] (spF K 1 F_law) := fn_ok T.F_law sc_law (fun cdv A outer s H hr E => by
    have hu : ∀ (n : Nat) (B : Around), B.units = (A.deeper (envOfC "law" (defScope st_law) s.heap.objs.size T.a_law cdv)).units + n → n ≤ 90 → B.units + 65 < cLine := fun n B e h => by have := hr.un; omega
    refine pmb_cons ?_ ?_
    · exact (pms_set (by decide) sc_law.nd rfl (Or.inr rfl) (pm_call (ok__law_box T base) (hr.mono (by decide)) (by rfl) T.g__law_box T.F__law_box.kp T.d__law_box (pma_cons (pm_v (pv 0)) pma_nil)))
    refine pmb_cons ?_ ?_
    · refine pms_for (by decide) PassesOwn.never rfl ?_ ?_ ?_
      · exact (pmi_range1 (by rfl) T.b_range (pma_cons pm_int pma_nil))
      · exact (pgm_name sc_law.nd rfl (by first | exact Or.inl rfl | exact Or.inr rfl))
      · refine pmb_cons ?_ ?_
        · exact (pms_parT (by decide) (by decide) (pma_cons (pm_use (pm_lcW rfl sc_law.nd (pmi_range1 (by rfl) T.b_range (pma_cons pm_int pma_nil)) (blkOk_by (own := [("k", 3)]) (N := N_law) (sc := (defScope st_law)) (scope := { kind := .function, names := [(".0", .local), ("k", .local), ("str", .globalImplicit)], isGenerator := false, isCoroutine := false }) (by decide +kernel)) rfl (by decide) (fun _ _ _ _ _ => (pgm_name sc_law.nd rfl (by first | exact Or.inl rfl | exact Or.inr rfl))) (fun _ _ _ _ _ => pmts_nil) (fun _ _ _ _ _ => (pm_add pm_str (pm_callT call_str_int pr_str (by rfl) T.b_str (by decide +kernel) (pma_cons (pm_v (pv 3)) pma_nil)))))) (pma_cons (pm_use (pm_lst pma_nil)) pma_nil)) (pg_tup rfl (pgs_cons (pg_name sc_law.nd rfl (Or.inr rfl)) (pgs_cons (pg_name sc_law.nd rfl (Or.inr rfl)) pgs_nil))))
        refine pmb_cons ?_ ?_
        · refine pms_for (by decide) PassesOwn.never rfl ?_ ?_ ?_
          · exact (pmi_range1 (by rfl) T.b_range (pma_cons (pm_callBr (ok__law_draw T base) (hr.mono (by decide)) (by rfl) T.g__law_draw T.F__law_draw.kp T.d__law_draw (pv 1) (pma_cons pm_int pma_nil)) pma_nil))
          · exact (pgm_name sc_law.nd rfl (by first | exact Or.inl rfl | exact Or.inr rfl))
          · refine pmb_one ?_
            exact (pms_expr (pm_append (pv 5) (pm_callT call_tuple_of pr_tuple (by rfl) T.b_tuple (by decide +kernel) (pma_cons (pm_lcW rfl sc_law.nd (pmi_range1 (by rfl) T.b_range (pma_cons (pm_callBr (ok__law_draw T base) (hr.mono (by decide)) (by rfl) T.g__law_draw T.F__law_draw.kp T.d__law_draw (pv 1) (pma_cons pm_int pma_nil)) pma_nil)) (blkOk_by (own := [("k", 3)]) (N := N_law) (sc := (defScope st_law)) (scope := { kind := .function, names := [(".0", .local), ("k", .local), ("_law_draw", .globalImplicit), ("len", .globalImplicit), ("box", .free), ("left", .free)], isGenerator := false, isCoroutine := false }) (by decide +kernel)) rfl (by decide) (fun _ _ _ _ _ => (pgm_name sc_law.nd rfl (by first | exact Or.inl rfl | exact Or.inr rfl))) (fun _ _ _ _ _ => pmts_nil) (fun _ _ _ _ _ => (pm_popAt (pv 4) (pm_callBr (ok__law_draw T base) (hr.mono (by decide)) (by rfl) T.g__law_draw T.F__law_draw.kp T.d__law_draw (pv 1) (pma_cons (pm_callB call_len pr_len (by rfl) T.b_len (by decide +kernel) (pma_cons (pm_v (pv 4)) pma_nil)) pma_nil))))) pma_nil))))
        refine pmb_cons ?_ ?_
        · exact (pms_set (by decide) sc_law.nd rfl (Or.inr rfl) (pm_callT call_tuple_of pr_tuple (by rfl) T.b_tuple (by decide +kernel) (pma_cons (pm_v (pv 5)) pma_nil)))
        refine pmb_cons ?_ ?_
        · exact (pms_parT (by decide) (by decide) (pma_cons (pm_use (pm_callBr (ok__law_draw T base) (hr.mono (by decide)) (by rfl) T.g__law_draw T.F__law_draw.kp T.d__law_draw (pv 1) (pma_cons pm_int pma_nil))) (pma_cons (pm_use (pm_callBr (ok__law_draw T base) (hr.mono (by decide)) (by rfl) T.g__law_draw T.F__law_draw.kp T.d__law_draw (pv 1) (pma_cons pm_int pma_nil))) pma_nil)) (pg_tup rfl (pgs_cons (pg_name sc_law.nd rfl (Or.inr rfl)) (pgs_cons (pg_name sc_law.nd rfl (Or.inl rfl)) pgs_nil))))
        refine pmb_cons ?_ ?_
        · exact (pms_set (by decide) sc_law.nd rfl (Or.inr rfl) (pm_call (ok__law_going T base) (hr.mono (by decide)) (by rfl) T.g__law_going T.F__law_going.kp T.d__law_going (pma_cons (pm_v (pv 5)) (pma_cons (pm_v (pv 7)) (pma_cons (pm_v (pv 8)) pma_nil)))))
        refine pmb_cons ?_ ?_
        · refine pms_if ?_ ?_ ?_
          · exact (pmt_not (pmt_tru (pm_call (ok__law_same T 70 base) (hr.mono (by decide)) (by rfl) T.g__law_same T.F__law_same.kp T.d__law_same (pma_cons (pm_call (ok_going_on T base) (hr.mono (by decide)) (by rfl) T.g_going_on T.F_going_on.kp T.d_going_on (pma_cons (pm_v (pv 5)) (pma_cons (pm_v (pv 7)) (pma_cons (pm_v (pv 8)) pma_nil)))) (pma_cons (pm_v (pv 9)) pma_nil))) (fun _ => rfl)))
          · refine pmb_one ?_
            exact (pms_ret pm_bl)
          · exact pmb_nil
        refine pmb_cons ?_ ?_
        · exact (pms_set (by decide) sc_law.nd rfl (Or.inl rfl) (pm_callB (cr_sum rfl) pr_sum (by rfl) T.b_sum (by decide +kernel) (pma_cons (pm_lcW rfl sc_law.nd (pmi_seq (pm_v (pv 5))) (blkOk_by (own := [("order", 10)]) (N := N_law) (sc := (defScope st_law)) (scope := { kind := .function, names := [(".0", .local), ("order", .local), ("min", .globalImplicit), ("len", .globalImplicit), ("quota", .free)], isGenerator := false, isCoroutine := false }) (by decide +kernel)) rfl (by decide) (fun _ _ _ _ _ => (pgm_name sc_law.nd rfl (by first | exact Or.inl rfl | exact Or.inr rfl))) (fun _ _ _ _ _ => pmts_nil) (fun _ _ _ _ _ => (pm_callB (call_min2 rfl) pr_min2 (by rfl) T.b_min (by decide +kernel) (pma_cons (pm_v (pv 7)) (pma_cons (pm_callB call_len pr_len (by rfl) T.b_len (by decide +kernel) (pma_cons (pm_v (pv 10)) pma_nil)) pma_nil))))) pma_nil)))
        refine pmb_cons ?_ ?_
        · refine pms_if ?_ ?_ ?_
          · exact (pmt_ne (hu 0 _ rfl (by decide)) (pm_callB call_len pr_len (by rfl) T.b_len (by decide +kernel) (pma_cons (pm_v (pv 9)) pma_nil)) (pm_add (pm_v (pv 11)) (pm_callB (call_min2 rfl) pr_min2 (by rfl) T.b_min (by decide +kernel) (pma_cons (pm_v (pv 8)) (pma_cons (pm_sub (pm_callB (cr_sum rfl) pr_sum (by rfl) T.b_sum (by decide +kernel) (pma_cons (pm_lcW rfl sc_law.nd (pmi_seq (pm_v (pv 5))) (blkOk_by (own := [("order", 10)]) (N := N_law) (sc := (defScope st_law)) (scope := { kind := .function, names := [(".0", .local), ("order", .local), ("len", .globalImplicit)], isGenerator := false, isCoroutine := false }) (by decide +kernel)) rfl (by decide) (fun _ _ _ _ _ => (pgm_name sc_law.nd rfl (by first | exact Or.inl rfl | exact Or.inr rfl))) (fun _ _ _ _ _ => pmts_nil) (fun _ _ _ _ _ => (pm_callB call_len pr_len (by rfl) T.b_len (by decide +kernel) (pma_cons (pm_v (pv 10)) pma_nil)))) pma_nil)) (pm_v (pv 11))) pma_nil)))))
          · refine pmb_one ?_
            exact (pms_ret pm_bl)
          · exact pmb_nil
        refine pmb_cons ?_ ?_
        · exact (pms_set (by decide) sc_law.nd rfl (Or.inl rfl) (pm_callT call_tuple_of pr_tuple (by rfl) T.b_tuple (by decide +kernel) (pma_cons (pm_lcW rfl sc_law.nd (pmi_seq (pm_v (pv 5))) (blkOk_by (own := [("order", 10)]) (N := N_law) (sc := (defScope st_law)) (scope := { kind := .function, names := [(".0", .local), ("order", .local), ("len", .globalImplicit)], isGenerator := false, isCoroutine := false }) (by decide +kernel)) rfl (by decide) (fun _ _ _ _ _ => (pgm_name sc_law.nd rfl (by first | exact Or.inl rfl | exact Or.inr rfl))) (fun _ _ _ _ _ => pmts_nil) (fun _ _ _ _ _ => (pm_callB call_len pr_len (by rfl) T.b_len (by decide +kernel) (pma_cons (pm_v (pv 10)) pma_nil)))) pma_nil)))
        refine pmb_cons ?_ ?_
        · refine pms_for (by decide) PassesOwn.never rfl ?_ ?_ ?_
          · exact (pmi_range1 (by rfl) T.b_range (pma_cons (pm_callB call_len pr_len (by rfl) T.b_len (by decide +kernel) (pma_cons (pm_v (pv 5)) pma_nil)) pma_nil))
          · exact (pgm_name sc_law.nd rfl (by first | exact Or.inl rfl | exact Or.inr rfl))
          · refine pmb_one ?_
            refine pms_for (by decide) PassesOwn.never rfl ?_ ?_ ?_
            · exact (pmi_range1 (by rfl) T.b_range (pma_cons (pm_callB call_len pr_len (by rfl) T.b_len (by decide +kernel) (pma_cons (pm_ix (pm_v (pv 5)) (pm_v (pv 13)) (fun _ _ => rfl)) pma_nil)) pma_nil))
            · exact (pgm_name sc_law.nd rfl (by first | exact Or.inl rfl | exact Or.inr rfl))
            · refine pmb_cons ?_ ?_
              · exact (pms_set (by decide) sc_law.nd rfl (Or.inl rfl) (pm_call (ok_is_through T base) (hr.mono (by decide)) (by rfl) T.g_is_through T.F_is_through.kp T.d_is_through (pma_cons (pm_v (pv 12)) (pma_cons (pm_add (pm_v (pv 3)) pm_int) (pma_cons (pm_v (pv 7)) (pma_cons (pm_v (pv 8)) (pma_cons (pm_v (pv 13)) pma_nil)))))))
              refine pmb_cons ?_ ?_
              · refine pms_if ?_ ?_ ?_
                · exact (pmt_not (pmt_tru (pm_call (ok__law_same T 70 base) (hr.mono (by decide)) (by rfl) T.g__law_same T.F__law_same.kp T.d__law_same (pma_cons (pm_v (pv 14)) (pma_cons (pm_in (hu 0 _ rfl (by decide)) (pm_ix (pm_ix (pm_v (pv 5)) (pm_v (pv 13)) (fun _ _ => rfl)) (pm_v (pv 3)) (fun _ _ => rfl)) (pm_v (pv 9)) (by with_unfolding_all rfl)) pma_nil))) (fun _ => rfl)))
                · refine pmb_one ?_
                  exact (pms_ret pm_bl)
                · exact pmb_nil
              refine pmb_cons ?_ ?_
              · refine pms_if ?_ ?_ ?_
                · exact (PMW.pt (pmw_and (pmt_tru (pm_v (pv 14)) (fun _ => rfl)) (pmw_and (pmt_gt (pm_v (pv 3)) pm_int) (pmw_and1 (pmt_isn (pm_call (ok_is_through T base) (hr.mono (by decide)) (by rfl) T.g_is_through T.F_is_through.kp T.d_is_through (pma_cons (pm_v (pv 12)) (pma_cons (pm_v (pv 3)) (pma_cons (pm_v (pv 7)) (pma_cons (pm_v (pv 8)) (pma_cons (pm_v (pv 13)) pma_nil)))))) pm_bl)))))
                · refine pmb_one ?_
                  exact (pms_ret pm_bl)
                · exact pmb_nil
              refine pmb_one ?_
              refine pms_if ?_ ?_ ?_
              · exact (PMW.pt (pmw_and (pmt_tru (pm_v (pv 14)) (fun _ => rfl)) (pmw_and1 (pmt_not (PMW.pt (pmw_and (pmt_tru (pm_call (ok_is_through T base) (hr.mono (by decide)) (by rfl) T.g_is_through T.F_is_through.kp T.d_is_through (pma_cons (pm_v (pv 12)) (pma_cons (pm_add (pm_v (pv 3)) pm_int) (pma_cons (pm_add (pm_v (pv 7)) pm_int) (pma_cons (pm_v (pv 8)) (pma_cons (pm_v (pv 13)) pma_nil)))))) (fun _ => rfl)) (pmw_and1 (pmt_tru (pm_call (ok_is_through T base) (hr.mono (by decide)) (by rfl) T.g_is_through T.F_is_through.kp T.d_is_through (pma_cons (pm_v (pv 12)) (pma_cons (pm_add (pm_v (pv 3)) pm_int) (pma_cons (pm_v (pv 7)) (pma_cons (pm_add (pm_v (pv 8)) pm_int) (pma_cons (pm_v (pv 13)) pma_nil)))))) (fun _ => rfl)))))))))
              · refine pmb_one ?_
                exact (pms_ret pm_bl)
              · exact pmb_nil
        refine pmb_cons ?_ ?_
        · exact (pms_set (by decide) sc_law.nd rfl (Or.inr rfl) (pm_lst pma_nil))
        refine pmb_cons ?_ ?_
        · refine pms_for (by decide) PassesOwn.never rfl ?_ ?_ ?_
          · exact (pmi_seq (pm_v (pv 5)))
          · exact (pgm_name sc_law.nd rfl (by first | exact Or.inl rfl | exact Or.inr rfl))
          · refine pmb_cons ?_ ?_
            · exact (pms_set (by decide) sc_law.nd rfl (Or.inl rfl) (pm_callT call_list_of pr_list (by rfl) T.b_list (by decide +kernel) (pma_cons (pm_v (pv 10)) pma_nil)))
            refine pmb_cons ?_ ?_
            · refine pms_if ?_ ?_ ?_
              · exact (pmt_gt (pm_callB call_len pr_len (by rfl) T.b_len (by decide +kernel) (pma_cons (pm_v (pv 16)) pma_nil)) pm_int)
              · refine pmb_cons ?_ ?_
                · exact (pms_par2 (by decide) rfl sc_law.nd rfl rfl (by decide) rfl rfl (pma_cons (pm_use (pm_callBr (ok__law_draw T base) (hr.mono (by decide)) (by rfl) T.g__law_draw T.F__law_draw.kp T.d__law_draw (pv 1) (pma_cons (pm_callB call_len pr_len (by rfl) T.b_len (by decide +kernel) (pma_cons (pm_v (pv 16)) pma_nil)) pma_nil))) (pma_cons (pm_use (pm_callBr (ok__law_draw T base) (hr.mono (by decide)) (by rfl) T.g__law_draw T.F__law_draw.kp T.d__law_draw (pv 1) (pma_cons (pm_callB call_len pr_len (by rfl) T.b_len (by decide +kernel) (pma_cons (pm_v (pv 16)) pma_nil)) pma_nil))) pma_nil)) (by rfl))
                refine pmb_one ?_
                exact (pms_swapIx (pv 16) (pv 16) (pm_v (pv 17)) (pm_v (pv 18)) (pm_tup (pma_cons (pm_ix (pm_v (pv 16)) (pm_v (pv 18)) (fun _ _ => rfl)) (pma_cons (pm_ix (pm_v (pv 16)) (pm_v (pv 17)) (fun _ _ => rfl)) pma_nil))))
              · exact pmb_nil
            refine pmb_one ?_
            exact (pms_expr (pm_append (pv 15) (pm_callT call_tuple_of pr_tuple (by rfl) T.b_tuple (by decide +kernel) (pma_cons (pm_v (pv 16)) pma_nil))))
        refine pmb_cons ?_ ?_
        · exact (pms_set (by decide) sc_law.nd rfl (Or.inr rfl) (pm_call (ok_going_on T base) (hr.mono (by decide)) (by rfl) T.g_going_on T.F_going_on.kp T.d_going_on (pma_cons (pm_callT call_tuple_of pr_tuple (by rfl) T.b_tuple (by decide +kernel) (pma_cons (pm_v (pv 15)) pma_nil)) (pma_cons (pm_v (pv 7)) (pma_cons (pm_v (pv 8)) pma_nil)))))
        refine pmb_cons ?_ ?_
        · exact (pms_setLcW (by decide) rfl sc_law.nd rfl rfl (sw_true rfl rfl rfl (by decide +kernel)) (pmi_range1 (by rfl) T.b_range (pma_cons (pm_callB call_len pr_len (by rfl) T.b_len (by decide +kernel) (pma_cons (pm_v (pv 5)) pma_nil)) pma_nil)) (blkOk_by (own := [("g", 13)]) (N := N_law) (sc := (defScope st_law)) (scope := { kind := .function, names := [(".0", .local), ("g", .cell), ("range", .globalImplicit), ("len", .globalImplicit), ("due", .free), ("results", .free)], isGenerator := false, isCoroutine := false }) (by decide +kernel)) rfl (by decide) (fun _ _ _ _ _ => (pgm_name sc_law.nd rfl (by first | exact Or.inl rfl | exact Or.inr rfl))) (fun _ _ _ _ _ => pmts_nil) (fun _ _ _ _ _ => (pm_lcW rfl sc_law.nd (pmi_range1 (by rfl) T.b_range (pma_cons (pm_callB call_len pr_len (by rfl) T.b_len (by decide +kernel) (pma_cons (pm_ix (pm_v (pv 5)) (pm_v (pv 13)) (fun _ _ => rfl)) pma_nil)) pma_nil)) (blkOk_by (own := [("k", 3)]) (N := N_law) (sc := (relS { kind := .function, names := [(".0", .local), ("g", .cell), ("range", .globalImplicit), ("len", .globalImplicit), ("due", .free), ("results", .free)], isGenerator := false, isCoroutine := false } (defScope st_law))) (scope := { kind := .function, names := [(".0", .local), ("k", .local), ("due", .free), ("g", .free), ("results", .free)], isGenerator := false, isCoroutine := false }) (by decide +kernel)) rfl (by decide) (fun _ _ _ _ _ => (pgm_name sc_law.nd rfl (by first | exact Or.inl rfl | exact Or.inr rfl))) (fun _ _ _ _ _ => (pmts_one (pmt_in (hu 0 _ rfl (by decide)) (pm_ix (pm_ix (pm_v (pv 5)) (pm_v (pv 13)) (fun _ _ => rfl)) (pm_v (pv 3)) (fun _ _ => rfl)) (pm_v (pv 9)) (by with_unfolding_all rfl)))) (fun _ _ _ _ _ => (pm_v (pv 3))))))
        refine pmb_one ?_
        refine pms_if ?_ ?_ ?_
        · exact (pmt_ne (hu 0 _ rfl (by decide)) (pm_lcW rfl sc_law.nd (pmi_range1 (by rfl) T.b_range (pma_cons (pm_callB call_len pr_len (by rfl) T.b_len (by decide +kernel) (pma_cons (pm_v (pv 15)) pma_nil)) pma_nil)) (blkOk_by (own := [("g", 13)]) (N := N_law) (sc := (defScope st_law)) (scope := { kind := .function, names := [(".0", .local), ("g", .cell), ("range", .globalImplicit), ("len", .globalImplicit), ("mixed", .free), ("other", .free)], isGenerator := false, isCoroutine := false }) (by decide +kernel)) rfl (by decide) (fun _ _ _ _ _ => (pgm_name sc_law.nd rfl (by first | exact Or.inl rfl | exact Or.inr rfl))) (fun _ _ _ _ _ => pmts_nil) (fun _ _ _ _ _ => (pm_lcW rfl sc_law.nd (pmi_range1 (by rfl) T.b_range (pma_cons (pm_callB call_len pr_len (by rfl) T.b_len (by decide +kernel) (pma_cons (pm_ix (pm_v (pv 15)) (pm_v (pv 13)) (fun _ _ => rfl)) pma_nil)) pma_nil)) (blkOk_by (own := [("k", 3)]) (N := N_law) (sc := (relS { kind := .function, names := [(".0", .local), ("g", .cell), ("range", .globalImplicit), ("len", .globalImplicit), ("mixed", .free), ("other", .free)], isGenerator := false, isCoroutine := false } (defScope st_law))) (scope := { kind := .function, names := [(".0", .local), ("k", .local), ("g", .free), ("mixed", .free), ("other", .free)], isGenerator := false, isCoroutine := false }) (by decide +kernel)) rfl (by decide) (fun _ _ _ _ _ => (pgm_name sc_law.nd rfl (by first | exact Or.inl rfl | exact Or.inr rfl))) (fun _ _ _ _ _ => (pmts_one (pmt_in (hu 0 _ rfl (by decide)) (pm_ix (pm_ix (pm_v (pv 15)) (pm_v (pv 13)) (fun _ _ => rfl)) (pm_v (pv 3)) (fun _ _ => rfl)) (pm_v (pv 19)) (by with_unfolding_all rfl)))) (fun _ _ _ _ _ => (pm_v (pv 3)))))) (pm_v (pv 20)))
        · refine pmb_one ?_
          exact (pms_ret pm_bl)
        · exact pmb_nil
    refine pmb_one ?_
    exact (pms_ret (pm_and (pm_call (ok__law_same T 70 base) (hr.mono (by decide)) (by rfl) T.g__law_same T.F__law_same.kp T.d__law_same (pma_cons (pm_call (ok_going_on T base) (hr.mono (by decide)) (by rfl) T.g_going_on T.F_going_on.kp T.d_going_on (pma_cons (pm_tup (pma_cons (pm_tup (pma_cons pm_str (pma_cons pm_str (pma_cons pm_str pma_nil)))) (pma_cons (pm_tup (pma_cons pm_str (pma_cons pm_str pma_nil))) pma_nil))) (pma_cons pm_int (pma_cons pm_int pma_nil)))) (pma_cons (pm_tup (pma_cons pm_str (pma_cons pm_str (pma_cons pm_str (pma_cons pm_str pma_nil))))) pma_nil))) (pm_one (pm_is (pm_call (ok_is_through T base) (hr.mono (by decide)) (by rfl) T.g_is_through T.F_is_through.kp T.d_is_through (pma_cons (pm_tup (pma_cons pm_int (pma_cons pm_int pma_nil))) (pma_cons pm_int (pma_cons pm_int (pma_cons pm_int (pma_cons pm_int pma_nil)))))) pm_bl)))))
end
end MM
namespace MM
open PySem PySem.Spec PyProof.Rows L2

/-! ### the rows of the boats -/
abbrev Tr := Nat × Nat × Str
def gmL : Nat → List (List Str) → List Tr
  | _, [] => []
  | g, o :: r => o.zipIdx.map (fun p => (p.2, g, p.1)) ++ gmL (g + 1) r
def ltT (a b : Tr) : Prop := a.1 < b.1 ∨ (a.1 = b.1 ∧ a.2.1 < b.2.1)
instance (a b : Tr) : Decidable (ltT a b) := inferInstanceAs (Decidable (_ ∨ _))
theorem ltT_trans {a b c : Tr} (h : ltT a b) (h' : ltT b c) : ltT a c := by unfold ltT at *; omega
theorem ltT_irrefl (a : Tr) : ¬ ltT a a := by unfold ltT; omega
theorem gm_mem : ∀ {rs : List (List Str)} {g0 : Nat} {t : Tr}, t ∈ gmL g0 rs ↔ ∃ i o, rs[i]? = some o ∧ t.2.1 = g0 + i ∧ o[t.1]? = some t.2.2
  | [], g0, t => by simp [gmL]
  | o :: r, g0, t => by
    obtain ⟨k, g, x⟩ := t
    unfold gmL
    rw [List.mem_append, gm_mem (rs := r), List.mem_map]
    constructor
    · rintro (⟨⟨y, j⟩, h, e⟩ | ⟨i, o', h1, h2, h3⟩)
      · cases e
        exact ⟨0, o, rfl, rfl, by simpa [List.mem_zipIdx_iff_getElem?] using h⟩
      · exact ⟨i + 1, o', by simpa using h1, by simp at h2 ⊢; omega, h3⟩
    · rintro ⟨i, o', h1, h2, h3⟩
      cases i with
      | zero =>
        simp at h1 h2 h3
        subst h1 h2
        exact .inl ⟨(x, k), by simpa [List.mem_zipIdx_iff_getElem?] using h3, rfl⟩
      | succ i =>
        exact .inr ⟨i, o', by simpa using h1, by simp at h2 ⊢; omega, h3⟩
theorem gm_pw : ∀ {rs : List (List Str)} {g0 : Nat}, (gmL g0 rs).Pairwise (fun a b => ltT a b ∨ ltT b a)
  | [], g0 => by simp [gmL]
  | o :: r, g0 => by
    unfold gmL
    rw [List.pairwise_append]
    refine ⟨?_, gm_pw, fun a ha b hb => ?_⟩
    · rw [List.pairwise_map, List.pairwise_iff_getElem]
      intro i j hi hj hij
      refine .inl (.inl ?_)
      simp
      exact hij
    · obtain ⟨p, _, rfl⟩ := List.mem_map.mp ha
      obtain ⟨i, o', _, h2, _⟩ := gm_mem.mp hb
      unfold ltT
      simp only
      omega
/-- two lists in strict order with the same items -/
theorem sorted_eq : ∀ {l m : List Tr}, l.Pairwise ltT → m.Pairwise ltT → (∀ t, t ∈ l ↔ t ∈ m) → l = m
  | [], [], _, _, _ => rfl
  | [], b :: m, _, _, h => by simpa using (h b).mpr List.mem_cons_self
  | a :: l, [], _, _, h => by simpa using (h a).mp List.mem_cons_self
  | a :: l, b :: m, hl, hm, h => by
    have h1 := List.pairwise_cons.mp hl
    have h2 := List.pairwise_cons.mp hm
    have e : a = b := by
      rcases List.mem_cons.mp ((h a).mp List.mem_cons_self) with e | e
      · exact e
      · rcases List.mem_cons.mp ((h b).mpr List.mem_cons_self) with e' | e'
        · exact e'.symm
        · exact (ltT_irrefl _ (ltT_trans (h2.1 a e) (h1.1 b e'))).elim
    subst e
    rw [sorted_eq h1.2 h2.2 fun t => ?_]
    constructor
    · intro ht
      rcases List.mem_cons.mp ((h t).mp (List.mem_cons_of_mem _ ht)) with e | e
      · subst e
        exact (ltT_irrefl _ (h1.1 t ht)).elim
      · exact e
    · intro ht
      rcases List.mem_cons.mp ((h t).mpr (List.mem_cons_of_mem _ ht)) with e | e
      · subst e
        exact (ltT_irrefl _ (h2.1 t ht)).elim
      · exact e
/-- place by place -/
def row1 (k : Nat) : Nat → List (List Str) → List Tr
  | _, [] => []
  | g, o :: r => match o[k]? with
    | some x => (k, g, x) :: row1 k (g + 1) r
    | none => row1 k (g + 1) r
def kmL (rs : List (List Str)) : List Tr := (List.range 7).flatMap fun k => row1 k 0 rs
theorem row1_mem {k : Nat} : ∀ {rs : List (List Str)} {g0 : Nat} {t : Tr}, t ∈ row1 k g0 rs ↔ t.1 = k ∧ ∃ i o, rs[i]? = some o ∧ t.2.1 = g0 + i ∧ o[k]? = some t.2.2
  | [], g0, t => by simp [row1]
  | o :: r, g0, t => by
    obtain ⟨k', g, x⟩ := t
    have ih := row1_mem (k := k) (rs := r) (g0 := g0 + 1) (t := (k', g, x))
    unfold row1
    constructor
    · intro h
      split at h
      · rename_i y ey
        rcases List.mem_cons.mp h with e | h
        · cases e
          exact ⟨rfl, 0, o, rfl, rfl, ey⟩
        · obtain ⟨h0, i, o', h1, h2, h3⟩ := ih.mp h
          exact ⟨h0, i + 1, o', by simpa using h1, by simp at h2 ⊢; omega, h3⟩
      · obtain ⟨h0, i, o', h1, h2, h3⟩ := ih.mp h
        exact ⟨h0, i + 1, o', by simpa using h1, by simp at h2 ⊢; omega, h3⟩
    · rintro ⟨h0, i, o', h1, h2, h3⟩
      simp at h0
      subst h0
      cases i with
      | zero =>
        simp at h1 h2
        subst h1 h2
        rw [h3]
        exact List.mem_cons_self
      | succ i =>
        have := ih.mpr ⟨rfl, i, o', by simpa using h1, by simp at h2 ⊢; omega, h3⟩
        split
        · exact List.mem_cons_of_mem _ this
        · exact this
theorem row1_pw {k : Nat} : ∀ {rs : List (List Str)} {g0 : Nat}, (row1 k g0 rs).Pairwise ltT
  | [], g0 => by simp [row1]
  | o :: r, g0 => by
    unfold row1
    split
    · refine List.pairwise_cons.mpr ⟨fun t ht => ?_, row1_pw⟩
      obtain ⟨h0, i, o', _, h2, _⟩ := row1_mem.mp ht
      refine .inr ⟨h0.symm, ?_⟩
      simp only
      omega
    · exact row1_pw
theorem km_pw {rs : List (List Str)} : (kmL rs).Pairwise ltT := by
  unfold kmL
  rw [List.pairwise_flatMap]
  refine ⟨fun k _ => row1_pw, ?_⟩
  rw [List.pairwise_iff_getElem]
  intro i j hi hj hij a ha b hb
  simp at ha hb
  exact .inl (by rw [(row1_mem.mp ha).1, (row1_mem.mp hb).1]; exact hij)
theorem km_mem {rs : List (List Str)} (h6 : ∀ o ∈ rs, o.length ≤ 6) {t : Tr} : t ∈ kmL rs ↔ ∃ i o, rs[i]? = some o ∧ t.2.1 = i ∧ o[t.1]? = some t.2.2 := by
  unfold kmL
  rw [List.mem_flatMap]
  constructor
  · rintro ⟨k, _, h⟩
    obtain ⟨rfl, i, o, h1, h2, h3⟩ := row1_mem.mp h
    exact ⟨i, o, h1, by omega, h3⟩
  · rintro ⟨i, o, h1, h2, h3⟩
    refine ⟨t.1, List.mem_range.mpr ?_, row1_mem.mpr ⟨rfl, i, o, h1, by omega, h3⟩⟩
    have := (List.getElem?_eq_some_iff.mp h3).1
    have := h6 o (List.mem_of_getElem? h1)
    omega
/-- the order of the sort on such rows -/
def encT (t : Tr) : D := .tup [.int (t.1 : Nat), .int (t.2.1 : Nat), .str t.2.2]

theorem pd_T {t : Tr} (h : PyData.strOk t.2.2 = true) : toPD (encT t) = some (.tuple [.int (t.1 : Nat), .int (t.2.1 : Nat), .str t.2.2]) := by
  unfold encT
  refine toPD_tup ?_
  simp [toPDs, toPD_int, toPD_str h]
theorem pdOf_T {t : Tr} (h : PyData.strOk t.2.2 = true) : pdOf (encT t) = .tuple [.int (t.1 : Nat), .int (t.2.1 : Nat), .str t.2.2] := by
  unfold pdOf
  rw [pd_T h]
  rfl
theorem lt_T {a b : Tr} (ha : PyData.strOk a.2.2 = true) (hb : PyData.strOk b.2.2 = true) (h : ltT a b ∨ ltT b a) : PySem.W.dataLt (pdOf (encT a)) (pdOf (encT b)) = decide (ltT a b) := by
  rw [pdOf_T ha, pdOf_T hb, PySem.W.dataLt_tuple, PySem.W.dataLt_cons (by simp [PySem.W.alike]), PySem.W.dataLt_cons (by simp [PySem.W.alike]), PySem.W.dataLt_int, PySem.W.dataLt_int]
  simp only [PyData.eqv, beq_iff_eq]
  unfold ltT at h ⊢
  by_cases h1 : a.1 = b.1
  · have h1' : ((a.1 : Nat) : Int) = (b.1 : Nat) := by omega
    rw [if_pos h1']
    by_cases h2 : a.2.1 = b.2.1
    · omega
    · have h2' : ¬ ((a.2.1 : Nat) : Int) = (b.2.1 : Nat) := by omega
      rw [if_neg h2']
      congr 1
      apply propext
      omega
  · have h1' : ¬ ((a.1 : Nat) : Int) = (b.1 : Nat) := by omega
    rw [if_neg h1']
    congr 1
    apply propext
    omega
def Sk (rs : List (List Str)) : Prop := ∀ o ∈ rs, ∀ x ∈ o, PyData.strOk x = true
theorem gm_ok {rs : List (List Str)} (hs : Sk rs) : ∀ t ∈ gmL 0 rs, PyData.strOk t.2.2 = true := fun t ht => by
  obtain ⟨i, o, h1, _, h3⟩ := gm_mem.mp ht
  exact hs o (List.mem_of_getElem? h1) _ (List.mem_of_getElem? h3)
theorem sort_T {rs : List (List Str)} (hs : Sk rs) (h6 : ∀ o ∈ rs, o.length ≤ 6) : (gmL 0 rs).mergeSort (fun a b => PySem.W.dataLe false pdOf (encT a) (encT b)) = kmL rs := by
  have hp := List.mergeSort_perm (gmL 0 rs) (fun a b => PySem.W.dataLe false pdOf (encT a) (encT b))
  have ht : PySem.W.TotalLe (PySem.W.dataLe false fun t : Tr => pdOf (encT t)) := PySem.W.sortLe_total _ _ _
  have h1 := PySem.W.sort_pairwise ht (gmL 0 rs)
  have h2 : ((gmL 0 rs).mergeSort (PySem.W.dataLe false fun t : Tr => pdOf (encT t))).Pairwise (fun a b => ltT a b ∨ ltT b a) := (hp.pairwise_iff (fun h => h.symm)).mpr gm_pw
  have hm : ∀ t, t ∈ (gmL 0 rs).mergeSort (PySem.W.dataLe false fun t : Tr => pdOf (encT t)) ↔ t ∈ gmL 0 rs := fun t => hp.mem_iff
  refine sorted_eq (?_ : ((gmL 0 rs).mergeSort (PySem.W.dataLe false fun t : Tr => pdOf (encT t))).Pairwise ltT) km_pw fun t => (hm t).trans ?_
  · refine List.Pairwise.imp_of_mem (fun {a b} ha hb h => ?_) (List.Pairwise.and h1 h2)
    have h3 : (!PySem.W.dataLt (pdOf (encT b)) (pdOf (encT a))) = true := h.1
    rw [lt_T (gm_ok hs _ ((hm b).mp hb)) (gm_ok hs _ ((hm a).mp ha)) h.2.symm] at h3
    rcases h.2 with h | h
    · exact h
    · rw [decide_eq_true h] at h3
      cases h3
  · rw [km_mem h6, gm_mem]
    constructor
    · rintro ⟨i, o, h1, h2, h3⟩
      exact ⟨i, o, h1, by omega, h3⟩
    · rintro ⟨i, o, h1, h2, h3⟩
      exact ⟨i, o, h1, by omega, h3⟩
theorem km_perm {rs : List (List Str)} (hs : Sk rs) (h6 : ∀ o ∈ rs, o.length ≤ 6) : (kmL rs).Perm (gmL 0 rs) := by
  rw [← sort_T hs h6]
  exact List.mergeSort_perm _ _
theorem sortOk_T {rs : List (List Str)} (hs : Sk rs) : sortOk ((gmL 0 rs).map encT) = true := by
  unfold sortOk
  simp only [Bool.and_eq_true, Bool.or_eq_true, List.all_eq_true, decide_eq_true_eq]
  refine ⟨⟨fun x hx => ?_, fun x hx y hy => ?_⟩, .inl fun x hx => ?_⟩
  · obtain ⟨t, ht, rfl⟩ := List.mem_map.mp hx
    rw [pd_T (gm_ok hs t ht), pdOf_T (gm_ok hs t ht)]
    exact ⟨rfl, by simp [PyData.depth, PyData.depthAll]⟩
  · obtain ⟨t, ht, rfl⟩ := List.mem_map.mp hx
    obtain ⟨u, hu, rfl⟩ := List.mem_map.mp hy
    rw [pdOf_T (gm_ok hs t ht), pdOf_T (gm_ok hs u hu)]
    simp [PySem.W.alike, PySem.W.alikeAll]
  · obtain ⟨t, ht, rfl⟩ := List.mem_map.mp hx
    rw [pdOf_T (gm_ok hs t ht)]
    rfl
theorem sortL_T {rs : List (List Str)} (hs : Sk rs) (h6 : ∀ o ∈ rs, o.length ≤ 6) : sortL ((gmL 0 rs).map encT) = (kmL rs).map encT := by
  unfold sortL
  rw [← PySem.W.sort_maps (r := fun a b => PySem.W.dataLe false pdOf (encT a) (encT b)) (s := PySem.W.dataLe false pdOf) encT (fun a _ b _ => rfl), sort_T hs h6]

/-! ### who is taken -/
def taken (rs : List (List Str)) (q f : Nat) : List Tr := (kmL rs).filter (fun t => decide (t.1 < q)) ++ ((kmL rs).filter (fun t => decide (q ≤ t.1))).take f
def nameT (t : Tr) : Str := t.2.2
def dueL (rs : List (List Str)) (q f : Nat) : List Str := (taken rs q f).map nameT
/-- how many rows (k', g') of one group of n boats with q ≤ k' < m -/
theorem zip_count (p : Nat → Bool) : ∀ (o : List Str) (k0 : Nat), (o.zipIdx k0).countP (fun x => p x.2) = (List.range' k0 o.length).countP p
  | [], k0 => rfl
  | x :: o, k0 => by
    rw [List.zipIdx_cons, List.length_cons, List.range'_succ, List.countP_cons, List.countP_cons, zip_count p o (k0 + 1)]
theorem range_count (q m : Nat) : ∀ (n k0 : Nat), (List.range' k0 n).countP (fun k => decide (q ≤ k ∧ k < m)) = min (k0 + n) m - max k0 q
  | 0, k0 => by
    simp
    omega
  | n + 1, k0 => by
    rw [List.range'_succ, List.countP_cons, range_count q m n (k0 + 1)]
    by_cases h : q ≤ k0 ∧ k0 < m
    · rw [if_pos (decide_eq_true h)]
      omega
    · rw [if_neg (by simpa using h)]
      omega
theorem grp_count (o : List Str) (g : Nat) (P : Tr → Bool) (q m : Nat) (h : ∀ k x, P (k, g, x) = decide (q ≤ k ∧ k < m)) : (o.zipIdx.map (fun p => ((p.2, g, p.1) : Tr))).countP P = min o.length m - q := by
  rw [List.countP_map]
  have e : (P ∘ fun p : Str × Nat => ((p.2, g, p.1) : Tr)) = fun p => (fun k => decide (q ≤ k ∧ k < m)) p.2 := by
    funext p
    exact h p.2 p.1
  rw [e, zip_count (fun k => decide (q ≤ k ∧ k < m)), range_count]
  omega
/-- rows ahead of (k, g), from place q on -/
theorem gm_count (q k g : Nat) (hq : q ≤ k) : ∀ (rs : List (List Str)) (g0 : Nat), (gmL g0 rs).countP (fun t => decide (q ≤ t.1 ∧ (t.1 < k ∨ (t.1 = k ∧ t.2.1 < g)))) =
    (rs.map fun o => min o.length k - q).sum + ((rs.take (g - g0)).filter fun o => decide (k < o.length)).length
  | [], g0 => by simp [gmL]
  | o :: r, g0 => by
    unfold gmL
    rw [List.countP_append, gm_count q k g hq r (g0 + 1), List.map_cons, List.sum_cons]
    by_cases hg : g0 < g
    · rw [grp_count o g0 _ q (k + 1) (fun k' x => by
        congr 1
        apply propext
        simp only
        omega), show g - g0 = (g - (g0 + 1)) + 1 by omega, List.take_succ_cons]
      by_cases hk : k < o.length
      · rw [List.filter_cons_of_pos (by simpa using hk), List.length_cons]
        omega
      · rw [List.filter_cons_of_neg (by simpa using hk)]
        omega
    · rw [grp_count o g0 _ q k (fun k' x => by
        congr 1
        apply propext
        simp only
        omega), show g - g0 = 0 by omega, show g - (g0 + 1) = 0 by omega]
      simp
theorem gm_len : ∀ (rs : List (List Str)) (g0 : Nat), (gmL g0 rs).length = (rs.map List.length).sum
  | [], g0 => rfl
  | o :: r, g0 => by
    unfold gmL
    rw [List.length_append, gm_len r (g0 + 1), List.length_map, List.length_zipIdx, List.map_cons, List.sum_cons]
theorem gm_cq (q : Nat) : ∀ (rs : List (List Str)) (g0 : Nat), (gmL g0 rs).countP (fun t => decide (t.1 < q)) = (rs.map fun o => min q o.length).sum
  | [], g0 => rfl
  | o :: r, g0 => by
    unfold gmL
    rw [List.countP_append, gm_cq q r (g0 + 1), List.map_cons, List.sum_cons, grp_count o g0 _ 0 q (fun k' x => by
      congr 1
      apply propext
      simp only
      omega)]
    omega
/-- the place of a row in a list in order -/
theorem take_iff {t : Tr} : ∀ {l : List Tr} {f : Nat}, l.Pairwise ltT → t ∈ l → (t ∈ l.take f ↔ l.countP (fun u => decide (ltT u t)) < f)
  | [], f, _, h => by cases h
  | a :: l, 0, _, _ => by simp
  | a :: l, f + 1, hl, h => by
    have h1 := List.pairwise_cons.mp hl
    rw [List.take_succ_cons, List.countP_cons]
    by_cases e : t = a
    · subst e
      have z : l.countP (fun u => decide (ltT u t)) = 0 := by
        rw [List.countP_eq_zero]
        intro u hu
        simp only [decide_eq_true_eq]
        exact fun z => ltT_irrefl _ (ltT_trans z (h1.1 u hu))
      rw [z, if_neg (by simpa using ltT_irrefl t)]
      simp
    · have ht : t ∈ l := (List.mem_cons.mp h).resolve_left e
      rw [if_pos (by simpa using h1.1 t ht), List.mem_cons, take_iff h1.2 ht]
      constructor
      · rintro (z | z)
        · exact (e z).elim
        · omega
      · intro z
        exact .inr (by omega)
/-- whether a place goes through, by the numbers of boats alone -/
def thruV (ss : List Nat) (p q f g : Nat) : Bool := decide (p ≤ q) || decide ((ss.map fun z => min z (p - 1) - q).sum + ((ss.take g).filter fun z => decide (p ≤ z)).length < f)
theorem taken_iff {rs : List (List Str)} (hs : Sk rs) (h6 : ∀ o ∈ rs, o.length ≤ 6) {q f k g : Nat} {x : Str} (h : (k, g, x) ∈ kmL rs) : (k, g, x) ∈ taken rs q f ↔ thruV (rs.map List.length) (k + 1) q f g = true := by
  unfold taken thruV
  rw [List.mem_append, List.mem_filter, Bool.or_eq_true, decide_eq_true_eq, decide_eq_true_eq]
  by_cases hk : k < q
  · exact ⟨fun _ => .inl hk, fun _ => .inl ⟨h, by simpa using hk⟩⟩
  · have hm : (k, g, x) ∈ (kmL rs).filter (fun t => decide (q ≤ t.1)) := List.mem_filter.mpr ⟨h, by simp; omega⟩
    have e := take_iff (f := f) (List.Pairwise.filter _ km_pw) hm
    have hc : ((kmL rs).filter (fun t => decide (q ≤ t.1))).countP (fun u => decide (ltT u (k, g, x))) = (gmL 0 rs).countP (fun t => decide (q ≤ t.1 ∧ (t.1 < k ∨ (t.1 = k ∧ t.2.1 < g)))) := by
      rw [List.countP_filter, (km_perm hs h6).countP_eq]
      congr 1
      funext t
      rw [Bool.eq_iff_iff]
      simp only [Bool.and_eq_true, decide_eq_true_eq]
      exact ⟨fun z => ⟨z.2, z.1⟩, fun z => ⟨z.2, z.1⟩⟩
    rw [hc, gm_count q k g (by omega) rs 0] at e
    have e2 : (rs.map List.length).map (fun z => min z (k + 1 - 1) - q) = rs.map fun o => min o.length k - q := by rw [List.map_map]; rfl
    have e3 : (((rs.map List.length).take g).filter fun z => decide (k + 1 ≤ z)).length = ((rs.take (g - 0)).filter fun o => decide (k < o.length)).length := by
      rw [← List.map_take, List.filter_map, List.length_map]
      rfl
    rw [e2, e3]
    constructor
    · rintro (z | z)
      · exact (hk (by simpa using z.2)).elim
      · exact .inr (decide_eq_true (e.mp z))
    · rintro (z | z)
      · exact (hk z).elim
      · exact .inr (e.mpr (of_decide_eq_true z))
theorem due_len {rs : List (List Str)} (hs : Sk rs) (h6 : ∀ o ∈ rs, o.length ≤ 6) {q f : Nat} : (dueL rs q f).length = (rs.map fun o => min q o.length).sum + min f ((rs.map List.length).sum - (rs.map fun o => min q o.length).sum) := by
  unfold dueL taken
  have e1 : ((kmL rs).filter (fun t => decide (t.1 < q))).length = (rs.map fun o => min q o.length).sum := by
    rw [← List.countP_eq_length_filter, (km_perm hs h6).countP_eq, gm_cq]
  have e2 : ((kmL rs).filter (fun t => decide (q ≤ t.1))).length + ((kmL rs).filter (fun t => decide (t.1 < q))).length = (rs.map List.length).sum := by
    rw [← gm_len rs 0, ← (km_perm hs h6).length_eq, ← List.countP_eq_length_filter, ← List.countP_eq_length_filter, Nat.add_comm, List.length_eq_countP_add_countP (fun t : Tr => decide (t.1 < q))]
    congr 1
    apply List.countP_congr
    intro t _
    simp
  rw [List.length_map, List.length_append, List.length_take, e1]
  omega
end MM
namespace MM
open PySem PySem.Spec PyProof.Rows L2

def encO (o : List Str) : D := .tup (o.map .str)
def encR (rs : List (List Str)) : D := .tup (rs.map encO)
theorem gm_flat : ∀ (rs : List (List Str)) (g0 : Nat), ((rs.zipIdx g0).flatMap fun a => a.1.zipIdx.map fun b => encT (b.2, a.2, b.1)) = (gmL g0 rs).map encT
  | [], g0 => rfl
  | o :: r, g0 => by
    unfold gmL
    rw [List.zipIdx_cons, List.flatMap_cons, gm_flat r (g0 + 1), List.map_append, List.map_map]
    rfl
theorem enumL_map {α : Type} {f : α → D} {xs : List α} : enumL (xs.map f) = xs.zipIdx.map fun p => A.d (.tup [.int (p.2 : Nat), f p.1]) := by
  unfold enumL
  rw [List.zipIdx_map, List.map_map]
  rfl
section
variable {rs : List (List Str)} {q f : Nat}
def S12 (rs : List (List Str)) (q f : Nat) (a3 a4 a5 : Slot) : List Slot := [some (false, .d (encR rs)), some (false, .d (.int q)), some (false, .d (.int f)), a3, a4, a5, none, none, none, none, none, none]
theorem going1 (hl : rs.length ≤ 100) (h6 : ∀ o ∈ rs, o.length ≤ 6) : (mComp2 [7, 8, 9, 10] [9, 10] (mEnum (mV 0)) (.tp [.nm 7, .nm 8]) tYesM (mEnum (mV 8)) (.tp [.nm 9, .nm 10]) tYesM (mTup (mCons (mV 9) (mCons (mV 7) (mCons (mV 10) mNil))))) (S12 rs q f none none none) =
    some (.val true (.ls ((gmL 0 rs).map encT)), S12 rs q f none none none) := by
  have e1 : mEnum (mV 0) (S12 rs q f none none none) = some (rs.zipIdx.map (fun p => A.d (.tup [.int (p.2 : Nat), encO p.1])), S12 rs q f none none none) := by
    refine run_enum (p := (false, .d (encR rs))) (s1 := S12 rs q f none none none) rfl rfl ?_
    show some (enumL (rs.map encO)) = _
    rw [enumL_map]
  have e2 := compL2_map (s := S12 rs q f none none none) (ws := [7, 8, 9, 10]) (ws1 := [9, 10]) (t := .tp [.nm 7, .nm 8]) (tt := tYesM) (wi1 := mEnum (mV 8)) (t1 := .tp [.nm 9, .nm 10]) (tt1 := tYesM) (te := mTup (mCons (mV 9) (mCons (mV 7) (mCons (mV 10) mNil))))
    (fun p : List Str × Nat => A.d (.tup [.int (p.2 : Nat), encO p.1])) (fun _ => true) (fun p => p.1.zipIdx) (fun _ b => A.d (.tup [.int (b.2 : Nat), .str b.1])) (fun _ _ => true) (fun a b => encT (b.2, a.2, b.1)) (xs := rs.zipIdx) (acc := [])
    (fun a ha => ⟨_, putI_pair (by simp [S12]) (by simp [S12]), rfl, (fun z => by cases z), fun _ => ⟨_, run_enum (p := (false, .d (encO a.1))) rfl rfl (by
        show some (enumL (a.1.map .str)) = _
        rw [enumL_map]), rfl, fun b hb => ⟨_, putI_pair (by simp [S12, wipeA]) (by simp [S12, wipeA]), rfl, rfl, fun _ => ⟨.val false (.d (encT (b.2, a.2, b.1))), by
          simp (implicitDefEqProofs := false) [S12, wipeA, seqO_mk, mkT, allD, encT], rfl⟩⟩⟩⟩) (by
      have h2 : (rs.zipIdx.map fun a => a.1.zipIdx.length).sum ≤ 6 * rs.length := by
        have gen : ∀ (rs : List (List Str)) (k : Nat), (∀ o ∈ rs, o.length ≤ 6) → ((rs.zipIdx k).map fun a => a.1.zipIdx.length).sum ≤ 6 * rs.length := by
          intro rs
          induction rs with
          | nil => intro k _; simp
          | cons o r ih =>
            intro k h
            rw [List.zipIdx_cons, List.map_cons, List.sum_cons, List.length_cons]
            have i1 := ih (k + 1) (fun o ho => h o (List.mem_cons_of_mem _ ho))
            have i2 := h o List.mem_cons_self
            simp only [List.length_zipIdx] at i1 ⊢
            omega
        exact gen rs 0 h6
      have h3 : ([] : List D).length = 0 := rfl
      omega)
  have e3 : (rs.zipIdx.filter fun _ => true).flatMap (fun a => (a.1.zipIdx.filter fun _ => true).map fun b => encT (b.2, a.2, b.1)) = (gmL 0 rs).map encT := by
    rw [← gm_flat rs 0, filter_yes]
    congr 1
    funext a
    rw [filter_yes]
  rw [e3, List.nil_append] at e2
  rw [run_comp2 e1 e2]
  rfl
theorem km_len (hs : Sk rs) (hl : rs.length ≤ 100) (h6 : ∀ o ∈ rs, o.length ≤ 6) : (kmL rs).length ≤ 600 := by
  rw [(km_perm hs h6).length_eq, gm_len]
  have gen : ∀ (rs : List (List Str)), (∀ o ∈ rs, o.length ≤ 6) → (rs.map List.length).sum ≤ 6 * rs.length := by
    intro rs
    induction rs with
    | nil => intro _; simp
    | cons o r ih =>
      intro h
      rw [List.map_cons, List.sum_cons, List.length_cons]
      have := ih (fun o ho => h o (List.mem_cons_of_mem _ ho))
      have := h o List.mem_cons_self
      omega
  have := gen rs h6
  omega
theorem going_ok (hs : Sk rs) (hl : rs.length ≤ 100) (h6 : ∀ o ∈ rs, o.length ≤ 6) : F_going_on [.d (encR rs), .d (.int q), .d (.int f)] = some (.d (.tup ((dueL rs q f).map .str))) := by
  unfold F_going_on runF m_going_on
  show endF (sSeq _ _ (S12 rs q f none none none)) = _
  have hkl := km_len hs hl h6
  -- rows
  have e1 : (mN (f1 sortA) (mCons (mComp2 [7, 8, 9, 10] [9, 10] (mEnum (mV 0)) (.tp [.nm 7, .nm 8]) tYesM (mEnum (mV 8)) (.tp [.nm 9, .nm 10]) tYesM (mTup (mCons (mV 9) (mCons (mV 7) (mCons (mV 10) mNil))))) mNil)) (S12 rs q f none none none) =
      some (.val true (.ls ((kmL rs).map encT)), S12 rs q f none none none) := by
    have e := going1 (q := q) (f := f) hl h6
    generalize mComp2 [7, 8, 9, 10] [9, 10] (mEnum (mV 0)) (.tp [.nm 7, .nm 8]) tYesM (mEnum (mV 8)) (.tp [.nm 9, .nm 10]) tYesM (mTup (mCons (mV 9) (mCons (mV 7) (mCons (mV 10) mNil)))) = mm at e ⊢
    have e2 : sortA (.ls ((gmL 0 rs).map encT)) = some (.ls ((kmL rs).map encT)) := by
      show (if sortOk _ then some (A.ls (sortL _)) else none) = _
      rw [if_pos (sortOk_T hs), sortL_T hs h6]
    simp (implicitDefEqProofs := false) [e, e2]
  -- a part of the rows
  have part : ∀ (g : A → A → Option Bool) (p : Tr → Bool) (a4 : Slot) (fl : Bool), (∀ t : Tr, g (.d (.int (t.1 : Nat))) (.d (.int q)) = some (p t)) →
      (mComp [6] (mIter (mV 3)) (.nm 6) (tCmpM g (mIx (mV 6) (mC (.int 0))) (mV 1)) (mV 6)) (S12 rs q f (some (fl, .ls ((kmL rs).map encT))) a4 none) = some (.val true (.ls (((kmL rs).filter p).map encT)), S12 rs q f (some (false, .ls ((kmL rs).map encT))) a4 none) := fun g p a4 fl hg => by
    have i1 : mIter (mV 3) (S12 rs q f (some (fl, .ls ((kmL rs).map encT))) a4 none) = some ((kmL rs).map (fun t => A.d (encT t)), S12 rs q f (some (false, .ls ((kmL rs).map encT))) a4 none) := by
      refine run_iter (p := (false, .ls ((kmL rs).map encT))) rfl rfl ?_
      show some (((kmL rs).map encT).map A.d) = _
      rw [List.map_map]
      rfl
    have := run_compM (ws := [6]) (t := .nm 6) (tt := tCmpM g (mIx (mV 6) (mC (.int 0))) (mV 1)) (te := mV 6) (fun t : Tr => A.d (encT t)) p encT i1 (fun t ht => ⟨_, putI_nm (by simp [S12, wipeA]), rfl, by
      have e0 := ixO_d (r1 := .peek 6) (s := S12 rs q f (some (false, .ls ((kmL rs).map encT))) a4 none |>.set 6 (some (false, .d (encT t)))) (ix_cons0 (x := .int (t.1 : Nat)) (xs := [.int (t.2.1 : Nat), .str t.2.2]))
      simp (implicitDefEqProofs := false) [S12, wipeA, encT, hg] at e0 ⊢
      simp (implicitDefEqProofs := false) [e0, hg], fun _ => ⟨_, rfl, rfl⟩⟩) (by omega)
    rw [this]
    rfl
  rw [run_sSeq]
  have s1 : sSet 3 (mN (f1 sortA) (mCons (mComp2 [7, 8, 9, 10] [9, 10] (mEnum (mV 0)) (.tp [.nm 7, .nm 8]) tYesM (mEnum (mV 8)) (.tp [.nm 9, .nm 10]) tYesM (mTup (mCons (mV 9) (mCons (mV 7) (mCons (mV 10) mNil))))) mNil)) (S12 rs q f none none none) = some (.nx, S12 rs q f (some (true, .ls ((kmL rs).map encT))) none none) := by
    rw [run_sSet, e1]
    rfl
  rw [s1, obind_some, seqF_nx, run_sSeq]
  have s2 : sSet 4 (mComp [6] (mIter (mV 3)) (.nm 6) (tCmpM ltA (mIx (mV 6) (mC (.int 0))) (mV 1)) (mV 6)) (S12 rs q f (some (true, .ls ((kmL rs).map encT))) none none) = some (.nx, S12 rs q f (some (false, .ls ((kmL rs).map encT))) (some (true, .ls (((kmL rs).filter fun t => decide (t.1 < q)).map encT))) none) := by
    rw [run_sSet, part ltA (fun t => decide (t.1 < q)) none true (fun t => by rw [ltA_int]; congr 2; apply propext; omega)]
    rfl
  rw [s2, obind_some, seqF_nx, run_sSeq]
  generalize hA : (some (true, A.ls (((kmL rs).filter fun t => decide (t.1 < q)).map encT)) : Slot) = a4
  have s3 : sSet 5 (mSl (mComp [6] (mIter (mV 3)) (.nm 6) (tCmpM geA (mIx (mV 6) (mC (.int 0))) (mV 1)) (mV 6)) partN (partS (mV 2))) (S12 rs q f (some (false, .ls ((kmL rs).map encT))) a4 none) = some (.nx, S12 rs q f (some (false, .ls ((kmL rs).map encT))) a4 (some (true, .ls ((((kmL rs).filter fun t => decide (q ≤ t.1)).take f).map encT)))) := by
    have e := part geA (fun t => decide (q ≤ t.1)) a4 false (fun t => by rw [geA_int]; congr 2; apply propext; omega)
    generalize mComp [6] (mIter (mV 3)) (.nm 6) (tCmpM geA (mIx (mV 6) (mC (.int 0))) (mV 1)) (mV 6) = mm at e ⊢
    have e2 : slA none (some (f : Int)) (.ls (((kmL rs).filter fun t => decide (q ≤ t.1)).map encT)) = some (.ls ((((kmL rs).filter fun t => decide (q ≤ t.1)).take f).map encT)) := by
      show some (A.ls (cutL _ none (some (f : Int)))) = _
      rw [cutL_to, List.map_take]
    have e3 : (mSl mm partN (partS (mV 2))) (S12 rs q f (some (false, .ls ((kmL rs).map encT))) a4 none) = some (.val true (.ls ((((kmL rs).filter fun t => decide (q ≤ t.1)).take f).map encT)), S12 rs q f (some (false, .ls ((kmL rs).map encT))) a4 none) := by
      rw [run_mSl, e, obind_some, run_bnd, run_partN, obind_some, run_bnd, run_partS, run_mV]
      show obind (obind (some (R.peek 2, _)) partR) _ = _
      rw [obind_some, partR_peek]
      show obind (some (some (f : Int), _)) _ = _
      rw [obind_some, run_app1, rv_val, Option.bind_some, e2]
      rfl
    rw [run_sSet, e3]
    rfl
  rw [s3, obind_some, seqF_nx]
  subst hA
  have e4 : (mComp [11, 10] (mIter (m2 addA (mV 4) (mV 5))) (.tp [.nm 11, .nm 11, .nm 10]) tYesM (mV 10)) (S12 rs q f (some (false, .ls ((kmL rs).map encT))) (some (true, .ls (((kmL rs).filter fun t => decide (t.1 < q)).map encT))) (some (true, .ls ((((kmL rs).filter fun t => decide (q ≤ t.1)).take f).map encT)))) =
      some (.val true (.ls ((dueL rs q f).map .str)), S12 rs q f (some (false, .ls ((kmL rs).map encT))) (some (true, .ls (((kmL rs).filter fun t => decide (t.1 < q)).map encT))) (some (true, .ls ((((kmL rs).filter fun t => decide (q ≤ t.1)).take f).map encT)))) := by
    have hz : (((kmL rs).filter fun t => decide (t.1 < q)).map encT).length + ((((kmL rs).filter fun t => decide (q ≤ t.1)).take f).map encT).length ≤ 16777216 := by
      have h1 := List.length_filter_le (fun t : Tr => decide (t.1 < q)) (kmL rs)
      have h2 := List.length_filter_le (fun t : Tr => decide (q ≤ t.1)) (kmL rs)
      simp only [List.length_map, List.length_take]
      omega
    have e5 : addA (.ls (((kmL rs).filter fun t => decide (t.1 < q)).map encT)) (.ls ((((kmL rs).filter fun t => decide (q ≤ t.1)).take f).map encT)) = some (.ls ((taken rs q f).map encT)) := by
      show (if szB _ then some (A.ls _) else none) = _
      rw [if_pos (szB_of hz), ← List.map_append]
      rfl
    have i1 : mIter (m2 addA (mV 4) (mV 5)) (S12 rs q f (some (false, .ls ((kmL rs).map encT))) (some (true, .ls (((kmL rs).filter fun t => decide (t.1 < q)).map encT))) (some (true, .ls ((((kmL rs).filter fun t => decide (q ≤ t.1)).take f).map encT)))) = some ((taken rs q f).map (fun t => A.d (encT t)), S12 rs q f (some (false, .ls ((kmL rs).map encT))) (some (true, .ls (((kmL rs).filter fun t => decide (t.1 < q)).map encT))) (some (true, .ls ((((kmL rs).filter fun t => decide (q ≤ t.1)).take f).map encT)))) := by
      refine run_iter (r := .val true (.ls ((taken rs q f).map encT))) (p := (true, .ls ((taken rs q f).map encT))) ?_ rfl ?_
      · rw [run_m2, run_mV]
        show obind (some (R.peek 4, _)) _ = _
        rw [obind_some, run_bnd, run_mV]
        show obind (some (R.peek 5, _)) _ = _
        rw [obind_some, run_app2]
        exact congrArg (fun x => ofin x (S12 rs q f (some (false, .ls ((kmL rs).map encT))) (some (true, .ls (((kmL rs).filter fun t => decide (t.1 < q)).map encT))) (some (true, .ls ((((kmL rs).filter fun t => decide (q ≤ t.1)).take f).map encT))))) e5
      · show some (((taken rs q f).map encT).map A.d) = _
        rw [List.map_map]
        rfl
    have ht : (taken rs q f).length ≤ 16777216 := by
      unfold taken
      simpa using hz
    have := run_compM (ws := [11, 10]) (t := .tp [.nm 11, .nm 11, .nm 10]) (tt := tYesM) (te := mV 10) (fun t : Tr => A.d (encT t)) (fun _ => true) (fun t => D.str (nameT t)) i1 (fun t _ => ⟨_, putI_trip (by simp [S12, wipeA]) (by simp [S12, wipeA]) (by simp [S12, wipeA]), rfl, rfl, fun _ => ⟨.peek 10, rfl, rfl⟩⟩) ht
    rw [this, filter_yes]
    unfold dueL
    rw [List.map_map]
    rfl
  rw [run_sRet, run_mN, run_mCons, e4]
  rfl
end
end MM
namespace MM
open PySem PySem.Spec PyProof.Rows L2

def stepT (q : Nat) (st : List Str × Nat) (t : Tr) : List Str × Nat := if t.1 < q then (st.1 ++ [nameT t], st.2) else if 0 < st.2 then (st.1 ++ [nameT t], st.2 - 1) else st
theorem step_lt {q : Nat} : ∀ {l : List Tr} {a : List Str} {f : Nat}, (∀ t ∈ l, t.1 < q) → l.foldl (stepT q) (a, f) = (a ++ l.map nameT, f)
  | [], a, f, _ => by simp
  | t :: l, a, f, h => by
    rw [List.foldl_cons]
    have e : stepT q (a, f) t = (a ++ [nameT t], f) := if_pos (h t List.mem_cons_self)
    rw [e, step_lt fun u hu => h u (List.mem_cons_of_mem _ hu)]
    simp
theorem step_ge {q : Nat} : ∀ {l : List Tr} {a : List Str} {f : Nat}, (∀ t ∈ l, q ≤ t.1) → l.foldl (stepT q) (a, f) = (a ++ (l.take f).map nameT, f - l.length)
  | [], a, f, _ => by simp
  | t :: l, a, f, h => by
    rw [List.foldl_cons]
    have h1 := h t List.mem_cons_self
    have h2 := fun u hu => h u (List.mem_cons_of_mem _ hu)
    cases f with
    | zero =>
      have e : stepT q (a, 0) t = (a, 0) := by
        unfold stepT
        rw [if_neg (by omega), if_neg (by simp)]
      rw [e, step_ge h2]
      simp
    | succ f =>
      have e : stepT q (a, f + 1) t = (a ++ [nameT t], f) := by
        unfold stepT
        rw [if_neg (by omega), if_pos (by simp)]
        rfl
      rw [e, step_ge h2]
      simp
theorem split_T {q : Nat} : ∀ {l : List Tr}, l.Pairwise ltT → l = l.filter (fun t => decide (t.1 < q)) ++ l.filter (fun t => decide (q ≤ t.1))
  | [], _ => rfl
  | t :: l, h => by
    have h1 := List.pairwise_cons.mp h
    by_cases ht : t.1 < q
    · rw [List.filter_cons_of_pos (by simpa using ht), List.filter_cons_of_neg (by simp; omega), List.cons_append, ← split_T h1.2]
    · have e : l.filter (fun t => decide (t.1 < q)) = [] := by
        rw [List.filter_eq_nil_iff]
        intro u hu
        have := h1.1 u hu
        unfold ltT at this
        simp
        omega
      rw [List.filter_cons_of_neg (by simpa using ht), List.filter_cons_of_pos (by simp; omega), e, List.nil_append]
      congr 1
      conv => lhs; rw [split_T (q := q) h1.2, e, List.nil_append]
theorem fold_km {rs : List (List Str)} {q f : Nat} : ((kmL rs).foldl (stepT q) ([], f)).1 = dueL rs q f := by
  conv => lhs; rw [split_T (q := q) (km_pw (rs := rs))]
  rw [List.foldl_append, step_lt (l := (kmL rs).filter fun t => decide (t.1 < q)) (fun t ht => by simpa using (List.mem_filter.mp ht).2), step_ge (l := (kmL rs).filter fun t => decide (q ≤ t.1)) (fun t ht => by simpa using (List.mem_filter.mp ht).2)]
  unfold dueL taken
  simp
theorem row1_snoc {k : Nat} {o : List Str} : ∀ {l : List (List Str)} {g0 : Nat}, row1 k g0 (l ++ [o]) = row1 k g0 l ++ (match o[k]? with
    | some x => [(k, g0 + l.length, x)]
    | none => [])
  | [], g0 => by
    simp only [List.nil_append, row1, List.length_nil, Nat.add_zero] <;> (cases o[k]? <;> rfl)
  | p :: l, g0 => by
    rw [List.cons_append]
    unfold row1
    rw [row1_snoc]
    cases p[k]? with
    | none => simp only [List.length_cons]; rw [show g0 + 1 + l.length = g0 + (l.length + 1) by omega]
    | some y => simp only [List.length_cons, List.cons_append]; rw [show g0 + 1 + l.length = g0 + (l.length + 1) by omega]
def S7 (rs : List (List Str)) (q f : Nat) (st : List Str × Nat) (a5 a6 : Slot) : List Slot := [some (false, .d (encR rs)), some (false, .d (.int q)), some (false, .d (.int f)), some (true, .ls (st.1.map .str)), some (false, .d (.int st.2)), a5, a6]
def goingBody : SM Fl := (sIf (tCmpM leA (mV 5) (mN (f1 lenA) (mCons (mV 6) mNil))) (sIf (tCmpM leA (mV 5) (mV 1)) (sExpr (mAppend 3 (mIx (mV 6) (m2 subA (mV 5) (mC (.int 1)))))) (sIf (tCmpM gtA (mV 4) (mC (.int 0))) (sSeq (sExpr (mAppend 3 (mIx (mV 6) (m2 subA (mV 5) (mC (.int 1))))))
    (sSet 4 (m2 subA (mV 4) (mC (.int 1))))) sNop)) sNop)
theorem ix_str {o : List Str} {k : Nat} {x : Str} (h : o[k]? = some x) : ixA (.d (encO o)) (.d (.int (k : Int))) = some (.d (.str x)) := by
  have hk : k < (o.map D.str).length := by
    rw [List.length_map]
    exact (List.getElem?_eq_some_iff.mp h).1
  unfold encO
  rw [ix_tup hk]
  simp [h]
theorem body_run {rs : List (List Str)} {q f k : Nat} {st : List Str × Nat} {o : List Str} (hz : st.1.length ≤ 100000) :
    goingBody (S7 rs q f st (some (false, .d (.int (1 + (k : Nat))))) (some (false, .d (encO o)))) = some (.nx, S7 rs q f ((match o[k]? with
      | some x => [((k, 0, x) : Tr)]
      | none => []).foldl (stepT q) st) (some (false, .d (.int (1 + (k : Nat))))) (some (false, .d (encO o)))) := by
  obtain ⟨found, more⟩ := st
  have hlen : lenA (.d (encO o)) = some (.i o.length) := by
    show some (A.i _) = _
    rw [List.length_map]
  by_cases hk : k < o.length
  · have hx : o[k]? = some o[k] := List.getElem?_eq_getElem hk
    rw [hx]
    simp only [List.foldl_cons, List.foldl_nil]
    have c1 : ∀ s : List Slot, s[5]? = some (some (false, .d (.int (1 + (k : Nat))))) → s[6]? = some (some (false, .d (encO o))) → (tCmpM leA (mV 5) (mN (f1 lenA) (mCons (mV 6) mNil))) s = some (true, s) := fun s h5 h6 => by
      have : decide ((1 : Int) + (k : Nat) ≤ o.length) = true := decide_eq_true (by omega)
      simp (implicitDefEqProofs := false) only [run_tCmpM, run_mV, h5, h6, peekO_some, obind_some, run_bnd, run_mN, run_mCons, run_mNil, run_ret, run_appN, rvs_cons, rvs_nil, rv_peek, rvO_some, ocons_some, Option.bind_some, f1_one, hlen, ofin_some, fin_d, run_cmp2, rv_val, bind2_some, leA_int, this, okB_some]
    have ix : ∀ s : List Slot, s[5]? = some (some (false, .d (.int (1 + (k : Nat))))) → s[6]? = some (some (false, .d (encO o))) → (mIx (mV 6) (m2 subA (mV 5) (mC (.int 1)))) s = some (.val false (.d (.str o[k])), s) := fun s h5 h6 => by
      have e : (1 : Int) + (k : Nat) - 1 = (k : Nat) := by omega
      simp (implicitDefEqProofs := false) only [run_mIx, run_mV, h5, h6, peekO_some, obind_some, run_bnd, run_m2, run_mC, run_app2, rv_peek, rvO_some, rv_val, bind2_some, subA_int, ofin_some, fin_d, e, ixO_d (ix_str hx)]
    have app : (mAppend 3 (mIx (mV 6) (m2 subA (mV 5) (mC (.int 1))))) (S7 rs q f (found, more) (some (false, .d (.int (1 + (k : Nat))))) (some (false, .d (encO o)))) = some (.val false (.d .non), S7 rs q f (found ++ [o[k]], more) (some (false, .d (.int (1 + (k : Nat))))) (some (false, .d (encO o)))) := by
      have := run_append (j := 3) (s := S7 rs q f (found, more) (some (false, .d (.int (1 + (k : Nat))))) (some (false, .d (encO o)))) (a := .d (.str o[k])) (l := .ls (found.map .str)) (l' := .ls ((found ++ [o[k]]).map .str)) rfl (ix _ rfl rfl) rfl rfl (by
        show (if szB _ then some (A.ls _) else none) = _
        rw [if_pos (szB_of (by simp; exact Nat.le_trans hz (by omega)))]
        simp)
      rw [this]
      rfl
    unfold goingBody
    rw [run_sIf, c1 _ rfl rfl, obind_some, iteM_t]
    by_cases hq : k < q
    · have c2 : (tCmpM leA (mV 5) (mV 1)) (S7 rs q f (found, more) (some (false, .d (.int (1 + (k : Nat))))) (some (false, .d (encO o)))) = some (true, S7 rs q f (found, more) (some (false, .d (.int (1 + (k : Nat))))) (some (false, .d (encO o)))) := by
        have : decide ((1 : Int) + (k : Nat) ≤ (q : Nat)) = true := decide_eq_true (by omega)
        simp (implicitDefEqProofs := false) [S7, this]
      rw [run_sIf, c2, obind_some, iteM_t, run_sExpr, app]
      have e : stepT q (found, more) (k, 0, o[k]) = (found ++ [o[k]], more) := if_pos hq
      rw [e]
      rfl
    · have c2 : (tCmpM leA (mV 5) (mV 1)) (S7 rs q f (found, more) (some (false, .d (.int (1 + (k : Nat))))) (some (false, .d (encO o)))) = some (false, S7 rs q f (found, more) (some (false, .d (.int (1 + (k : Nat))))) (some (false, .d (encO o)))) := by
        simp (implicitDefEqProofs := false) [S7]
        omega
      rw [run_sIf, c2, obind_some, iteM_f]
      by_cases hm : 0 < more
      · have c3 : (tCmpM gtA (mV 4) (mC (.int 0))) (S7 rs q f (found, more) (some (false, .d (.int (1 + (k : Nat))))) (some (false, .d (encO o)))) = some (true, S7 rs q f (found, more) (some (false, .d (.int (1 + (k : Nat))))) (some (false, .d (encO o)))) := by
          simp (implicitDefEqProofs := false) [S7]
          omega
        rw [run_sIf, c3, obind_some, iteM_t, run_sSeq, run_sExpr, app]
        have e : stepT q (found, more) (k, 0, o[k]) = (found ++ [o[k]], more - 1) := by
          unfold stepT
          rw [if_neg hq, if_pos hm]
          rfl
        rw [e]
        have e2 : ((more : Nat) : Int) - 1 = ((more - 1 : Nat) : Int) := by omega
        have e3 : (sSet 4 (m2 subA (mV 4) (mC (.int 1)))) (S7 rs q f (found ++ [o[k]], more) (some (false, .d (.int (1 + (k : Nat))))) (some (false, .d (encO o)))) = some (.nx, S7 rs q f (found ++ [o[k]], more - 1) (some (false, .d (.int (1 + (k : Nat))))) (some (false, .d (encO o)))) := by
          simp (implicitDefEqProofs := false) [S7, e2]
        rw [obind_some, run_ret, obind_some, seqF_nx, e3]
      · have c3 : (tCmpM gtA (mV 4) (mC (.int 0))) (S7 rs q f (found, more) (some (false, .d (.int (1 + (k : Nat))))) (some (false, .d (encO o)))) = some (false, S7 rs q f (found, more) (some (false, .d (.int (1 + (k : Nat))))) (some (false, .d (encO o)))) := by
          simp (implicitDefEqProofs := false) [S7]
          omega
        rw [run_sIf, c3, obind_some, iteM_f]
        have e : stepT q (found, more) (k, 0, o[k]) = (found, more) := by
          unfold stepT
          rw [if_neg hq, if_neg hm]
        rw [e]
        rfl
  · have hx : o[k]? = none := List.getElem?_eq_none (by omega)
    rw [hx]
    simp only [List.foldl_nil]
    have c1 : (tCmpM leA (mV 5) (mN (f1 lenA) (mCons (mV 6) mNil))) (S7 rs q f (found, more) (some (false, .d (.int (1 + (k : Nat))))) (some (false, .d (encO o)))) = some (false, S7 rs q f (found, more) (some (false, .d (.int (1 + (k : Nat))))) (some (false, .d (encO o)))) := by
      simp (implicitDefEqProofs := false) [S7, hlen]
      omega
    unfold goingBody
    rw [run_sIf, c1, obind_some, iteM_f]
    rfl
theorem body_run' {rs : List (List Str)} {q f k i : Nat} {st : List Str × Nat} {o : List Str} (hz : st.1.length ≤ 100000) :
    goingBody (S7 rs q f st (some (false, .d (.int (1 + (k : Nat))))) (some (false, .d (encO o)))) = some (.nx, S7 rs q f ((match o[k]? with
      | some x => [((k, i, x) : Tr)]
      | none => []).foldl (stepT q) st) (some (false, .d (.int (1 + (k : Nat))))) (some (false, .d (encO o)))) := by
  rw [body_run hz]
  cases o[k]? <;> rfl
theorem step_len {q : Nat} : ∀ {l : List Tr} {st : List Str × Nat}, (l.foldl (stepT q) st).1.length ≤ st.1.length + l.length
  | [], st => by simp
  | t :: l, st => by
    rw [List.foldl_cons, List.length_cons]
    have h := step_len (q := q) (l := l) (st := stepT q st t)
    have h2 : (stepT q st t).1.length ≤ st.1.length + 1 := by
      unfold stepT
      split
      · simp
      · split <;> simp
    omega
theorem row1_len {k : Nat} : ∀ {rs : List (List Str)} {g0 : Nat}, (row1 k g0 rs).length ≤ rs.length
  | [], _ => by simp [row1]
  | o :: r, g0 => by
    unfold row1
    have := row1_len (k := k) (rs := r) (g0 := g0 + 1)
    split <;> simp <;> omega
def placesL (rs : List (List Str)) (n : Nat) : List Tr := (List.range n).flatMap fun k => row1 k 0 rs
theorem places_succ {rs : List (List Str)} {n : Nat} : placesL rs (n + 1) = placesL rs n ++ row1 n 0 rs := by
  unfold placesL
  rw [List.range_succ, List.flatMap_append]
  simp
theorem places_len {rs : List (List Str)} : ∀ {n : Nat}, (placesL rs n).length ≤ n * rs.length
  | 0 => by simp [placesL]
  | n + 1 => by
    rw [places_succ, List.length_append, Nat.succ_mul]
    have := places_len (rs := rs) (n := n)
    have := row1_len (k := n) (rs := rs) (g0 := 0)
    omega
theorem inner_run {rs : List (List Str)} {q f k : Nat} (hl : rs.length ≤ 100) (hk : k < 7) {a6 : Slot} : ∃ a6', (sFor (.nm 6) (mIter (mV 0)) goingBody) (S7 rs q f ((placesL rs k).foldl (stepT q) ([], f)) (some (false, .d (.int (1 + (k : Nat))))) a6) =
    some (.nx, S7 rs q f ((placesL rs (k + 1)).foldl (stepT q) ([], f)) (some (false, .d (.int (1 + (k : Nat))))) a6') := by
  have i1 : mIter (mV 0) (S7 rs q f ((placesL rs k).foldl (stepT q) ([], f)) (some (false, .d (.int (1 + (k : Nat))))) a6) = some (rs.map (fun o => A.d (encO o)), S7 rs q f ((placesL rs k).foldl (stepT q) ([], f)) (some (false, .d (.int (1 + (k : Nat))))) a6) := by
    refine run_iter (p := (false, .d (encR rs))) rfl rfl ?_
    show some ((rs.map encO).map A.d) = _
    rw [List.map_map]
    rfl
  rw [run_sFor, i1, obind_some]
  obtain ⟨s', e, a6', es⟩ := forL_ok (t := .nm 6) (b := goingBody) (its := rs.map (fun o => A.d (encO o))) (s := S7 rs q f ((placesL rs k).foldl (stepT q) ([], f)) (some (false, .d (.int (1 + (k : Nat))))) a6)
    (fun i s => ∃ a6, s = S7 rs q f ((placesL rs k ++ row1 k 0 (rs.take i)).foldl (stepT q) ([], f)) (some (false, .d (.int (1 + (k : Nat))))) a6) ⟨a6, by rw [List.take_zero]; simp [row1]⟩ (fun i a s ea ⟨b6, es⟩ => by
      rw [List.getElem?_map] at ea
      cases eo : rs[i]? with
      | none => rw [eo] at ea; cases ea
      | some o =>
        rw [eo] at ea
        cases ea
        subst es
        have hi : i < rs.length := (List.getElem?_eq_some_iff.mp eo).1
        refine ⟨_, _, putI_nm (by simp [S7]), body_run' (i := 0 + (rs.take i).length) ?_, some (false, .d (encO o)), ?_⟩
        · have h1 := step_len (q := q) (l := placesL rs k ++ row1 k 0 (rs.take i)) (st := ([], f))
          have h2 := places_len (rs := rs) (n := k)
          have h3 := row1_len (k := k) (rs := rs.take i) (g0 := 0)
          have h4 : (rs.take i).length ≤ rs.length := by rw [List.length_take]; omega
          have h5 : k * rs.length ≤ 7 * 100 := Nat.mul_le_mul (by omega) hl
          rw [List.length_append] at h1
          simp only [List.length_nil] at h1
          omega
        · rw [show rs.take (i + 1) = rs.take i ++ [o] by rw [List.take_add_one, eo]; rfl, row1_snoc, ← List.append_assoc, List.foldl_append (l' := match o[k]? with
            | some x => [((k, 0 + (rs.take i).length, x) : Tr)]
            | none => [])])
  refine ⟨a6', ?_⟩
  rw [e, es, places_succ]
  simp
theorem lawgoing_ok {rs : List (List Str)} {q f : Nat} (hl : rs.length ≤ 100) : F__law_going [.d (encR rs), .d (.int q), .d (.int f)] = some (.d (.tup ((dueL rs q f).map .str))) := by
  unfold F__law_going runF m__law_going
  show endF (sSeq _ (sSeq (sFor _ _ (sFor (.nm 6) (mIter (mV 0)) goingBody)) _) [some (false, .d (encR rs)), some (false, .d (.int q)), some (false, .d (.int f)), none, none, none, none]) = _
  have e1 : (sPar [3, 4] (mCons (mUse (mLst mNil)) (mCons (mUse (mV 2)) mNil))) [some (false, .d (encR rs)), some (false, .d (.int q)), some (false, .d (.int f)), none, none, none, none] = some (.nx, S7 rs q f ([], f) none none) := by
    refine run_sPar (rs := [.val true (.ls []), .val false (.d (.int f))]) (s1 := [some (false, .d (encR rs)), some (false, .d (.int q)), some (false, .d (.int f)), none, none, none, none]) ?_ rfl (setAll_two (by simp) (by simp))
    simp (implicitDefEqProofs := false) [seqO_mk, mkL, allD]
  rw [run_sSeq, e1, obind_some, seqF_nx, run_sSeq, run_sFor]
  have i1 : (mRange2 (mCons (mC (.int 1)) (mCons (mC (.int 8)) mNil))) (S7 rs q f ([], f) none none) = some (rangeL 1 7, S7 rs q f ([], f) none none) := run_range2 run_mC run_mC rfl rfl (by decide) (by decide)
  rw [i1, obind_some]
  obtain ⟨s', e, a5', a6', es⟩ := forL_ok (t := .nm 5) (b := sFor (.nm 6) (mIter (mV 0)) goingBody) (its := rangeL 1 7) (s := S7 rs q f ([], f) none none)
    (fun k s => ∃ a5 a6, s = S7 rs q f ((placesL rs k).foldl (stepT q) ([], f)) a5 a6) ⟨none, none, rfl⟩ (fun k a s ea ⟨b5, b6, es⟩ => by
      have hk : k < 7 := by
        have := (List.getElem?_eq_some_iff.mp ea).1
        rwa [rangeL_len] at this
      rw [rangeL_get hk] at ea
      cases ea
      subst es
      obtain ⟨c6, e⟩ := inner_run (q := q) (f := f) (a6 := b6) hl hk
      exact ⟨_, _, putI_nm (by simp [S7]), e, _, _, rfl⟩)
  rw [e, obind_some, seqF_nx, es, rangeL_len]
  have ek : ((placesL rs 7).foldl (stepT q) ([], f)).1 = dueL rs q f := fold_km
  have e2 : (mN (f1 tupleA) (mCons (mV 3) mNil)) (S7 rs q f ((placesL rs 7).foldl (stepT q) ([], f)) a5' a6') = some (.val false (.d (.tup ((dueL rs q f).map .str))), S7 rs q f ((placesL rs 7).foldl (stepT q) ([], f)) a5' a6') := by
    rw [← ek]
    rfl
  rw [run_sRet, e2]
  rfl
end MM
namespace MM
open PySem PySem.Spec PyProof.Rows L2

def encN (ss : List Nat) : D := .tup (ss.map fun n => .int (n : Nat))
def S7n (ss : List Nat) (p q f g : Nat) (a5 : Slot) : List Slot := [some (false, .d (encN ss)), some (false, .d (.int p)), some (false, .d (.int q)), some (false, .d (.int f)), some (false, .d (.int g)), a5, none]
theorem sum_cast : ∀ (ns : List Nat), (ns.map fun n => ((n : Nat) : Int)).sum = ((ns.sum : Nat) : Int)
  | [] => rfl
  | n :: r => by
    rw [List.map_cons, List.sum_cons, List.sum_cons, sum_cast r]
    omega
theorem Ai_congr {x y : Int} (h : x = y) : some (A.i x) = some (A.d (.int y)) := by rw [h]
theorem through_ok {ss : List Nat} {p q f g : Nat} (hl : ss.length ≤ 100) (hp : 1 ≤ p) : F_is_through [.d (encN ss), .d (.int p), .d (.int q), .d (.int f), .d (.int g)] = some (.d (.bl (thruV ss p q f g))) := by
  unfold F_is_through runF m_is_through
  show endF (sSeq _ _ (S7n ss p q f g none)) = _
  rw [run_sSeq]
  unfold thruV
  by_cases hq : p ≤ q
  · have c1 : (tCmpM leA (mV 1) (mV 2)) (S7n ss p q f g none) = some (true, S7n ss p q f g none) := by
      simp (implicitDefEqProofs := false) [S7n]
      omega
    rw [run_sIf, c1, obind_some, iteM_t, decide_eq_true hq, Bool.true_or]
    rfl
  · have c1 : (tCmpM leA (mV 1) (mV 2)) (S7n ss p q f g none) = some (false, S7n ss p q f g none) := by
      simp (implicitDefEqProofs := false) [S7n]
      omega
    have c2 : sIf (tCmpM leA (mV 1) (mV 2)) (sRet (mC (.bl true))) sNop (S7n ss p q f g none) = some (.nx, S7n ss p q f g none) := by
      rw [run_sIf, c1, obind_some, iteM_f]
      rfl
    rw [c2, obind_some, seqF_nx, decide_eq_false hq, Bool.false_or]
    have i1 : mIter (mV 0) (S7n ss p q f g none) = some (ss.map (fun n => A.d (.int (n : Nat))), S7n ss p q f g none) := by
      refine run_iter (p := (false, .d (encN ss))) rfl rfl ?_
      show some ((ss.map _).map A.d) = _
      rw [List.map_map]
      rfl
    have e1 := run_compM (ws := [6]) (t := .nm 6) (tt := tYesM) (te := mN (f2 max2A) (mCons (mC (.int 0)) (mCons (m2 subA (mN (f2 min2A) (mCons (mV 6) (mCons (m2 subA (mV 1) (mC (.int 1))) mNil))) (mV 2)) mNil))) (fun n : Nat => A.d (.int (n : Nat))) (fun _ => true) (fun n => D.int ((min n (p - 1) - q : Nat) : Int)) i1 (fun n _ => ⟨_, putI_nm (by simp [S7n, wipeA]), rfl, rfl, fun _ => ⟨.val false (.d (.int ((min n (p - 1) - q : Nat) : Int))), by
        have e2 : min2A (.d (.int (n : Nat))) (.d (.int ((p : Int) - 1))) = some (.d (.int ((min n (p - 1) : Nat) : Int))) := by
          show some (A.i (if ((p : Int) - 1) < (n : Int) then (p : Int) - 1 else (n : Int))) = _
          split
          · exact Ai_congr (by omega)
          · exact Ai_congr (by omega)
        have e3 : max2A (.d (.int 0)) (.d (.int (((min n (p - 1) : Nat) : Int) - (q : Int)))) = some (.d (.int ((min n (p - 1) - q : Nat) : Int))) := by
          show some (A.i (if (((min n (p - 1) : Nat) : Int) - (q : Int)) > 0 then ((min n (p - 1) : Nat) : Int) - (q : Int) else 0)) = _
          split
          · exact Ai_congr (by omega)
          · exact Ai_congr (by omega)
        simp (implicitDefEqProofs := false) [S7n, wipeA, e2, e3], rfl⟩⟩) (by omega)
    have e2 : sSet 5 (mN (f1 sumA) (mCons (mComp [6] (mIter (mV 0)) (.nm 6) tYesM (mN (f2 max2A) (mCons (mC (.int 0)) (mCons (m2 subA (mN (f2 min2A) (mCons (mV 6) (mCons (m2 subA (mV 1) (mC (.int 1))) mNil))) (mV 2)) mNil)))) mNil)) (S7n ss p q f g none) =
        some (.nx, S7n ss p q f g (some (false, .d (.int (((ss.map fun z => min z (p - 1) - q).sum : Nat) : Int))))) := by
      have e3 : sumA (.ls (ss.map fun n => D.int ((min n (p - 1) - q : Nat) : Int))) = some (.d (.int (((ss.map fun z => min z (p - 1) - q).sum : Nat) : Int))) := by
        show ((intsD (ss.map fun n => D.int ((min n (p - 1) - q : Nat) : Int))).map fun ns => A.i ns.sum) = _
        have h' : intsD (ss.map fun n => D.int ((min n (p - 1) - q : Nat) : Int)) = some ((ss.map fun z => min z (p - 1) - q).map fun n => ((n : Nat) : Int)) := by
          have e : (ss.map fun n => D.int ((min n (p - 1) - q : Nat) : Int)) = ((ss.map fun z => min z (p - 1) - q).map fun n => ((n : Nat) : Int)).map .int := by
            rw [List.map_map, List.map_map]
            rfl
          rw [e, intsD_map]
        rw [h', Option.map_some, sum_cast]
      rw [filter_yes] at e1
      rw [run_sSet, run_mN, run_mCons, e1, obind_some, run_bnd, run_mNil, obind_some, run_ret, obind_some, run_appN, rvs_cons, rvs_nil, rv_val, ocons_some, Option.bind_some, f1_one, e3]
      rfl
    rw [run_sSeq, e2, obind_some, seqF_nx]
    generalize hN : (((ss.map fun z => min z (p - 1) - q).sum : Nat) : Int) = N
    have i2 : mIter (mSl (mV 0) partN (partS (mV 4))) (S7n ss p q f g (some (false, .d (.int N)))) = some ((ss.take g).map (fun n => A.d (.int (n : Nat))), S7n ss p q f g (some (false, .d (.int N)))) := by
      have e3 : slA none (some (g : Int)) (.d (encN ss)) = some (.d (encN (ss.take g))) := by
        show some (A.t (cutL _ none (some (g : Int)))) = _
        rw [cutL_to]
        unfold encN
        rw [List.map_take]
      refine run_iter (r := .val false (.d (encN (ss.take g)))) (p := (false, .d (encN (ss.take g)))) ?_ rfl ?_
      · rw [run_mSl]
        show obind (some (R.peek 0, _)) _ = _
        rw [obind_some, run_bnd, run_partN, obind_some, run_bnd, run_partS]
        show obind (obind (some (R.peek 4, _)) partR) _ = _
        rw [obind_some, partR_peek]
        show obind (some (some (g : Int), _)) _ = _
        rw [obind_some, run_app1]
        exact congrArg (fun x => ofin x (S7n ss p q f g (some (false, .d (.int N))))) e3
      · show some (((ss.take g).map _).map A.d) = _
        rw [List.map_map]
        rfl
    have e3 := run_compM (ws := [6]) (t := .nm 6) (tt := tCmpM geA (mV 6) (mV 1)) (te := mV 6) (fun n : Nat => A.d (.int (n : Nat))) (fun n => decide (p ≤ n)) (fun n => D.int (n : Nat)) i2 (fun n _ => ⟨_, putI_nm (by simp [S7n, wipeA]), rfl, by
        have : decide (((p : Nat) : Int) ≤ (n : Nat)) = decide (p ≤ n) := by congr 1; apply propext; omega
        simp (implicitDefEqProofs := false) [S7n, wipeA], fun _ => ⟨_, rfl, rfl⟩⟩) (by simp; omega)
    generalize mComp [6] (mIter (mSl (mV 0) partN (partS (mV 4)))) (.nm 6) (tCmpM geA (mV 6) (mV 1)) (mV 6) = mm at e3 ⊢
    have e4 : mm (S7n ss p q f g (some (false, .d (.int N)))) = some (.val true (.ls (((ss.take g).filter fun n => decide (p ≤ n)).map fun n => D.int (n : Nat))), S7n ss p q f g (some (false, .d (.int N)))) := e3
    have e5 : lenA (.ls (((ss.take g).filter fun n => decide (p ≤ n)).map fun n => D.int (n : Nat))) = some (.i ((((ss.take g).filter fun z => decide (p ≤ z)).length : Nat) : Int)) := by
      rw [lenA_ls, List.length_map]
    generalize hM : ((((ss.take g).filter fun z => decide (p ≤ z)).length : Nat) : Int) = M at e5
    have e6 : (asV (tCmpM ltA (m2 addA (mV 5) (mN (f1 lenA) (mCons mm mNil))) (mV 3))) (S7n ss p q f g (some (false, .d (.int N)))) = some (.val false (.d (.bl (decide (N + M < (f : Int))))), S7n ss p q f g (some (false, .d (.int N)))) := by
      generalize hz : A.ls (((ss.take g).filter fun n => decide (p ≤ n)).map fun n => D.int (n : Nat)) = zz at e4 e5
      have g5 : (S7n ss p q f g (some (false, .d (.int N))))[5]? = some (some (false, .d (.int N))) := rfl
      have g3 : (S7n ss p q f g (some (false, .d (.int N))))[3]? = some (some (false, .d (.int f))) := rfl
      simp (implicitDefEqProofs := false) only [run_asV, run_tCmpM, run_m2, run_mV, g5, g3, peekO_some, obind_some, run_bnd, run_mN, run_mCons, e4, run_mNil, run_ret, run_appN, rvs_cons, rvs_nil, rv_val, ocons_some, Option.bind_some, f1_one, e5, ofin_some, fin_d, run_app2, rv_peek, rvO_some, bind2_some, addA_int, run_cmp2, ltA_int, okB_some]
    rw [run_sRet, e6]
    show some (A.d (.bl _)) = _
    congr 3
    rw [← hN, ← hM]
    apply decide_eq_decide.mpr
    omega
/-! the law's own three checks of one place -/
theorem thru_up {ss : List Nat} {p q f g : Nat} (h : thruV ss (p + 1) q f g = true) : thruV ss p q f g = true := by
  unfold thruV at h ⊢
  rw [Bool.or_eq_true, decide_eq_true_eq, decide_eq_true_eq] at h ⊢
  by_cases hq : p ≤ q
  · exact .inl hq
  · right
    have h2 := h.resolve_left (by omega)
    have key : ∀ (ss : List Nat) (g : Nat), (ss.map fun z => min z (p - 1) - q).sum + ((ss.take g).filter fun z => decide (p ≤ z)).length ≤ (ss.map fun z => min z (p + 1 - 1) - q).sum + ((ss.take g).filter fun z => decide (p + 1 ≤ z)).length := by
      intro ss
      induction ss with
      | nil => intro g; simp
      | cons z r ih =>
        intro g
        simp only [List.map_cons, List.sum_cons]
        cases g with
        | zero =>
          have := ih 0
          simp only [List.take_zero, List.filter_nil, List.length_nil] at this ⊢
          omega
        | succ g =>
          have := ih g
          rw [List.take_succ_cons, List.filter_cons, List.filter_cons]
          by_cases h1 : p ≤ z <;> by_cases h3 : p + 1 ≤ z <;> simp only [h1, h3, decide_true, decide_false, if_true, Bool.false_eq_true, if_false, List.length_cons] <;> omega
    have := key ss g
    omega
theorem thru_q {ss : List Nat} {p q f g : Nat} (h : thruV ss p q f g = true) : thruV ss p (q + 1) f g = true := by
  unfold thruV at h ⊢
  rw [Bool.or_eq_true, decide_eq_true_eq, decide_eq_true_eq] at h ⊢
  rcases h with h | h
  · exact .inl (by omega)
  · right
    have key : ∀ (ss : List Nat), (ss.map fun z => min z (p - 1) - (q + 1)).sum ≤ (ss.map fun z => min z (p - 1) - q).sum := by
      intro ss
      induction ss with
      | nil => simp
      | cons z r ih =>
        simp only [List.map_cons, List.sum_cons]
        omega
    have := key ss
    omega
theorem thru_f {ss : List Nat} {p q f g : Nat} (h : thruV ss p q f g = true) : thruV ss p q (f + 1) g = true := by
  unfold thruV at h ⊢
  rw [Bool.or_eq_true, decide_eq_true_eq, decide_eq_true_eq] at h ⊢
  rcases h with h | h
  · exact .inl h
  · exact .inr (by omega)
end MM
namespace MM
open PySem PySem.Spec PyProof.Rows L2

def nameK (k : Nat) : Str := ("b" : Str) ++ ((toString (k : Int) : String) : Str)
def names30 : List Str := (List.range 30).map nameK
theorem names_nodup : names30.Nodup := by decide +kernel
theorem names_ok : ∀ x ∈ names30, PyData.strOk x = true := by decide +kernel
theorem names_len : names30.length = 30 := by simp [names30]
def rs1 : Slot → Slot
  | some (false, a) => some (false, a)
  | _ => none
theorem name_add {k : Nat} (hk : k < 30) : strA (.d (.int (k : Int))) = some (.s ((toString (k : Int) : String) : Str)) ∧ addA (.d (.str "b")) (.s ((toString (k : Int) : String) : Str)) = some (.d (.str (nameK k))) := by
  constructor
  · show (if decide ((k : Int).natAbs.log2 < 1920) then some (A.s _) else none) = _
    rw [if_pos]
    apply decide_eq_true
    have h1 : (k : Int).natAbs = k := by omega
    rw [h1]
    have : k.log2 ≤ k := Nat.log2_le_self k
    omega
  · show (if szB _ then some (A.s _) else none) = _
    have h : ∀ k : Nat, k < 30 → szB (("b" : Str).length + ((toString (k : Int) : String) : Str).length) = true := by decide +kernel
    rw [if_pos (h k hk)]
    rfl
section
variable {x0 x2 x3 x4 x5 x6 x7 x8 : Slot} {tl : List Slot} {b : A}
def P1 (x0 x2 : Slot) (tl : List Slot) (b : A) (x3 x4 x5 x6 x7 x8 : Slot) : List Slot := x0 :: some (true, b) :: x2 :: x3 :: x4 :: x5 :: x6 :: x7 :: x8 :: tl
def mNames : SM R := (mComp [3] (mRange1 (mCons (mC (.int 30)) mNil)) (.nm 3) tYesM (m2 addA (mC (.str "b")) (mN (f1 strA) (mCons (mV 3) mNil))))
theorem restA_3 {s0 : List Slot} : restA [3] (P1 x0 x2 tl b x3 x4 x5 x6 x7 x8) (P1 x0 x2 tl b none x4 x5 x6 x7 x8) = P1 x0 x2 tl b (rs1 x3) x4 x5 x6 x7 x8 := by
  cases x3 with
  | none => rfl
  | some p =>
    obtain ⟨fl, a⟩ := p
    cases fl <;> rfl
theorem names_run : mNames (P1 x0 x2 tl b x3 x4 x5 x6 x7 x8) = some (.val true (.ls (names30.map .str)), P1 x0 x2 tl b (rs1 x3) x4 x5 x6 x7 x8) := by
  have i1 : mRange1 (mCons (mC (.int 30)) mNil) (P1 x0 x2 tl b x3 x4 x5 x6 x7 x8) = some ((List.range 30).map (fun k : Nat => A.d (.int ((0 : Int) + (k : Nat)))), P1 x0 x2 tl b x3 x4 x5 x6 x7 x8) := run_range1 run_mC rfl (by decide)
  have := run_compM (ws := [3]) (t := .nm 3) (tt := tYesM) (te := m2 addA (mC (.str "b")) (mN (f1 strA) (mCons (mV 3) mNil))) (fun k : Nat => A.d (.int ((0 : Int) + (k : Nat)))) (fun _ => true) (fun k => D.str (nameK k)) i1 (fun k hk => ⟨_, putI_nm (by simp [P1, wipeA]), rfl, rfl, fun _ => ⟨.val false (.d (.str (nameK k))), by
    obtain ⟨e1, e2⟩ := name_add (List.mem_range.mp hk)
    generalize ((toString (k : Int) : String) : Str) = z at e1 e2
    simp only [Int.zero_add]
    simp (implicitDefEqProofs := false) [P1, wipeA, e1]
    rw [e2]
    rfl, rfl⟩⟩) (by simp)
  unfold mNames
  rw [this, filter_yes]
  show some (_, restA [3] _ (P1 x0 x2 tl b none x4 x5 x6 x7 x8)) = _
  rw [restA_3 (s0 := [])]
  unfold names30
  rw [List.map_map]
  rfl
/-- left.pop(_law_draw(box, len(left))) -/
theorem erase_map {α β : Type} (f : α → β) : ∀ (l : List α) (k : Nat), (l.map f).eraseIdx k = (l.eraseIdx k).map f
  | [], _ => rfl
  | x :: l, 0 => rfl
  | x :: l, k + 1 => by
    rw [List.map_cons, List.eraseIdx_cons_succ, List.eraseIdx_cons_succ, List.map_cons, erase_map f l k]
def mTake : SM R := (mPopAt 4 (mCallB 2 F__law_draw 1 (mCons (mN (f1 lenA) (mCons (mV 4) mNil)) mNil)))
theorem take_run {lf : List Str} (B : BoxOk b) (h0 : 0 < lf.length) (h1 : lf.length ≤ 1000) : ∃ b' k x, mTake (P1 x0 x2 tl b x3 (some (true, .ls (lf.map .str))) x5 x6 x7 x8) = some (.val false (.d (.str x)), P1 x0 x2 tl b' x3 (some (true, .ls ((lf.eraseIdx k).map .str))) x5 x6 x7 x8) ∧ BoxOk b' ∧ lf[k]? = some x := by
  have e1 : (mN (f1 lenA) (mCons (mV 4) mNil)) (P1 x0 x2 tl b x3 (some (true, .ls (lf.map .str))) x5 x6 x7 x8) = some (.val false (.d (.int lf.length)), P1 x0 x2 tl b x3 (some (true, .ls (lf.map .str))) x5 x6 x7 x8) := by
    simp (implicitDefEqProofs := false) [P1]
  obtain ⟨k, b', e2, k0, k1, B'⟩ := run_draw (s := P1 x0 x2 tl b x3 (some (true, .ls (lf.map .str))) x5 x6 x7 x8) (j := 1) (b := b) rfl e1 rfl rfl B (by omega) (by omega)
  have hk : k.toNat < lf.length := by omega
  have ei : ixN (lf.map D.str).length k = some k.toNat := by
    unfold ixN
    rw [List.length_map, if_pos k0, if_pos k1]
  refine ⟨b', k.toNat, lf[k.toNat], ?_, B', List.getElem?_eq_getElem hk⟩
  have := run_popAt (j := 4) (s := P1 x0 x2 tl b x3 (some (true, .ls (lf.map .str))) x5 x6 x7 x8) (xs := lf.map .str) (x := .str lf[k.toNat]) rfl e2 rfl rfl ei (szB_of (by rw [List.length_map]; omega)) (by rw [List.getElem?_map, List.getElem?_eq_getElem hk]; rfl)
  unfold mTake
  rw [this]
  rw [erase_map]
  rfl
theorem erase_perm {x : Str} : ∀ {lf : List Str} {k : Nat}, lf[k]? = some x → (x :: lf.eraseIdx k).Perm lf
  | [], k, h => by simp at h
  | y :: l, 0, h => by
    simp at h
    subst h
    exact List.Perm.refl _
  | y :: l, k + 1, h => by
    rw [List.eraseIdx_cons_succ]
    exact (List.Perm.swap y x _).trans ((erase_perm (by simpa using h)).cons y)
def mRow : SM R := (mComp [3] (mRange1 (mCons (mCallB 2 F__law_draw 1 (mCons (mC (.int 7)) mNil)) mNil)) (.nm 3) tYesM mTake)
theorem row_run {lf pre : List Str} (B : BoxOk b) (hp : (pre ++ lf).Perm names30) (hl : pre.length ≤ 24) : ∃ b' acc lf', mRow (P1 x0 x2 tl b x3 (some (true, .ls (lf.map .str))) x5 x6 x7 x8) = some (.val true (.ls (acc.map .str)), P1 x0 x2 tl b' (rs1 x3) (some (true, .ls (lf'.map .str))) x5 x6 x7 x8) ∧ BoxOk b' ∧
    acc.length ≤ 6 ∧ (pre ++ acc ++ lf').Perm names30 := by
  obtain ⟨k, b1, e1, k0, k1, B1⟩ := run_draw (s := P1 x0 x2 tl b x3 (some (true, .ls (lf.map .str))) x5 x6 x7 x8) (j := 1) (b := b) (i := 7) rfl run_mC rfl rfl B (by omega) (by omega)
  have i1 := run_range1 e1 rfl (rgB_of (i := k) (by omega) (by omega))
  have e1' : (P1 x0 x2 tl b x3 (some (true, .ls (lf.map .str))) x5 x6 x7 x8).set 1 (some (true, b1)) = P1 x0 x2 tl b1 x3 (some (true, .ls (lf.map .str))) x5 x6 x7 x8 := rfl
  rw [e1'] at i1
  obtain ⟨l', s', e2, b', acc, lf', el, es, B', hl', hp'⟩ := compL_ok (ws := [3]) (t := .nm 3) (tt := tYesM) (te := mTake) (its := rangeL 0 k.toNat) (l := .ls []) (s := P1 x0 x2 tl b1 none (some (true, .ls (lf.map .str))) x5 x6 x7 x8)
    (fun i l s => ∃ (b' : A) (acc lf' : List Str), l = .ls (acc.map D.str) ∧ s = P1 x0 x2 tl b' none (some (true, .ls (lf'.map .str))) x5 x6 x7 x8 ∧ BoxOk b' ∧ acc.length = i ∧ (pre ++ acc ++ lf').Perm names30) ⟨b1, [], lf, rfl, rfl, B1, rfl, by simpa using hp⟩ (fun i a l s ea ⟨b', acc, lf', el, es, B', hl', hp'⟩ => by
      have hi : i < k.toNat := by
        have := (List.getElem?_eq_some_iff.mp ea).1
        rwa [rangeL_len] at this
      rw [rangeL_get hi] at ea
      cases ea
      subst el es
      have hlen := hp'.length_eq
      rw [names_len] at hlen
      simp only [List.length_append] at hlen
      obtain ⟨b2, k2, x, e3, B2, hx⟩ := take_run (x0 := x0) (x2 := x2) (x3 := some (false, .d (.int ((0 : Int) + (i : Nat))))) (x5 := x5) (x6 := x6) (x7 := x7) (x8 := x8) (tl := tl) (lf := lf') B' (by omega) (by omega)
      refine ⟨_, true, _, putI_nm (by simp [P1]), rfl, fun _ => ⟨_, _, .d (.str x), .ls ((acc ++ [x]).map .str), e3, rfl, ?_, b2, acc ++ [x], lf'.eraseIdx k2, rfl, rfl, B2, by simp [hl'], ?_⟩, fun z => by cases z⟩
      · show (if szB _ then some (A.ls _) else none) = _
        rw [if_pos (szB_of (by rw [List.length_map]; omega))]
        simp
      · have h3 : (pre ++ acc ++ (x :: lf'.eraseIdx k2)).Perm (pre ++ acc ++ lf') := (erase_perm hx).append_left _
        have h4 : pre ++ (acc ++ [x]) ++ lf'.eraseIdx k2 = pre ++ acc ++ (x :: lf'.eraseIdx k2) := by simp
        rw [h4]
        exact h3.trans hp')
  subst el es
  rw [rangeL_len] at hl'
  refine ⟨b', acc, lf', ?_, B', by omega, hp'⟩
  unfold mRow
  rw [run_comp i1 e2]
  show some (_, restA [3] (P1 x0 x2 tl b1 x3 _ x5 x6 x7 x8) (P1 x0 x2 tl b' none _ x5 x6 x7 x8)) = _
  congr 2
  cases x3 with
  | none => rfl
  | some p =>
    obtain ⟨fl, a⟩ := p
    cases fl <;> rfl
def mGroups : SM Fl := (sFor (.nm 6) (mRange1 (mCons (mCallB 2 F__law_draw 1 (mCons (mC (.int 6)) mNil)) mNil)) (sExpr (mAppend 5 (mN (f1 tupleA) (mCons mRow mNil)))))
theorem groups_run (B : BoxOk b) : ∃ (b' : A) (y3 : Slot) (lf : List Str) (rs : List (List Str)) (y6 : Slot), mGroups (P1 x0 x2 tl b x3 (some (true, .ls (names30.map .str))) (some (true, .ls [])) x6 x7 x8) = some (.nx, P1 x0 x2 tl b' y3 (some (true, .ls (lf.map .str))) (some (true, .ls (rs.map encO))) y6 x7 x8) ∧ BoxOk b' ∧
    rs.length ≤ 5 ∧ (∀ o ∈ rs, o.length ≤ 6) ∧ (rs.flatten ++ lf).Perm names30 := by
  obtain ⟨k, b1, e1, k0, k1, B1⟩ := run_draw (s := P1 x0 x2 tl b x3 (some (true, .ls (names30.map .str))) (some (true, .ls [])) x6 x7 x8) (j := 1) (b := b) (i := 6) rfl run_mC rfl rfl B (by omega) (by omega)
  have i1 := run_range1 e1 rfl (rgB_of (i := k) (by omega) (by omega))
  have e1' : (P1 x0 x2 tl b x3 (some (true, .ls (names30.map .str))) (some (true, .ls [])) x6 x7 x8).set 1 (some (true, b1)) = P1 x0 x2 tl b1 x3 (some (true, .ls (names30.map .str))) (some (true, .ls [])) x6 x7 x8 := rfl
  rw [e1'] at i1
  obtain ⟨s', e2, b', y3, lf, rs, y6, es, B', hl, h6, hp⟩ := forL_ok (t := .nm 6) (b := sExpr (mAppend 5 (mN (f1 tupleA) (mCons mRow mNil)))) (its := rangeL 0 k.toNat) (s := P1 x0 x2 tl b1 x3 (some (true, .ls (names30.map .str))) (some (true, .ls [])) x6 x7 x8)
    (fun i s => ∃ (b' : A) (y3 : Slot) (lf : List Str) (rs : List (List Str)) (y6 : Slot), s = P1 x0 x2 tl b' y3 (some (true, .ls (lf.map .str))) (some (true, .ls (rs.map encO))) y6 x7 x8 ∧ BoxOk b' ∧ rs.length = i ∧ (∀ o ∈ rs, o.length ≤ 6) ∧ (rs.flatten ++ lf).Perm names30)
    ⟨b1, x3, names30, [], x6, rfl, B1, rfl, by simp, by simp⟩ (fun i a s ea ⟨b', y3, lf, rs, y6, es, B', hl, h6, hp⟩ => by
      have hi : i < k.toNat := by
        have := (List.getElem?_eq_some_iff.mp ea).1
        rwa [rangeL_len] at this
      subst es
      have hfl : rs.flatten.length ≤ 24 := by
        have gen : ∀ (rs : List (List Str)), (∀ o ∈ rs, o.length ≤ 6) → rs.flatten.length ≤ 6 * rs.length := by
          intro rs
          induction rs with
          | nil => intro _; simp
          | cons o r ih =>
            intro h
            rw [List.flatten_cons, List.length_append, List.length_cons]
            have := ih fun o ho => h o (List.mem_cons_of_mem _ ho)
            have := h o List.mem_cons_self
            omega
        have := gen rs h6
        omega
      obtain ⟨b2, acc, lf2, e3, B2, ha, hp2⟩ := row_run (x0 := x0) (x2 := x2) (tl := tl) (x3 := y3) (x5 := some (true, .ls (rs.map encO))) (x6 := some (false, a)) (x7 := x7) (x8 := x8) B' hp hfl
      have e4 : (mN (f1 tupleA) (mCons mRow mNil)) (P1 x0 x2 tl b' y3 (some (true, .ls (lf.map .str))) (some (true, .ls (rs.map encO))) (some (false, a)) x7 x8) = some (.val false (.d (encO acc)), P1 x0 x2 tl b2 (rs1 y3) (some (true, .ls (lf2.map .str))) (some (true, .ls (rs.map encO))) (some (false, a)) x7 x8) := by
        rw [run_mN, run_mCons, e3]
        rfl
      have e5 := run_append (j := 5) (s := P1 x0 x2 tl b' y3 (some (true, .ls (lf.map .str))) (some (true, .ls (rs.map encO))) (some (false, a)) x7 x8) (a := .d (encO acc)) (l := .ls (rs.map encO)) (l' := .ls ((rs ++ [acc]).map encO)) rfl e4 rfl rfl (by
        show (if szB _ then some (A.ls _) else none) = _
        rw [if_pos (szB_of (by rw [List.length_map]; omega))]
        simp)
      refine ⟨_, _, putI_nm (by simp [P1]), (by
        show sExpr _ (P1 x0 x2 tl b' y3 (some (true, .ls (lf.map .str))) (some (true, .ls (rs.map encO))) (some (false, a)) x7 x8) = _
        rw [run_sExpr, e5]
        rfl), b2, rs1 y3, lf2, rs ++ [acc], some (false, a), rfl, B2, by simp [hl], fun o ho => ?_, ?_⟩
      · rcases List.mem_append.mp ho with ho | ho
        · exact h6 o ho
        · rw [List.mem_singleton.mp ho]
          exact ha
      · simpa using hp2)
  subst es
  rw [rangeL_len] at hl
  refine ⟨b', y3, lf, rs, y6, ?_, B', by omega, h6, hp⟩
  unfold mGroups
  rw [run_sFor, i1, obind_some, e2]
end
end MM
namespace MM
open PySem PySem.Spec PyProof.Rows L2

structure Env where
  (x0 x1 x2 x3 x4 x5 x6 x7 x8 x9 x10 x11 x12 x13 x14 x15 x16 x17 x18 x19 x20 : Slot)
def Env.s (e : Env) : List Slot := [e.x0, e.x1, e.x2, e.x3, e.x4, e.x5, e.x6, e.x7, e.x8, e.x9, e.x10, e.x11, e.x12, e.x13, e.x14, e.x15, e.x16, e.x17, e.x18, e.x19, e.x20]
theorem rest10 (e : Env) : restA [10] e.s { e with x10 := none }.s = { e with x10 := rs1 e.x10 }.s := by
  obtain ⟨a0, a1, a2, a3, a4, a5, a6, a7, a8, a9, a10, a11, a12, a13, a14, a15, a16, a17, a18, a19, a20⟩ := e
  cases a10 with
  | none => rfl
  | some p => obtain ⟨fl, a⟩ := p; cases fl <;> rfl
theorem rest3 (e : Env) : restA [3] e.s { e with x3 := none }.s = { e with x3 := rs1 e.x3 }.s := by
  obtain ⟨a0, a1, a2, a3, a4, a5, a6, a7, a8, a9, a10, a11, a12, a13, a14, a15, a16, a17, a18, a19, a20⟩ := e
  cases a3 with
  | none => rfl
  | some p => obtain ⟨fl, a⟩ := p; cases fl <;> rfl
theorem rest13 (e : Env) : restA [13] e.s { e with x13 := none }.s = { e with x13 := rs1 e.x13 }.s := by
  obtain ⟨a0, a1, a2, a3, a4, a5, a6, a7, a8, a9, a10, a11, a12, a13, a14, a15, a16, a17, a18, a19, a20⟩ := e
  cases a13 with
  | none => rfl
  | some p => obtain ⟨fl, a⟩ := p; cases fl <;> rfl
section
variable {α : Type} {enc : α → A} {p : α → Bool} {g : α → D} {xs : List α} {mi : SM (List A)} {tt : SM Bool} {te : SM R} {e : Env}
theorem comp10 (h : mi e.s = some (xs.map enc, e.s)) (ht : ∀ a ∈ xs, tt { e with x10 := some (false, enc a) }.s = some (p a, { e with x10 := some (false, enc a) }.s) ∧ (p a = true → ∃ r, te { e with x10 := some (false, enc a) }.s = some (r, { e with x10 := some (false, enc a) }.s) ∧ od r { e with x10 := some (false, enc a) }.s = some (.d (g a)))) (hz : xs.length ≤ 16777216) :
    mComp [10] mi (.nm 10) tt te e.s = some (.val true (.ls ((xs.filter p).map g)), { e with x10 := rs1 e.x10 }.s) := by
  rw [run_compM (ws := [10]) (t := .nm 10) enc p g h (fun a ha => ⟨{ e with x10 := some (false, enc a) }.s, putI_nm (s := { e with x10 := none }.s) (j := 10) (by simp [Env.s]), rfl, ht a ha⟩) hz]
  rw [← rest10]
  rfl
theorem comp3 (h : mi e.s = some (xs.map enc, e.s)) (ht : ∀ a ∈ xs, tt { e with x3 := some (false, enc a) }.s = some (p a, { e with x3 := some (false, enc a) }.s) ∧ (p a = true → ∃ r, te { e with x3 := some (false, enc a) }.s = some (r, { e with x3 := some (false, enc a) }.s) ∧ od r { e with x3 := some (false, enc a) }.s = some (.d (g a)))) (hz : xs.length ≤ 16777216) :
    mComp [3] mi (.nm 3) tt te e.s = some (.val true (.ls ((xs.filter p).map g)), { e with x3 := rs1 e.x3 }.s) := by
  rw [run_compM (ws := [3]) (t := .nm 3) enc p g h (fun a ha => ⟨{ e with x3 := some (false, enc a) }.s, putI_nm (s := { e with x3 := none }.s) (j := 3) (by simp [Env.s]), rfl, ht a ha⟩) hz]
  rw [← rest3]
  rfl
end
section
variable {s : List Slot} {i j k l m : Nat} {fi fj fk fl fm : Bool} {a b c d e : A}
theorem arg1 {F : List A → Option A} (h1 : s[i]? = some (some (fi, a))) : mN F (mCons (mV i) mNil) s = ofin (F [a]) s := by
  simp (implicitDefEqProofs := false) only [run_mN, run_mCons, run_mV, h1, peekO_some, obind_some, run_bnd, run_mNil, run_ret, run_appN, rvs_cons, rvs_nil, rv_peek, rvO_some, ocons_some, Option.bind_some]
theorem arg3 {F : List A → Option A} (h1 : s[i]? = some (some (fi, a))) (h2 : s[j]? = some (some (fj, b))) (h3 : s[k]? = some (some (fk, c))) : mN F (mCons (mV i) (mCons (mV j) (mCons (mV k) mNil))) s = ofin (F [a, b, c]) s := by
  simp (implicitDefEqProofs := false) only [run_mN, run_mCons, run_mV, h1, h2, h3, peekO_some, obind_some, run_bnd, run_mNil, run_ret, run_appN, rvs_cons, rvs_nil, rv_peek, rvO_some, ocons_some, Option.bind_some]
theorem set_d {z : D} {mm : SM R} {s1 : List Slot} (h : mm s = some (.val false (.d z), s1)) (hj : j < s1.length) : sSet j mm s = some (.nx, s1.set j (some (false, .d z))) := by
  rw [run_sSet, h, obind_some, run_bnd, use_val, obind_some, setO_run hj]
theorem set_own {z : A} {mm : SM R} {s1 : List Slot} (h : mm s = some (.val true z, s1)) (hj : j < s1.length) : sSet j mm s = some (.nx, s1.set j (some (true, z))) := by
  rw [run_sSet, h, obind_some, run_bnd, use_val, obind_some, setO_run hj]
theorem one1 {F : List A → Option A} {mm : SM R} {s1 : List Slot} {fl : Bool} {z : A} (h : mm s = some (.val fl z, s1)) : mN F (mCons mm mNil) s = ofin (F [z]) s1 := by
  rw [run_mN, run_mCons, h, obind_some, run_bnd, run_mNil, obind_some, run_ret, obind_some, run_appN, rvs_cons, rvs_nil, rv_val, ocons_some, Option.bind_some]
theorem iter_tup {f : D → D} {xs : List D} (h1 : s[i]? = some (some (false, .d (.tup xs)))) : mIter (mV i) s = some (xs.map .d, s) := by
  have hs : s.set i (some (false, .d (.tup xs))) = s := by
    apply List.ext_getElem?
    intro n
    by_cases hn : n = i
    · subst hn
      rw [List.getElem?_set_self (List.getElem?_eq_some_iff.mp h1).1, h1]
    · rw [List.getElem?_set_ne (Ne.symm hn)]
  refine run_iter (r := .peek i) (p := (false, .d (.tup xs))) (s1 := s) ?_ ?_ rfl
  · rw [run_mV, h1, peekO_some]
  · rw [use_peek, h1, useO_some, hs]
theorem if_f {t : SM Bool} {A' B' : SM Fl} (h : t s = some (false, s)) : sIf t A' B' s = B' s := by rw [run_sIf, h, obind_some, iteM_f]
theorem if_t {t : SM Bool} {A' B' : SM Fl} (h : t s = some (true, s)) : sIf t A' B' s = A' s := by rw [run_sIf, h, obind_some, iteM_t]
theorem seq_nx {A' B' : SM Fl} {s1 : List Slot} (h : A' s = some (.nx, s1)) : sSeq A' B' s = B' s1 := by rw [run_sSeq, h, obind_some, seqF_nx]
end
theorem okO {n : Nat} {o : List Str} (h : ∀ x ∈ o, PyData.strOk x = true) (hl : o.length ≤ 16777216) : okD (n + 2) (encO o) = true := by
  unfold encO okD
  rw [Bool.and_eq_true, List.all_eq_true]
  refine ⟨fun x hx => ?_, szB_of (by rw [List.length_map]; exact hl)⟩
  obtain ⟨y, hy, rfl⟩ := List.mem_map.mp hx
  exact h y hy
theorem sameO {n : Nat} {o : List Str} : sameN (n + 2) (encO o) (encO o) = true := by
  unfold encO
  rw [sameN_tup, beq_self_eq_true, Bool.true_and, List.all_eq_true]
  intro k hk
  have hk := List.mem_range.mp hk
  rw [List.length_map] at hk
  have e : (o.map D.str).getD k .non = .str o[k] := by simp [List.getD_eq_getElem?_getD, hk]
  rw [e]
  show (o[k] == o[k]) = true
  exact beq_self_eq_true _
/-- what is known from here on -/
structure Kn (rs : List (List Str)) (q f : Nat) (e : Env) : Prop where
  h5 : e.x5 = some (false, .d (encR rs))
  h7 : e.x7 = some (false, .d (.int q))
  h8 : e.x8 = some (false, .d (.int f))
  sk : Sk rs
  len : rs.length ≤ 5
  six : ∀ o ∈ rs, o.length ≤ 6
  nd : rs.flatten.Nodup
section
variable {rs : List (List Str)} {q f : Nat} {e : Env}
theorem due_ok (h : Kn rs q f e) : ∀ x ∈ dueL rs q f, PyData.strOk x = true := fun x hx => by
  obtain ⟨t, ht, rfl⟩ := List.mem_map.mp hx
  have hk : t ∈ kmL rs := by
    rcases List.mem_append.mp ht with z | z
    · exact (List.mem_filter.mp z).1
    · exact (List.mem_filter.mp (List.mem_of_mem_take z)).1
  obtain ⟨i, o, h1, _, h3⟩ := (km_mem h.six).mp hk
  exact h.sk o (List.mem_of_getElem? h1) _ (List.mem_of_getElem? h3)
theorem due_le (h : Kn rs q f e) : (dueL rs q f).length ≤ 600 := by
  have h1 := km_len h.sk (by have := h.len; omega) h.six
  have h2 : (dueL rs q f).length ≤ (kmL rs).length := by
    unfold dueL taken
    rw [List.length_map, List.length_append, List.length_take]
    have e := congrArg List.length (split_T (q := q) (km_pw (rs := rs)))
    rw [List.length_append] at e
    omega
  omega
def X9 (rs : List (List Str)) (q f : Nat) : Slot := some (false, .d (encO (dueL rs q f)))
theorem st_due (h : Kn rs q f e) : sSet 9 (mN (fN 3 F__law_going) (mCons (mV 5) (mCons (mV 7) (mCons (mV 8) mNil)))) e.s = some (.nx, { e with x9 := X9 rs q f }.s) := by
  have e1 : mN (fN 3 F__law_going) (mCons (mV 5) (mCons (mV 7) (mCons (mV 8) mNil))) e.s = some (.val false (.d (encO (dueL rs q f))), e.s) := by
    rw [arg3 (congrArg some h.h5) (congrArg some h.h7) (congrArg some h.h8), fN3, lawgoing_ok (by have := h.len; omega)]
    rfl
  rw [set_d e1 (by simp [Env.s])]
  rfl
theorem going_run (h : Kn rs q f e) : mN (fN 3 F_going_on) (mCons (mV 5) (mCons (mV 7) (mCons (mV 8) mNil))) e.s = some (.val false (.d (encO (dueL rs q f))), e.s) := by
  rw [arg3 (congrArg some h.h5) (congrArg some h.h7) (congrArg some h.h8), fN3, going_ok h.sk (by have := h.len; omega) h.six]
  rfl
theorem st_same (h : Kn rs q f e) (h9 : e.x9 = X9 rs q f) : sIf (tNotM (mTru (mN (fN 2 (F__law_same 70)) (mCons (mN (fN 3 F_going_on) (mCons (mV 5) (mCons (mV 7) (mCons (mV 8) mNil)))) (mCons (mV 9) mNil))))) (sRet (mC (.bl false))) sNop e.s = some (.nx, e.s) := by
  have e1 := going_run h
  have g9 : e.s[9]? = some (some (false, .d (encO (dueL rs q f)))) := congrArg some h9
  have ok := okO (n := 68) (due_ok h) (Nat.le_trans (due_le h) (by omega))
  have e2 := same_run 70 _ _ ok ok
  rw [sameO] at e2
  generalize mN (fN 3 F_going_on) (mCons (mV 5) (mCons (mV 7) (mCons (mV 8) mNil))) = mm at e1 ⊢
  refine (if_f ?_).trans rfl
  generalize F__law_same 70 = F at e2 ⊢
  simp (implicitDefEqProofs := false) only [run_tNotM, run_mTru, run_mN, run_mCons, e1, obind_some, run_bnd, run_mV, g9, peekO_some, run_mNil, run_ret, run_appN, rvs_cons, rvs_nil, rv_val, rv_peek, rvO_some, ocons_some, Option.bind_some, fN2, e2, ofin_some, fin_d, run_tru1, truA_bl, okB_some, Bool.not_true]
theorem len_encO {o : List Str} : lenA (.d (encO o)) = some (.i o.length) := by
  show some (A.i _) = _
  rw [List.length_map]
theorem sumA_nat {xs : List Nat} : sumA (.ls (xs.map fun n => D.int (n : Nat))) = some (.d (.int ((xs.sum : Nat) : Int))) := by
  have h' : intsD (xs.map fun n => D.int (n : Nat)) = some (xs.map fun n => ((n : Nat) : Int)) := by
    have e : (xs.map fun n => D.int (n : Nat)) = (xs.map fun n => ((n : Nat) : Int)).map .int := by
      rw [List.map_map]
      rfl
    rw [e, intsD_map]
  show ((intsD (xs.map fun n => D.int (n : Nat))).map fun ns => A.i ns.sum) = _
  rw [h', Option.map_some, sum_cast]
theorem iter5 (h : Kn rs q f e) : mIter (mV 5) e.s = some (rs.map (fun o => A.d (encO o)), e.s) := by
  have := iter_tup (f := id) (s := e.s) (i := 5) (xs := rs.map encO) (congrArg some h.h5)
  rw [List.map_map] at this
  exact this
theorem comp_min (h : Kn rs q f e) : (mComp [10] (mIter (mV 5)) (.nm 10) tYesM (mN (f2 min2A) (mCons (mV 7) (mCons (mN (f1 lenA) (mCons (mV 10) mNil)) mNil)))) e.s = some (.val true (.ls ((rs.map fun o => min q o.length).map fun n => D.int (n : Nat))), { e with x10 := rs1 e.x10 }.s) := by
  have := comp10 (p := fun _ => true) (g := fun o : List Str => D.int ((min q o.length : Nat) : Int)) (te := mN (f2 min2A) (mCons (mV 7) (mCons (mN (f1 lenA) (mCons (mV 10) mNil)) mNil))) (tt := tYesM) (iter5 h) (fun o _ => ⟨rfl, fun _ => ⟨.val false (.d (.int ((min q o.length : Nat) : Int))), by
    have e2 : min2A (.d (.int (q : Nat))) (.d (.int (o.length : Nat))) = some (.d (.int ((min q o.length : Nat) : Int))) := by
      show some (A.i (if ((o.length : Nat) : Int) < (q : Int) then ((o.length : Nat) : Int) else (q : Int))) = _
      split
      · exact Ai_congr (by omega)
      · exact Ai_congr (by omega)
    have g7 : ({ e with x10 := some (false, A.d (encO o)) } : Env).s[7]? = some (some (false, .d (.int q))) := congrArg some h.h7
    have g10 : ({ e with x10 := some (false, A.d (encO o)) } : Env).s[10]? = some (some (false, .d (encO o))) := rfl
    simp (implicitDefEqProofs := false) only [run_mN, run_mCons, run_mV, g7, g10, peekO_some, obind_some, run_bnd, run_mNil, run_ret, run_appN, rvs_cons, rvs_nil, rv_peek, rvO_some, rv_val, ocons_some, Option.bind_some, f1_one, f2_two, len_encO, ofin_some, fin_d, e2], rfl⟩⟩) (by have := h.len; omega)
  rw [this, filter_yes, List.map_map]
  rfl
theorem comp_len (h : Kn rs q f e) : (mComp [10] (mIter (mV 5)) (.nm 10) tYesM (mN (f1 lenA) (mCons (mV 10) mNil))) e.s = some (.val true (.ls ((rs.map List.length).map fun n => D.int (n : Nat))), { e with x10 := rs1 e.x10 }.s) := by
  have := comp10 (p := fun _ => true) (g := fun o : List Str => D.int ((o.length : Nat) : Int)) (te := mN (f1 lenA) (mCons (mV 10) mNil)) (tt := tYesM) (iter5 h) (fun o _ => ⟨rfl, fun _ => ⟨.val false (.d (.int ((o.length : Nat) : Int))), by
    have g10 : ({ e with x10 := some (false, A.d (encO o)) } : Env).s[10]? = some (some (false, .d (encO o))) := rfl
    rw [arg1 g10, f1_one, len_encO]
    rfl, rfl⟩⟩) (by have := h.len; omega)
  rw [this, filter_yes, List.map_map]
  rfl
def sureN (rs : List (List Str)) (q : Nat) : Nat := (rs.map fun o => min q o.length).sum
theorem st_sure (h : Kn rs q f e) : sSet 11 (mN (f1 sumA) (mCons (mComp [10] (mIter (mV 5)) (.nm 10) tYesM (mN (f2 min2A) (mCons (mV 7) (mCons (mN (f1 lenA) (mCons (mV 10) mNil)) mNil)))) mNil)) e.s = some (.nx, { e with x10 := rs1 e.x10, x11 := some (false, .d (.int ((sureN rs q : Nat) : Int))) }.s) := by
  have e1 := one1 (F := f1 sumA) (comp_min h)
  rw [f1_one, sumA_nat, ofin_some] at e1
  rw [set_d e1 (by simp [Env.s])]
  rfl
theorem st_sizes (h : Kn rs q f e) : sSet 12 (mN (f1 tupleA) (mCons (mComp [10] (mIter (mV 5)) (.nm 10) tYesM (mN (f1 lenA) (mCons (mV 10) mNil))) mNil)) e.s = some (.nx, { e with x10 := rs1 e.x10, x12 := some (false, .d (encN (rs.map List.length))) }.s) := by
  have e1 := one1 (F := f1 tupleA) (comp_len h)
  rw [set_d (z := encN (rs.map List.length)) e1 (by simp [Env.s])]
  rfl
theorem st_count (h : Kn rs q f e) (h9 : e.x9 = X9 rs q f) (h11 : e.x11 = some (false, .d (.int ((sureN rs q : Nat) : Int)))) :
    sIf (tCmpM neA (mN (f1 lenA) (mCons (mV 9) mNil)) (m2 addA (mV 11) (mN (f2 min2A) (mCons (mV 8) (mCons (m2 subA (mN (f1 sumA) (mCons (mComp [10] (mIter (mV 5)) (.nm 10) tYesM (mN (f1 lenA) (mCons (mV 10) mNil))) mNil)) (mV 11)) mNil))))) (sRet (mC (.bl false))) sNop e.s = some (.nx, { e with x10 := rs1 e.x10 }.s) := by
  have e1 := one1 (F := f1 sumA) (comp_len h)
  rw [f1_one, sumA_nat, ofin_some, fin_d] at e1
  generalize mComp [10] (mIter (mV 5)) (.nm 10) tYesM (mN (f1 lenA) (mCons (mV 10) mNil)) = mm at e1 ⊢
  generalize mN (f1 sumA) (mCons mm mNil) = nn at e1 ⊢
  have g9 : e.s[9]? = some (some (false, .d (encO (dueL rs q f)))) := congrArg some h9
  have g8 : e.s[8]? = some (some (false, .d (.int f))) := congrArg some h.h8
  have g11 : e.s[11]? = some (some (false, .d (.int ((sureN rs q : Nat) : Int)))) := congrArg some h11
  have k8 : ({ e with x10 := rs1 e.x10 } : Env).s[8]? = some (some (false, .d (.int f))) := congrArg some h.h8
  have k11 : ({ e with x10 := rs1 e.x10 } : Env).s[11]? = some (some (false, .d (.int ((sureN rs q : Nat) : Int)))) := congrArg some h11
  have hd := due_len (q := q) (f := f) h.sk h.six
  have e2 : min2A (.d (.int (f : Nat))) (.d (.int ((((rs.map List.length).sum : Nat) : Int) - ((sureN rs q : Nat) : Int)))) = some (.d (.int ((min f ((rs.map List.length).sum - sureN rs q) : Nat) : Int))) := by
    have hle : sureN rs q ≤ (rs.map List.length).sum := by
      have gen : ∀ (rs : List (List Str)), (rs.map fun o => min q o.length).sum ≤ (rs.map List.length).sum := by
        intro rs
        induction rs with
        | nil => simp
        | cons o r ih =>
          rw [List.map_cons, List.map_cons, List.sum_cons, List.sum_cons]
          omega
      exact gen rs
    show some (A.i (if ((((rs.map List.length).sum : Nat) : Int) - ((sureN rs q : Nat) : Int)) < (f : Int) then _ else (f : Int))) = _
    split
    · exact Ai_congr (by omega)
    · exact Ai_congr (by omega)
  have e3 : decide (((dueL rs q f).length : Int) = ((sureN rs q : Nat) : Int) + ((min f ((rs.map List.length).sum - sureN rs q) : Nat) : Int)) = true := by
    apply decide_eq_true
    unfold sureN
    omega
  have c : (tCmpM neA (mN (f1 lenA) (mCons (mV 9) mNil)) (m2 addA (mV 11) (mN (f2 min2A) (mCons (mV 8) (mCons (m2 subA nn (mV 11)) mNil))))) e.s = some (false, { e with x10 := rs1 e.x10 }.s) := by
    simp (implicitDefEqProofs := false) only [run_tCmpM, run_mN, run_mCons, run_mV, g9, g8, g11, k8, k11, peekO_some, obind_some, run_bnd, run_mNil, run_ret, run_appN, rvs_cons, rvs_nil, rv_peek, rvO_some, rv_val, ocons_some, Option.bind_some, f1_one, f2_two, len_encO, ofin_some, fin_d, run_m2, e1, run_app2, bind2_some, subA_int, e2, addA_int, run_cmp2, neA_int, e3, Bool.not_true, okB_some]
  rw [run_sIf, c, obind_some, iteM_f]
  rfl
end
end MM
namespace MM
open PySem PySem.Spec PyProof.Rows L2

/-! ### one place of one group -/
theorem name_inj {rs : List (List Str)} (nd : rs.flatten.Nodup) {g g' k k' : Nat} {o o' : List Str} {x : Str} (h1 : rs[g]? = some o) (h2 : o[k]? = some x) (h3 : rs[g']? = some o') (h4 : o'[k']? = some x) : g = g' ∧ k = k' := by
  have nd := (List.pairwise_flatten (R := fun a b : Str => a ≠ b)).mp nd
  obtain ⟨hg, rfl⟩ := List.getElem?_eq_some_iff.mp h1
  obtain ⟨hg', rfl⟩ := List.getElem?_eq_some_iff.mp h3
  have p := List.pairwise_iff_getElem.mp nd.2
  have m1 := List.mem_of_getElem? h2
  have m2 := List.mem_of_getElem? h4
  have e : g = g' := by
    rcases Nat.lt_trichotomy g g' with z | z | z
    · exact (p g g' hg hg' z x m1 x m2 rfl).elim
    · exact z
    · exact (p g' g hg' hg z x m2 x m1 rfl).elim
  subst e
  refine ⟨rfl, ?_⟩
  have p2 := List.pairwise_iff_getElem.mp (nd.1 _ (List.getElem_mem hg))
  obtain ⟨hk, ek⟩ := List.getElem?_eq_some_iff.mp h2
  obtain ⟨hk', ek'⟩ := List.getElem?_eq_some_iff.mp h4
  rcases Nat.lt_trichotomy k k' with z | z | z
  · exact (p2 k k' hk hk' z (ek.trans ek'.symm)).elim
  · exact z
  · exact (p2 k' k hk' hk z (ek'.trans ek.symm)).elim
theorem any_due {rs : List (List Str)} {q f g k : Nat} {o : List Str} {x : Str} (hs : Sk rs) (h6 : ∀ o ∈ rs, o.length ≤ 6) (nd : rs.flatten.Nodup) (h1 : rs[g]? = some o) (h2 : o[k]? = some x) :
    ((dueL rs q f).any fun y => y == x) = thruV (rs.map List.length) (k + 1) q f g := by
  have hm : ((k, g, x) : Tr) ∈ kmL rs := (km_mem h6).mpr ⟨g, o, h1, rfl, h2⟩
  rw [Bool.eq_iff_iff, ← taken_iff hs h6 hm, List.any_eq_true]
  constructor
  · rintro ⟨y, hy, e⟩
    obtain ⟨t, ht, rfl⟩ := List.mem_map.mp hy
    have e : nameT t = x := by simpa using e
    have hk : t ∈ kmL rs := by
      rcases List.mem_append.mp ht with z | z
      · exact (List.mem_filter.mp z).1
      · exact (List.mem_filter.mp (List.mem_of_mem_take z)).1
    obtain ⟨i, o', h3, h4, h5⟩ := (km_mem h6).mp hk
    have e' : t.2.2 = x := e
    rw [e'] at h5
    obtain ⟨rfl, hkk⟩ := name_inj nd h1 h2 h3 h5
    have et : t = (k, g, x) := by
      obtain ⟨a, b, c⟩ := t
      simp only at h4 e' hkk
      subst h4 e' hkk
      rfl
    rw [← et]
    exact ht
  · intro h
    exact ⟨x, List.mem_map.mpr ⟨_, h, rfl⟩, by simp⟩
section
variable {rs : List (List Str)} {q f g k : Nat} {e : Env} {o : List Str} {x : Str}
def mPlace : SM Fl := (sSeq (sSet 14 (mN (fN 5 F_is_through) (mCons (mV 12) (mCons (m2 addA (mV 3) (mC (.int 1))) (mCons (mV 7) (mCons (mV 8) (mCons (mV 13) mNil)))))))
    (sSeq (sIf (tNotM (mTru (mN (fN 2 (F__law_same 70)) (mCons (mV 14) (mCons (asV (tCmpM inA (mIx (mIx (mV 5) (mV 13)) (mV 3)) (mV 9))) mNil))))) (sRet (mC (.bl false))) sNop)
    (sSeq (sIf (tAndM (mTru (mV 14)) (tAndM (tCmpM gtA (mV 3) (mC (.int 0))) (tCmpM isnA (mN (fN 5 F_is_through) (mCons (mV 12) (mCons (mV 3) (mCons (mV 7) (mCons (mV 8) (mCons (mV 13) mNil)))))) (mC (.bl true))))) (sRet (mC (.bl false))) sNop)
    (sIf (tAndM (mTru (mV 14)) (tNotM (tAndM (mTru (mN (fN 5 F_is_through) (mCons (mV 12) (mCons (m2 addA (mV 3) (mC (.int 1))) (mCons (m2 addA (mV 7) (mC (.int 1))) (mCons (mV 8) (mCons (mV 13) mNil))))))) (mTru (mN (fN 5 F_is_through) (mCons (mV 12) (mCons (m2 addA (mV 3) (mC (.int 1))) (mCons (mV 7) (mCons (m2 addA (mV 8) (mC (.int 1))) (mCons (mV 13) mNil)))))))))) (sRet (mC (.bl false))) sNop))))
theorem ix_nat {xs : List D} {k : Nat} {z : D} (h : xs[k]? = some z) : ixA (.d (.tup xs)) (.d (.int (k : Int))) = some (.d z) := by
  rw [ix_tup (List.getElem?_eq_some_iff.mp h).1, List.getD_eq_getElem?_getD, h]
  rfl
theorem ixx_run (h : Kn rs q f e) (h13 : e.x13 = some (false, .d (.int (g : Nat)))) (h3 : e.x3 = some (false, .d (.int (k : Nat)))) (h1 : rs[g]? = some o) (h2 : o[k]? = some x) : (mIx (mIx (mV 5) (mV 13)) (mV 3)) e.s = some (.val false (.d (.str x)), e.s) := by
  have g5 : e.s[5]? = some (some (false, .d (encR rs))) := congrArg some h.h5
  have g13 : e.s[13]? = some (some (false, .d (.int (g : Nat)))) := congrArg some h13
  have g3 : e.s[3]? = some (some (false, .d (.int (k : Nat)))) := congrArg some h3
  have i1 : ixA (.d (encR rs)) (.d (.int (g : Nat))) = some (.d (encO o)) := ix_nat (by rw [List.getElem?_map, h1]; rfl)
  have i2 : ixA (.d (encO o)) (.d (.int (k : Nat))) = some (.d (.str x)) := ix_str h2
  simp (implicitDefEqProofs := false) only [run_mIx, run_mV, g5, g13, g3, peekO_some, obind_some, run_bnd, rv_peek, rvO_some, rv_val, ixO_d i1, ixO_d i2]
theorem five {s : List Slot} {F : List A → Option A} {a b c d w : A} {m1 m2 m3 m4 m5 : SM R} {r1 r2 r3 r4 r5 : R} (h1 : m1 s = some (r1, s)) (h2 : m2 s = some (r2, s)) (h3 : m3 s = some (r3, s)) (h4 : m4 s = some (r4, s)) (h5 : m5 s = some (r5, s))
    (v1 : rv r1 s = some a) (v2 : rv r2 s = some b) (v3 : rv r3 s = some c) (v4 : rv r4 s = some d) (v5 : rv r5 s = some w) : mN (fN 5 F) (mCons m1 (mCons m2 (mCons m3 (mCons m4 (mCons m5 mNil))))) s = ofin (F [a, b, c, d, w]) s := by
  simp (implicitDefEqProofs := false) only [run_mN, run_mCons, h1, h2, h3, h4, h5, obind_some, run_bnd, run_mNil, run_ret, run_appN, rvs_cons, rvs_nil, v1, v2, v3, v4, v5, ocons_some, Option.bind_some, fN5]
theorem mV_run {s : List Slot} {i : Nat} {p : Bool × A} (h : s[i]? = some (some p)) : mV i s = some (.peek i, s) := by rw [run_mV, h, peekO_some]
theorem rv_run {s : List Slot} {i : Nat} {p : Bool × A} (h : s[i]? = some (some p)) : rv (.peek i) s = some p.2 := by rw [rv_peek, h, rvO_some]
theorem plus1 {s : List Slot} {i n : Nat} {fl : Bool} (h : s[i]? = some (some (fl, .d (.int (n : Nat))))) : (m2 addA (mV i) (mC (.int 1))) s = some (.val false (.d (.int ((n + 1 : Nat) : Int))), s) := by
  have e : ((n + 1 : Nat) : Int) = (n : Int) + 1 := by omega
  rw [e]
  simp (implicitDefEqProofs := false) only [run_m2, run_mV, h, peekO_some, obind_some, run_bnd, run_mC, run_app2, rv_peek, rvO_some, rv_val, bind2_some, addA_int, ofin_some, fin_d]
theorem place_run (h : Kn rs q f e) (h9 : e.x9 = X9 rs q f) (h12 : e.x12 = some (false, .d (encN (rs.map List.length)))) (h13 : e.x13 = some (false, .d (.int (g : Nat)))) (h3 : e.x3 = some (false, .d (.int (k : Nat)))) (h1 : rs[g]? = some o) (h2 : o[k]? = some x) :
    mPlace e.s = some (.nx, { e with x14 := some (false, .d (.bl (thruV (rs.map List.length) (k + 1) q f g))) }.s) := by
  have hl : (rs.map List.length).length ≤ 100 := by rw [List.length_map]; have := h.len; omega
  -- a call of is_through
  have call : ∀ (e : Env) {p' q' f' : Nat} {m1 m2 m3 : SM R} {r1 r2 r3 : R}, e.x12 = some (false, .d (encN (rs.map List.length))) → e.x13 = some (false, .d (.int (g : Nat))) → m1 e.s = some (r1, e.s) → m2 e.s = some (r2, e.s) → m3 e.s = some (r3, e.s) →
      rv r1 e.s = some (.d (.int (p' : Nat))) → rv r2 e.s = some (.d (.int (q' : Nat))) → rv r3 e.s = some (.d (.int (f' : Nat))) → 1 ≤ p' → mN (fN 5 F_is_through) (mCons (mV 12) (mCons m1 (mCons m2 (mCons m3 (mCons (mV 13) mNil))))) e.s = some (.val false (.d (.bl (thruV (rs.map List.length) p' q' f' g))), e.s) := fun e {p' q' f' m1 m2 m3 r1 r2 r3} h12 h13 a1 a2 a3 v1 v2 v3 hp => by
    have g12 : e.s[12]? = some (some (false, .d (encN (rs.map List.length)))) := congrArg some h12
    have g13 : e.s[13]? = some (some (false, .d (.int (g : Nat)))) := congrArg some h13
    rw [five (mV_run g12) a1 a2 a3 (mV_run g13) (rv_run g12) v1 v2 v3 (rv_run g13), through_ok hl hp]
    rfl
  have g3 : e.s[3]? = some (some (false, .d (.int (k : Nat)))) := congrArg some h3
  have g7 : e.s[7]? = some (some (false, .d (.int (q : Nat)))) := congrArg some h.h7
  have g8 : e.s[8]? = some (some (false, .d (.int (f : Nat)))) := congrArg some h.h8
  have c1 := call e (p' := k + 1) (q' := q) (f' := f) h12 h13 (plus1 g3) (mV_run g7) (mV_run g8) rv_val (rv_run g7) (rv_run g8) (by omega)
  have t1 : (sSet 14 (mN (fN 5 F_is_through) (mCons (mV 12) (mCons (m2 addA (mV 3) (mC (.int 1))) (mCons (mV 7) (mCons (mV 8) (mCons (mV 13) mNil))))))) e.s = some (.nx, { e with x14 := some (false, .d (.bl (thruV (rs.map List.length) (k + 1) q f g))) }.s) := by
    rw [set_d c1 (by simp [Env.s])]
    rfl
  have hany := any_due (q := q) (f := f) h.sk h.six h.nd h1 h2
  generalize hb : thruV (rs.map List.length) (k + 1) q f g = b at t1 hany ⊢
  -- the state with its answer
  generalize he : ({ e with x14 := some (false, .d (.bl b)) } : Env) = e' at t1 ⊢
  have h' : Kn rs q f e' := by subst he; exact ⟨h.h5, h.h7, h.h8, h.sk, h.len, h.six, h.nd⟩
  have h9' : e'.x9 = X9 rs q f := by subst he; exact h9
  have h12' : e'.x12 = some (false, .d (encN (rs.map List.length))) := by subst he; exact h12
  have h13' : e'.x13 = some (false, .d (.int (g : Nat))) := by subst he; exact h13
  have h3' : e'.x3 = some (false, .d (.int (k : Nat))) := by subst he; exact h3
  have g14 : e'.s[14]? = some (some (false, .d (.bl b))) := by subst he; rfl
  have g9 : e'.s[9]? = some (some (false, .d (encO (dueL rs q f)))) := congrArg some h9'
  have g3 : e'.s[3]? = some (some (false, .d (.int (k : Nat)))) := congrArg some h3'
  have g7 : e'.s[7]? = some (some (false, .d (.int (q : Nat)))) := congrArg some h'.h7
  have g8 : e'.s[8]? = some (some (false, .d (.int (f : Nat)))) := congrArg some h'.h8
  have ix := ixx_run h' h13' h3' h1 h2
  have hin : inA (.d (.str x)) (.d (encO (dueL rs q f))) = some b := by
    unfold encO
    rw [inA_strs (h.sk o (List.mem_of_getElem? h1) x (List.mem_of_getElem? h2)) (due_ok h), hany]
  have hsm : F__law_same 70 [.d (.bl b), .d (.bl b)] = some (.d (.bl true)) := by
    rw [same_run 70 _ _ rfl rfl]
    show some (A.d (.bl (b == b))) = _
    rw [beq_self_eq_true]
  have t2 : (tNotM (mTru (mN (fN 2 (F__law_same 70)) (mCons (mV 14) (mCons (asV (tCmpM inA (mIx (mIx (mV 5) (mV 13)) (mV 3)) (mV 9))) mNil))))) e'.s = some (false, e'.s) := by
    generalize F__law_same 70 = F at hsm ⊢
    generalize mIx (mIx (mV 5) (mV 13)) (mV 3) = mm at ix ⊢
    simp (implicitDefEqProofs := false) only [run_tNotM, run_mTru, run_mN, run_mCons, run_mV, g14, g9, peekO_some, obind_some, run_bnd, run_asV, run_tCmpM, ix, run_cmp2, rv_val, rv_peek, rvO_some, bind2_some, hin, okB_some, run_ret, run_mNil, run_appN, rvs_cons, rvs_nil, ocons_some, Option.bind_some, fN2, hsm, ofin_some, fin_d, run_tru1, truA_bl, Bool.not_true]
  have tr : mTru (mV 14) e'.s = some (b, e'.s) := by
    simp (implicitDefEqProofs := false) only [run_mTru, run_mV, g14, peekO_some, obind_some, run_tru1, rv_peek, rvO_some, Option.bind_some, truA_bl, okB_some]
  have t3 : (tAndM (mTru (mV 14)) (tAndM (tCmpM gtA (mV 3) (mC (.int 0))) (tCmpM isnA (mN (fN 5 F_is_through) (mCons (mV 12) (mCons (mV 3) (mCons (mV 7) (mCons (mV 8) (mCons (mV 13) mNil)))))) (mC (.bl true))))) e'.s = some (false, e'.s) := by
    rw [run_tAndM, tr, obind_some]
    cases b with
    | false => rfl
    | true =>
      rw [iteM_t, run_tAndM]
      have cg : (tCmpM gtA (mV 3) (mC (.int 0))) e'.s = some (decide (0 < k), e'.s) := by
        have e0 : decide ((0 : Int) < (k : Int)) = decide (0 < k) := by
          apply decide_eq_decide.mpr
          omega
        simp (implicitDefEqProofs := false) only [run_tCmpM, run_mV, g3, peekO_some, obind_some, run_bnd, run_mC, run_cmp2, rv_peek, rvO_some, rv_val, bind2_some, gtA_int, e0, okB_some]
      rw [cg, obind_some]
      by_cases hk : 0 < k
      · rw [decide_eq_true hk, iteM_t]
        have c3 := call e' (p' := k) (q' := q) (f' := f) h12' h13' (mV_run g3) (mV_run g7) (mV_run g8) (rv_run g3) (rv_run g7) (rv_run g8) hk
        rw [thru_up hb] at c3
        generalize mN (fN 5 F_is_through) (mCons (mV 12) (mCons (mV 3) (mCons (mV 7) (mCons (mV 8) (mCons (mV 13) mNil))))) = mm at c3 ⊢
        rw [run_tCmpM, c3, obind_some, run_bnd, run_mC, obind_some]
        rfl
      · rw [decide_eq_false hk]
        rfl
  have t4 : (tAndM (mTru (mV 14)) (tNotM (tAndM (mTru (mN (fN 5 F_is_through) (mCons (mV 12) (mCons (m2 addA (mV 3) (mC (.int 1))) (mCons (m2 addA (mV 7) (mC (.int 1))) (mCons (mV 8) (mCons (mV 13) mNil))))))) (mTru (mN (fN 5 F_is_through) (mCons (mV 12) (mCons (m2 addA (mV 3) (mC (.int 1))) (mCons (mV 7) (mCons (m2 addA (mV 8) (mC (.int 1))) (mCons (mV 13) mNil)))))))))) e'.s = some (false, e'.s) := by
    rw [run_tAndM, tr, obind_some]
    cases b with
    | false => rfl
    | true =>
      rw [iteM_t, run_tNotM, run_tAndM]
      have c3 := call e' (p' := k + 1) (q' := q + 1) (f' := f) h12' h13' (plus1 g3) (plus1 g7) (mV_run g8) rv_val rv_val (rv_run g8) (by omega)
      have c4 := call e' (p' := k + 1) (q' := q) (f' := f + 1) h12' h13' (plus1 g3) (mV_run g7) (plus1 g8) rv_val (rv_run g7) rv_val (by omega)
      rw [thru_q hb] at c3
      rw [thru_f hb] at c4
      rw [run_mTru, c3, obind_some]
      show obind (obind (tru1 (.val false (.d (.bl true))) e'.s) fun k => iteM k _ _) _ = _
      rw [run_tru1, rv_val, Option.bind_some, truA_bl, okB_some, obind_some, iteM_t, run_mTru, c4, obind_some, run_tru1, rv_val, Option.bind_some, truA_bl, okB_some, obind_some, run_ret]
      rfl
  unfold mPlace
  rw [seq_nx t1, seq_nx ((if_f t2).trans rfl), seq_nx ((if_f t3).trans rfl), if_f t4]
  rfl
def mPlaces : SM Fl := (sFor (.nm 13) (mRange1 (mCons (mN (f1 lenA) (mCons (mV 5) mNil)) mNil)) (sFor (.nm 3) (mRange1 (mCons (mN (f1 lenA) (mCons (mIx (mV 5) (mV 13)) mNil)) mNil)) mPlace))
theorem len_run (h : Kn rs q f e) : mN (f1 lenA) (mCons (mV 5) mNil) e.s = some (.val false (.d (.int (rs.length : Nat))), e.s) := by
  rw [arg1 (congrArg some h.h5), f1_one]
  show ofin (some (A.i ((rs.map encO).length : Nat))) e.s = _
  rw [List.length_map]
  rfl
theorem len2_run (h : Kn rs q f e) (h13 : e.x13 = some (false, .d (.int (g : Nat)))) (h1 : rs[g]? = some o) : mN (f1 lenA) (mCons (mIx (mV 5) (mV 13)) mNil) e.s = some (.val false (.d (.int (o.length : Nat))), e.s) := by
  have g5 : e.s[5]? = some (some (false, .d (encR rs))) := congrArg some h.h5
  have g13 : e.s[13]? = some (some (false, .d (.int (g : Nat)))) := congrArg some h13
  have i1 : ixA (.d (encR rs)) (.d (.int (g : Nat))) = some (.d (encO o)) := ix_nat (by rw [List.getElem?_map, h1]; rfl)
  have e1 : (mIx (mV 5) (mV 13)) e.s = some (.val false (.d (encO o)), e.s) := by
    simp (implicitDefEqProofs := false) only [run_mIx, run_mV, g5, g13, peekO_some, obind_some, run_bnd, rv_peek, rvO_some, rv_val, ixO_d i1]
  rw [one1 e1, f1_one, len_encO]
  rfl
theorem places_run (h : Kn rs q f e) (h9 : e.x9 = X9 rs q f) (h12 : e.x12 = some (false, .d (encN (rs.map List.length)))) : ∃ y3 y13 y14, mPlaces e.s = some (.nx, { e with x3 := y3, x13 := y13, x14 := y14 }.s) := by
  have i1 := run_range1 (len_run h) rfl (rgB_of (by omega) (by have := h.len; omega))
  obtain ⟨s', e1, y3, y13, y14, es⟩ := forL_ok (t := .nm 13) (b := sFor (.nm 3) (mRange1 (mCons (mN (f1 lenA) (mCons (mIx (mV 5) (mV 13)) mNil)) mNil)) mPlace) (its := rangeL 0 ((rs.length : Int)).toNat) (s := e.s)
    (fun i s => ∃ (y3 y13 y14 : Slot), s = { e with x3 := y3, x13 := y13, x14 := y14 }.s) ⟨e.x3, e.x13, e.x14, rfl⟩ (fun i a s ea ⟨y3, y13, y14, es⟩ => by
      have hi : i < rs.length := by
        have := (List.getElem?_eq_some_iff.mp ea).1
        rw [rangeL_len] at this
        omega
      rw [rangeL_get (by omega)] at ea
      cases ea
      rw [Int.zero_add]
      have h1 : rs[i]? = some rs[i] := List.getElem?_eq_getElem hi
      have hk : Kn rs q f { e with x3 := y3, x13 := some (false, .d (.int (i : Nat))), x14 := y14 } := ⟨h.h5, h.h7, h.h8, h.sk, h.len, h.six, h.nd⟩
      have h6 := h.six _ (List.getElem_mem hi)
      have i2 := run_range1 (len2_run hk rfl h1) rfl (rgB_of (by omega) (by omega))
      obtain ⟨s2, e2, z3, z14, es2⟩ := forL_ok (t := .nm 3) (b := mPlace) (its := rangeL 0 ((rs[i].length : Int)).toNat) (s := { e with x3 := y3, x13 := some (false, .d (.int (i : Nat))), x14 := y14 }.s)
        (fun j s => ∃ (z3 z14 : Slot), s = { e with x3 := z3, x13 := some (false, .d (.int (i : Nat))), x14 := z14 }.s) ⟨y3, y14, rfl⟩ (fun j a s ea ⟨z3, z14, es⟩ => by
          have hj : j < rs[i].length := by
            have := (List.getElem?_eq_some_iff.mp ea).1
            rw [rangeL_len] at this
            omega
          rw [rangeL_get (by omega)] at ea
          cases ea
          rw [Int.zero_add]
          subst es
          have hk2 : Kn rs q f { e with x3 := some (false, .d (.int (j : Nat))), x13 := some (false, .d (.int (i : Nat))), x14 := z14 } := ⟨h.h5, h.h7, h.h8, h.sk, h.len, h.six, h.nd⟩
          exact ⟨_, _, putI_nm (by simp [Env.s]), place_run hk2 h9 h12 rfl rfl h1 (List.getElem?_eq_getElem hj), _, _, rfl⟩)
      subst es
      refine ⟨_, s2, putI_nm (by simp [Env.s]), ?_, z3, some (false, .d (.int (i : Nat))), z14, es2⟩
      show sFor _ _ _ ({ e with x3 := y3, x13 := some (false, .d (.int (i : Nat))), x14 := y14 } : Env).s = _
      rw [run_sFor, i2, obind_some]
      exact e2)
  refine ⟨y3, y13, y14, ?_⟩
  unfold mPlaces
  rw [run_sFor, i1, obind_some, e1, es]
end
end MM
namespace MM
open PySem PySem.Spec PyProof.Rows L2

/-! ### boats exchanged in their groups -/
section
variable {rs : List (List Str)} {q f : Nat} {e : Env}
def mSwap : SM Fl := (sIf (tCmpM gtA (mN (f1 lenA) (mCons (mV 16) mNil)) (mC (.int 1))) (sSeq (sPar [17, 18] (mCons (mUse (mCallB 2 F__law_draw 1 (mCons (mN (f1 lenA) (mCons (mV 16) mNil)) mNil))) (mCons (mUse (mCallB 2 F__law_draw 1 (mCons (mN (f1 lenA) (mCons (mV 16) mNil)) mNil))) mNil)))
    (sSwapIx 16 (mV 17) (mV 18) (mTup (mCons (mIx (mV 16) (mV 18)) (mCons (mIx (mV 16) (mV 17)) mNil))))) sNop)
def mMix1 : SM Fl := (sSeq (sSet 16 (mN (f1 listA) (mCons (mV 10) mNil))) (sSeq mSwap (sExpr (mAppend 15 (mN (f1 tupleA) (mCons (mV 16) mNil))))))
theorem ix_ls {xs : List D} {k : Nat} {z : D} (h : xs[k]? = some z) : ixA (.ls xs) (.d (.int (k : Int))) = some (.d z) := by
  show (atI xs (k : Int)).map A.d = _
  have hk := (List.getElem?_eq_some_iff.mp h).1
  have e : ixN xs.length (k : Int) = some k := by
    unfold ixN
    rw [if_pos (by omega), if_pos (by omega)]
    simp
  unfold atI
  rw [e, Option.bind_some, h]
  rfl
theorem set_ls {xs : List D} {k : Nat} {z : D} (h : k < xs.length) : setA (.ls xs) (k : Int) z = some (.ls (xs.set k z)) := by
  have e : ixN xs.length (k : Int) = some k := by
    unfold ixN
    rw [if_pos (by omega), if_pos (by omega)]
    simp
  unfold setA
  simp only [e]
theorem swap_run {b : A} {o : List Str} (B : BoxOk b) (h1 : e.x1 = some (true, b)) (h16 : e.x16 = some (true, .ls (o.map .str))) (ho : o.length ≤ 6) : ∃ (b' : A) (o' : List Str) (y17 y18 : Slot), mSwap e.s = some (.nx, { e with x1 := some (true, b'), x16 := some (true, .ls (o'.map .str)), x17 := y17, x18 := y18 }.s) ∧ BoxOk b' ∧ o'.Perm o := by
  have g16 : e.s[16]? = some (some (true, .ls (o.map .str))) := congrArg some h16
  have c : (tCmpM gtA (mN (f1 lenA) (mCons (mV 16) mNil)) (mC (.int 1))) e.s = some (decide (1 < o.length), e.s) := by
    have e0 : decide ((1 : Int) < ((o.map D.str).length : Int)) = decide (1 < o.length) := by
      apply decide_eq_decide.mpr
      rw [List.length_map]
      omega
    rw [run_tCmpM, arg1 g16, f1_one, lenA_ls]
    show obind (some (R.val false (.d (.int _)), e.s)) _ = _
    rw [obind_some, run_bnd, run_mC, obind_some, run_cmp2, rv_val, rv_val, bind2_some, gtA_int, e0]
    rfl
  unfold mSwap
  by_cases hl : 1 < o.length
  · rw [decide_eq_true hl] at c
    rw [if_t c]
    have ln : ∀ (e : Env), e.x16 = some (true, .ls (o.map .str)) → mN (f1 lenA) (mCons (mV 16) mNil) e.s = some (.val false (.d (.int (o.length : Nat))), e.s) := fun e h16 => by
      rw [arg1 (congrArg some h16), f1_one, lenA_ls, List.length_map]
      rfl
    obtain ⟨i, b1, d1, i0, i1, B1⟩ := run_draw (s := e.s) (j := 1) (b := b) (congrArg some h1) (ln e h16) rv_val (congrArg some h1) B (by omega) (by omega)
    have es1 : e.s.set 1 (some (true, b1)) = { e with x1 := some (true, b1) }.s := rfl
    rw [es1] at d1
    obtain ⟨j, b2, d2, j0, j1, B2⟩ := run_draw (s := { e with x1 := some (true, b1) }.s) (j := 1) (b := b1) rfl (ln { e with x1 := some (true, b1) } h16) rv_val rfl B1 (by omega) (by omega)
    have es2 : ({ e with x1 := some (true, b1) } : Env).s.set 1 (some (true, b2)) = { e with x1 := some (true, b2) }.s := rfl
    rw [es2] at d2
    obtain ⟨i, rfl⟩ : ∃ n : Nat, i = n := ⟨i.toNat, by omega⟩
    obtain ⟨j, rfl⟩ : ∃ n : Nat, j = n := ⟨j.toNat, by omega⟩
    have hi : i < o.length := by omega
    have hj : j < o.length := by omega
    generalize hm : mCallB 2 F__law_draw 1 (mCons (mN (f1 lenA) (mCons (mV 16) mNil)) mNil) = mm at d1 d2 ⊢
    have p1 : (mCons (mUse mm) (mCons (mUse mm) mNil)) e.s = some ([.val false (.d (.int (i : Nat))), .val false (.d (.int (j : Nat)))], { e with x1 := some (true, b2) }.s) := by
      simp (implicitDefEqProofs := false) only [run_mCons, run_mUse, d1, d2, obind_some, run_bnd, use_val, run_ret, run_mNil]
    have p2 := run_sPar (js := [17, 18]) p1 rfl (setAll_two (by simp [Env.s]) (by simp [Env.s]))
    have es3 : (({ e with x1 := some (true, b2) } : Env).s.set 18 (some (false, .d (.int (j : Nat))))).set 17 (some (false, .d (.int (i : Nat)))) = { e with x1 := some (true, b2), x17 := some (false, .d (.int (i : Nat))), x18 := some (false, .d (.int (j : Nat))) }.s := rfl
    rw [es3] at p2
    rw [seq_nx p2]
    -- the exchange
    have k16 : ({ e with x1 := some (true, b2), x17 := some (false, .d (.int (i : Nat))), x18 := some (false, .d (.int (j : Nat))) } : Env).s[16]? = some (some (true, .ls (o.map .str))) := congrArg some h16
    have k17 : ({ e with x1 := some (true, b2), x17 := some (false, .d (.int (i : Nat))), x18 := some (false, .d (.int (j : Nat))) } : Env).s[17]? = some (some (false, .d (.int (i : Nat)))) := rfl
    have k18 : ({ e with x1 := some (true, b2), x17 := some (false, .d (.int (i : Nat))), x18 := some (false, .d (.int (j : Nat))) } : Env).s[18]? = some (some (false, .d (.int (j : Nat)))) := rfl
    have z1 : ixA (.ls (o.map D.str)) (.d (.int (i : Nat))) = some (.d (.str o[i])) := ix_ls (by simp [hi])
    have z2 : ixA (.ls (o.map D.str)) (.d (.int (j : Nat))) = some (.d (.str o[j])) := ix_ls (by simp [hj])
    have p3 : (mTup (mCons (mIx (mV 16) (mV 18)) (mCons (mIx (mV 16) (mV 17)) mNil))) { e with x1 := some (true, b2), x17 := some (false, .d (.int (i : Nat))), x18 := some (false, .d (.int (j : Nat))) }.s = some (.val false (.d (.tup [.str o[j], .str o[i]])), { e with x1 := some (true, b2), x17 := some (false, .d (.int (i : Nat))), x18 := some (false, .d (.int (j : Nat))) }.s) := by
      generalize ({ e with x1 := some (true, b2), x17 := some (false, .d (.int (i : Nat))), x18 := some (false, .d (.int (j : Nat))) } : Env).s = s at k16 k17 k18 ⊢
      simp (implicitDefEqProofs := false) only [run_mTup, run_mCons, run_mIx, run_mV, k16, k17, k18, peekO_some, obind_some, run_bnd, rv_peek, rvO_some, ixO_d z1, ixO_d z2, run_mNil, run_ret, ods_cons, ods_nil, od_d, ocons_some]
      rfl
    have l1 : i < (o.map D.str).length := by rw [List.length_map]; exact hi
    have l2 : j < ((o.map D.str).set i (.str o[j])).length := by rw [List.length_set, List.length_map]; exact hj
    have p4 := run_swap (s4 := []) (j := 16) (mi := mV 17) (mk := mV 18) p3 rv_val (congrArg isL k16) (mV_run k17) (rv_run k17) k16 (set_ls l1) rfl (mV_run rfl) (rv_run (p := (false, A.d (.int (j : Nat)))) rfl) rfl (set_ls l2)
    refine ⟨b2, (o.set i o[j]).set j o[i], some (false, .d (.int (i : Nat))), some (false, .d (.int (j : Nat))), ?_, B2, List.set_set_perm hi hj⟩
    rw [p4, List.map_set, List.map_set]
    rfl
  · rw [decide_eq_false hl] at c
    rw [if_f c]
    exact ⟨b, o, e.x17, e.x18, by rw [← h1, ← h16]; rfl, B, List.Perm.refl _⟩
def mMixed : SM Fl := (sFor (.nm 10) (mIter (mV 5)) mMix1)
theorem mixed_run {b : A} (h : Kn rs q f e) (B : BoxOk b) (h1 : e.x1 = some (true, b)) (h15 : e.x15 = some (true, .ls [])) : ∃ (b' : A) (ms : List (List Str)) (y10 y16 y17 y18 : Slot), mMixed e.s = some (.nx, { e with x1 := some (true, b'), x10 := y10, x15 := some (true, .ls (ms.map encO)), x16 := y16, x17 := y17, x18 := y18 }.s) ∧ BoxOk b' ∧
    ms.map List.length = rs.map List.length ∧ ms.flatten.Perm rs.flatten := by
  obtain ⟨s', e1, b', ms, y10, y16, y17, y18, es, B', hlen, hp⟩ := forL_ok (t := .nm 10) (b := mMix1) (its := rs.map (fun o => A.d (encO o))) (s := e.s)
    (fun i s => ∃ (b' : A) (ms : List (List Str)) (y10 y16 y17 y18 : Slot), s = { e with x1 := some (true, b'), x10 := y10, x15 := some (true, .ls (ms.map encO)), x16 := y16, x17 := y17, x18 := y18 }.s ∧ BoxOk b' ∧ ms.map List.length = (rs.take i).map List.length ∧ ms.flatten.Perm (rs.take i).flatten)
    ⟨b, [], e.x10, e.x16, e.x17, e.x18, by rw [← h1, List.map_nil, ← h15], B, by simp, by simp⟩ (fun i a s ea ⟨b', ms, y10, y16, y17, y18, es, B', hlen, hp⟩ => by
      rw [List.getElem?_map] at ea
      cases eo : rs[i]? with
      | none => rw [eo] at ea; cases ea
      | some o =>
        rw [eo] at ea
        cases ea
        subst es
        have ho := h.six o (List.mem_of_getElem? eo)
        have hl := h.len
        have hml : ms.length ≤ 5 := by
          have := congrArg List.length hlen
          simp only [List.length_map, List.length_take] at this
          omega
        have t1 : sSet 16 (mN (f1 listA) (mCons (mV 10) mNil)) ({ e with x1 := some (true, b'), x10 := some (false, .d (encO o)), x15 := some (true, .ls (ms.map encO)), x16 := y16, x17 := y17, x18 := y18 } : Env).s = some (.nx, { e with x1 := some (true, b'), x10 := some (false, .d (encO o)), x15 := some (true, .ls (ms.map encO)), x16 := some (true, .ls (o.map .str)), x17 := y17, x18 := y18 }.s) := by
          have e1 : mN (f1 listA) (mCons (mV 10) mNil) ({ e with x1 := some (true, b'), x10 := some (false, .d (encO o)), x15 := some (true, .ls (ms.map encO)), x16 := y16, x17 := y17, x18 := y18 } : Env).s = some (.val true (.ls (o.map .str)), ({ e with x1 := some (true, b'), x10 := some (false, .d (encO o)), x15 := some (true, .ls (ms.map encO)), x16 := y16, x17 := y17, x18 := y18 } : Env).s) := (arg1 (fi := false) (a := .d (encO o)) rfl).trans rfl
          rw [set_own e1 (by simp [Env.s])]
          rfl
        obtain ⟨b2, o', z17, z18, e2, B2, hp2⟩ := swap_run (e := { e with x1 := some (true, b'), x10 := some (false, .d (encO o)), x15 := some (true, .ls (ms.map encO)), x16 := some (true, .ls (o.map .str)), x17 := y17, x18 := y18 }) B' rfl rfl ho
        have e3 : mN (f1 tupleA) (mCons (mV 16) mNil) ({ e with x1 := some (true, b2), x10 := some (false, .d (encO o)), x15 := some (true, .ls (ms.map encO)), x16 := some (true, .ls (o'.map .str)), x17 := z17, x18 := z18 } : Env).s = some (.val false (.d (encO o')), ({ e with x1 := some (true, b2), x10 := some (false, .d (encO o)), x15 := some (true, .ls (ms.map encO)), x16 := some (true, .ls (o'.map .str)), x17 := z17, x18 := z18 } : Env).s) := (arg1 (fi := true) (a := .ls (o'.map .str)) rfl).trans rfl
        have e4 := run_append (j := 15) (s := ({ e with x1 := some (true, b2), x10 := some (false, .d (encO o)), x15 := some (true, .ls (ms.map encO)), x16 := some (true, .ls (o'.map .str)), x17 := z17, x18 := z18 } : Env).s) (a := .d (encO o')) (l := .ls (ms.map encO)) (l' := .ls ((ms ++ [o']).map encO)) rfl e3 rfl rfl (by
          show (if szB _ then some (A.ls _) else none) = _
          rw [if_pos (szB_of (by rw [List.length_map]; omega))]
          simp)
        have et : rs.take (i + 1) = rs.take i ++ [o] := by rw [List.take_add_one, eo]; rfl
        refine ⟨_, _, putI_nm (by simp [Env.s]), (by
          show mMix1 ({ e with x1 := some (true, b'), x10 := some (false, .d (encO o)), x15 := some (true, .ls (ms.map encO)), x16 := y16, x17 := y17, x18 := y18 } : Env).s = _
          unfold mMix1
          rw [seq_nx t1, seq_nx e2, run_sExpr, e4]
          rfl), b2, ms ++ [o'], some (false, .d (encO o)), some (true, .ls (o'.map .str)), z17, z18, rfl, B2, ?_, ?_⟩
        · rw [et, List.map_append, List.map_append, hlen]
          simp [hp2.length_eq]
        · rw [et, List.flatten_append, List.flatten_append]
          refine hp.append ?_
          simpa using hp2)
  rw [List.length_map, List.take_length] at hlen hp
  refine ⟨b', ms, y10, y16, y17, y18, ?_, B', hlen, hp⟩
  unfold mMixed
  rw [run_sFor, iter5 h, obind_some, e1, es]
end
/-! ### lists of lists of places -/
def valL (w : Nat → List D) (n : Nat) : A := if n = 0 then .ls [] else .lst ((List.range n).map fun g => .ls (w g))
theorem valL_app {w : Nat → List D} {n : Nat} (hn : n ≤ 1000) : appA (valL w n) (.ls (w n)) = some (valL w (n + 1)) := by
  by_cases h : n = 0
  · subst h
    rfl
  · unfold valL
    rw [if_neg h, if_neg (Nat.succ_ne_zero n), List.range_succ, List.map_append]
    show (if szB _ then some (A.lst _) else none) = _
    rw [if_pos (szB_of (by simp; omega))]
    rfl
theorem toPDs_ints (ns : List Nat) : toPDs (ns.map fun n => D.int (n : Nat)) = some (ns.map fun n => PyData.int (n : Nat)) := toPDs_map fun n _ => toPD_int
theorem toPs_valL {w : Nat → List Nat} : ∀ (gs : List Nat), toPs (gs.map fun g => A.ls ((w g).map fun n => D.int (n : Nat))) = some (gs.map fun g => PyData.list ((w g).map fun n => PyData.int (n : Nat)))
  | [] => by simp [toPs]
  | g :: gs => by
    rw [List.map_cons, List.map_cons]
    unfold toPs
    have e : toP (A.ls ((w g).map fun n => D.int (n : Nat))) = some (PyData.list ((w g).map fun n => PyData.int (n : Nat))) := by
      unfold toP
      rw [toPDs_ints]
      rfl
    rw [e, toPs_valL gs]
theorem flat_ints (ns : List Nat) : PyData.depthAll (ns.map fun n => PyData.int (n : Nat)) = 0 ∧ PyData.canLayAll0 (ns.map fun n => PyData.int (n : Nat)) = true ∧ PyData.eqvAll (ns.map fun n => PyData.int (n : Nat)) (ns.map fun n => PyData.int (n : Nat)) = true := by
  induction ns with
  | nil => simp [PyData.depthAll, PyData.canLayAll0, PyData.eqvAll]
  | cons n r ih => simp [PyData.depthAll, PyData.canLayAll0, PyData.eqvAll, PyData.depth, PyData.canLay0, PyData.eqv, ih]
theorem lists_ints {w : Nat → List Nat} (gs : List Nat) : PyData.depthAll (gs.map fun g => PyData.list ((w g).map fun n => PyData.int (n : Nat))) ≤ 1 ∧ PyData.canLayAll0 (gs.map fun g => PyData.list ((w g).map fun n => PyData.int (n : Nat))) = true ∧
    PyData.eqvAll (gs.map fun g => PyData.list ((w g).map fun n => PyData.int (n : Nat))) (gs.map fun g => PyData.list ((w g).map fun n => PyData.int (n : Nat))) = true := by
  induction gs with
  | nil => simp [PyData.depthAll, PyData.canLayAll0, PyData.eqvAll]
  | cons g r ih =>
    obtain ⟨a, b, c⟩ := flat_ints (w g)
    simp [PyData.depthAll, PyData.canLayAll0, PyData.eqvAll, PyData.depth, PyData.canLay0, PyData.eqv, ih, a, b, c]
theorem neA_valL {w : Nat → List Nat} {n : Nat} : neA (valL (fun g => (w g).map fun n => D.int (n : Nat)) n) (valL (fun g => (w g).map fun n => D.int (n : Nat)) n) = some false := by
  obtain ⟨a, b, c⟩ := lists_ints (w := w) (List.range n)
  have e : toP (valL (fun g => (w g).map fun n => D.int (n : Nat)) n) = some (.list ((List.range n).map fun g => PyData.list ((w g).map fun n => PyData.int (n : Nat)))) := by
    unfold valL
    by_cases h : n = 0
    · subst h
      simp [toP, toPDs]
    · rw [if_neg h]
      unfold toP
      rw [toPs_valL]
      rfl
  have sh : SeqAt.shaped (.list ((List.range n).map fun g => PyData.list ((w g).map fun n => PyData.int (n : Nat)))) = true := by
    unfold SeqAt.shaped PyData.canLay0 PyData.depth
    rw [b, Bool.true_and]
    exact decide_eq_true (by omega)
  unfold neA eqA
  simp only [e, sh, Bool.and_self, if_true]
  unfold PyData.eqv
  rw [c]
  rfl
end MM
namespace MM
open PySem PySem.Spec PyProof.Rows L2

theorem rest13' (e : Env) (y3 : Slot) : restA [13] e.s { e with x13 := none, x3 := y3 }.s = { e with x13 := rs1 e.x13, x3 := y3 }.s := by
  obtain ⟨a0, a1, a2, a3, a4, a5, a6, a7, a8, a9, a10, a11, a12, a13, a14, a15, a16, a17, a18, a19, a20⟩ := e
  cases a13 with
  | none => rfl
  | some p => obtain ⟨fl, a⟩ := p; cases fl <;> rfl
/-- the places that go through, group by group: over the groups in slot j, by the names in slot m -/
def mThrough (j m : Nat) : SM R := (mComp [13] (mRange1 (mCons (mN (f1 lenA) (mCons (mV j) mNil)) mNil)) (.nm 13) tYesM (mComp [3] (mRange1 (mCons (mN (f1 lenA) (mCons (mIx (mV j) (mV 13)) mNil)) mNil)) (.nm 3) (tCmpM inA (mIx (mIx (mV j) (mV 13)) (mV 3)) (mV m)) (mV 3)))
def wN (rs : List (List Str)) (q f : Nat) (g : Nat) : List Nat := (List.range ((rs.map List.length).getD g 0)).filter fun k => thruV (rs.map List.length) (k + 1) q f g
section
variable {rs : List (List Str)} {q f : Nat}
theorem through_run {j m : Nat} {e : Env} {a : A} {fm : Bool} (hj : ∀ (y3 y13 : Slot), ∃ fl, ({ e with x3 := y3, x13 := y13 } : Env).s[j]? = some (some (fl, a)) ) (ha : a = .d (encR rs) ∨ a = .ls (rs.map encO)) (hm : ∀ (y3 y13 : Slot), ({ e with x3 := y3, x13 := y13 } : Env).s[m]? = some (some (fm, .d (encO (dueL rs q f)))))
    (sk : Sk rs) (len : rs.length ≤ 5) (six : ∀ o ∈ rs, o.length ≤ 6) (nd : rs.flatten.Nodup) (dok : ∀ x ∈ dueL rs q f, PyData.strOk x = true) :
    ∃ y3, mThrough j m e.s = some (.val true (valL (fun g => (wN rs q f g).map fun n => D.int (n : Nat)) rs.length), { e with x3 := y3, x13 := rs1 e.x13 }.s) := by
  have hlen : lenA a = some (.i (rs.length : Nat)) := by
    rcases ha with rfl | rfl
    · show some (A.i ((rs.map encO).length : Nat)) = _
      rw [List.length_map]
    · show some (A.i ((rs.map encO).length : Nat)) = _
      rw [List.length_map]
  have hix : ∀ {g : Nat} {o : List Str}, rs[g]? = some o → ixA a (.d (.int (g : Nat))) = some (.d (encO o)) := fun {g o} h1 => by
    rcases ha with rfl | rfl
    · exact ix_nat (by rw [List.getElem?_map, h1]; rfl)
    · exact ix_ls (by rw [List.getElem?_map, h1]; rfl)
  have i1 : mRange1 (mCons (mN (f1 lenA) (mCons (mV j) mNil)) mNil) e.s = some (rangeL 0 rs.length, e.s) := by
    obtain ⟨fl, gj⟩ := hj e.x3 e.x13
    have gj : e.s[j]? = some (some (fl, a)) := gj
    have e1 : mN (f1 lenA) (mCons (mV j) mNil) e.s = some (.val false (.d (.int (rs.length : Nat))), e.s) := by
      rw [arg1 gj, f1_one, hlen]
      rfl
    have := run_range1 e1 rfl (rgB_of (by omega) (by omega))
    rw [this, Int.toNat_natCast]
  -- one group
  have one : ∀ (g : Nat) (o : List Str) (y3 : Slot), rs[g]? = some o → (mComp [3] (mRange1 (mCons (mN (f1 lenA) (mCons (mIx (mV j) (mV 13)) mNil)) mNil)) (.nm 3) (tCmpM inA (mIx (mIx (mV j) (mV 13)) (mV 3)) (mV m)) (mV 3)) { e with x3 := y3, x13 := some (false, .d (.int (g : Nat))) }.s =
      some (.val true (.ls ((wN rs q f g).map fun n => D.int (n : Nat))), { e with x3 := rs1 y3, x13 := some (false, .d (.int (g : Nat))) }.s) := fun g o y3 h1 => by
    have hx := hix h1
    have ho := six o (List.mem_of_getElem? h1)
    have ix1 : ∀ y3 : Slot, (mIx (mV j) (mV 13)) ({ e with x3 := y3, x13 := some (false, .d (.int (g : Nat))) } : Env).s = some (.val false (.d (encO o)), { e with x3 := y3, x13 := some (false, .d (.int (g : Nat))) }.s) := fun y3 => by
      obtain ⟨fl, gj⟩ := hj y3 (some (false, .d (.int (g : Nat))))
      have g13 : ({ e with x3 := y3, x13 := some (false, .d (.int (g : Nat))) } : Env).s[13]? = some (some (false, .d (.int (g : Nat)))) := rfl
      generalize ({ e with x3 := y3, x13 := some (false, .d (.int (g : Nat))) } : Env).s = s at gj g13 ⊢
      simp (implicitDefEqProofs := false) only [run_mIx, run_mV, gj, g13, peekO_some, obind_some, run_bnd, rv_peek, rvO_some, ixO_d hx]
    have i2 : mRange1 (mCons (mN (f1 lenA) (mCons (mIx (mV j) (mV 13)) mNil)) mNil) ({ e with x3 := y3, x13 := some (false, .d (.int (g : Nat))) } : Env).s = some ((List.range o.length).map (fun k : Nat => A.d (.int ((0 : Int) + (k : Nat)))), { e with x3 := y3, x13 := some (false, .d (.int (g : Nat))) }.s) := by
      have e2 := one1 (F := f1 lenA) (ix1 y3)
      rw [f1_one, len_encO] at e2
      have := run_range1 (i := (o.length : Nat)) e2 rfl (rgB_of (by omega) (by omega))
      rw [this, Int.toNat_natCast]
      rfl
    have := comp3 (e := { e with x3 := y3, x13 := some (false, .d (.int (g : Nat))) }) (p := fun k => thruV (rs.map List.length) (k + 1) q f g) (g := fun k => D.int (k : Nat)) (tt := tCmpM inA (mIx (mIx (mV j) (mV 13)) (mV 3)) (mV m)) (te := mV 3) i2 (fun k hk => by
      have hk := List.mem_range.mp hk
      have h2 : o[k]? = some o[k] := List.getElem?_eq_getElem hk
      rw [Int.zero_add]
      refine ⟨?_, fun _ => ⟨_, rfl, rfl⟩⟩
      have gm := hm (some (false, .d (.int (k : Nat)))) (some (false, .d (.int (g : Nat))))
      have g3 : ({ e with x3 := some (false, .d (.int (k : Nat))), x13 := some (false, .d (.int (g : Nat))) } : Env).s[3]? = some (some (false, .d (.int (k : Nat)))) := rfl
      have ixx := ix1 (some (false, .d (.int (k : Nat))))
      have i2 : ixA (.d (encO o)) (.d (.int (k : Nat))) = some (.d (.str o[k])) := ix_str h2
      have hin : inA (.d (.str o[k])) (.d (encO (dueL rs q f))) = some (thruV (rs.map List.length) (k + 1) q f g) := by
        unfold encO
        rw [inA_strs (sk o (List.mem_of_getElem? h1) _ (List.getElem_mem hk)) dok, any_due sk six nd h1 h2]
      show tCmpM inA (mIx (mIx (mV j) (mV 13)) (mV 3)) (mV m) ({ e with x3 := some (false, .d (.int (k : Nat))), x13 := some (false, .d (.int (g : Nat))) } : Env).s = _
      generalize mIx (mV j) (mV 13) = mm at ixx ⊢
      generalize ({ e with x3 := some (false, .d (.int (k : Nat))), x13 := some (false, .d (.int (g : Nat))) } : Env).s = s at gm g3 ixx ⊢
      simp (implicitDefEqProofs := false) only [run_tCmpM, run_mIx, ixx, obind_some, run_bnd, run_mV, g3, gm, peekO_some, rv_val, rv_peek, rvO_some, ixO_d i2, run_cmp2, bind2_some, hin, okB_some]) (by simp; omega)
    rw [this]
    have ew : wN rs q f g = (List.range o.length).filter fun k => thruV (rs.map List.length) (k + 1) q f g := by
      unfold wN
      have : (rs.map List.length).getD g 0 = o.length := by simp [List.getD_eq_getElem?_getD, h1]
      rw [this]
    rw [ew]
  obtain ⟨l', s', e2, y3, el, es⟩ := compL_ok (ws := [13]) (t := .nm 13) (tt := tYesM) (te := mComp [3] (mRange1 (mCons (mN (f1 lenA) (mCons (mIx (mV j) (mV 13)) mNil)) mNil)) (.nm 3) (tCmpM inA (mIx (mIx (mV j) (mV 13)) (mV 3)) (mV m)) (mV 3)) (its := rangeL 0 rs.length) (l := .ls []) (s := { e with x13 := none }.s)
    (fun i l s => ∃ (y3 : Slot), l = valL (fun g => (wN rs q f g).map fun n => D.int (n : Nat)) i ∧ s = { e with x13 := none, x3 := y3 }.s) ⟨e.x3, rfl, rfl⟩ (fun i b l s eb ⟨y3, el, es⟩ => by
      have hi : i < rs.length := by
        have := (List.getElem?_eq_some_iff.mp eb).1
        rwa [rangeL_len] at this
      rw [rangeL_get hi] at eb
      cases eb
      rw [Int.zero_add]
      subst el es
      refine ⟨{ e with x3 := y3, x13 := some (false, .d (.int (i : Nat))) }.s, true, _, putI_nm (s := { e with x13 := none, x3 := y3 }.s) (j := 13) (by simp [Env.s]), rfl, fun _ => ⟨_, _, _, _, one i rs[i] y3 (List.getElem?_eq_getElem hi), rfl, valL_app (w := fun g => (wN rs q f g).map fun n => D.int (n : Nat)) (by omega), rs1 y3, rfl, rfl⟩, fun z => by cases z⟩)
  subst el es
  rw [rangeL_len] at e2
  refine ⟨y3, ?_⟩
  unfold mThrough
  have ec := run_comp (ws := [13]) i1 e2
  rw [ec]
  have ef : ∀ n w, fin (valL w n) = .val true (valL w n) := fun n w => by
    unfold valL
    split <;> rfl
  rw [ef, rest13' e y3]
end
/-! ### one turn -/
section
variable {rs : List (List Str)} {q f : Nat} {e : Env} {b : A} {C : SM Fl}
theorem Kn.to {e' : Env} (h : Kn rs q f e) (h5 : e'.x5 = e.x5) (h7 : e'.x7 = e.x7) (h8 : e'.x8 = e.x8) : Kn rs q f e' := ⟨h5.trans h.h5, h7.trans h.h7, h8.trans h.h8, h.sk, h.len, h.six, h.nd⟩
theorem turnA (h : Kn rs q f e) : ∃ e' : Env, (sSeq (sSet 9 (mN (fN 3 F__law_going) (mCons (mV 5) (mCons (mV 7) (mCons (mV 8) mNil)))))
    (sSeq (sIf (tNotM (mTru (mN (fN 2 (F__law_same 70)) (mCons (mN (fN 3 F_going_on) (mCons (mV 5) (mCons (mV 7) (mCons (mV 8) mNil)))) (mCons (mV 9) mNil))))) (sRet (mC (.bl false))) sNop)
    (sSeq (sSet 11 (mN (f1 sumA) (mCons (mComp [10] (mIter (mV 5)) (.nm 10) tYesM (mN (f2 min2A) (mCons (mV 7) (mCons (mN (f1 lenA) (mCons (mV 10) mNil)) mNil)))) mNil)))
    (sSeq (sIf (tCmpM neA (mN (f1 lenA) (mCons (mV 9) mNil)) (m2 addA (mV 11) (mN (f2 min2A) (mCons (mV 8) (mCons (m2 subA (mN (f1 sumA) (mCons (mComp [10] (mIter (mV 5)) (.nm 10) tYesM (mN (f1 lenA) (mCons (mV 10) mNil))) mNil)) (mV 11)) mNil))))) (sRet (mC (.bl false))) sNop) C)))) e.s = C e'.s ∧ Kn rs q f e' ∧ e'.x9 = X9 rs q f ∧ e'.x1 = e.x1 ∧ e'.x0 = e.x0 := by
  have k1 : Kn rs q f { e with x9 := X9 rs q f } := h.to rfl rfl rfl
  have k2 : Kn rs q f { e with x9 := X9 rs q f, x10 := rs1 e.x10, x11 := some (false, .d (.int ((sureN rs q : Nat) : Int))) } := h.to rfl rfl rfl
  rw [seq_nx (st_due h), seq_nx (st_same k1 rfl), seq_nx (st_sure k1), seq_nx (st_count k2 rfl rfl)]
  exact ⟨_, rfl, h.to rfl rfl rfl, rfl, rfl, rfl⟩
theorem turnB (h : Kn rs q f e) (h9 : e.x9 = X9 rs q f) : ∃ e' : Env, (sSeq (sSet 12 (mN (f1 tupleA) (mCons (mComp [10] (mIter (mV 5)) (.nm 10) tYesM (mN (f1 lenA) (mCons (mV 10) mNil))) mNil)))
    (sSeq mPlaces (sSeq (sSet 15 (mLst mNil)) C))) e.s = C e'.s ∧ Kn rs q f e' ∧ e'.x9 = X9 rs q f ∧ e'.x1 = e.x1 ∧ e'.x0 = e.x0 ∧ e'.x15 = some (true, .ls []) := by
  have k1 : Kn rs q f { e with x10 := rs1 e.x10, x12 := some (false, .d (encN (rs.map List.length))) } := h.to rfl rfl rfl
  obtain ⟨y3, y13, y14, r4⟩ := places_run k1 h9 rfl
  rw [seq_nx (st_sizes h), seq_nx r4]
  have r5 : ∀ e : Env, sSet 15 (mLst mNil) e.s = some (.nx, { e with x15 := some (true, .ls []) }.s) := fun e => rfl
  rw [seq_nx (r5 _)]
  exact ⟨_, rfl, h.to rfl rfl rfl, h9, rfl, rfl, rfl⟩
/-- the other groups -/
structure Ot (rs ms : List (List Str)) : Prop where
  hl : ms.map List.length = rs.map List.length
  sk : Sk ms
  len : ms.length ≤ 5
  six : ∀ o ∈ ms, o.length ≤ 6
  nd : ms.flatten.Nodup
theorem turnC (h : Kn rs q f e) (h9 : e.x9 = X9 rs q f) (B : BoxOk b) (h1 : e.x1 = some (true, b)) (h15 : e.x15 = some (true, .ls [])) : ∃ (e' : Env) (b' : A) (ms : List (List Str)), (sSeq mMixed
    (sSeq (sSet 19 (mN (fN 3 F_going_on) (mCons (mN (f1 tupleA) (mCons (mV 15) mNil)) (mCons (mV 7) (mCons (mV 8) mNil))))) C)) e.s = C e'.s ∧ Kn rs q f e' ∧ e'.x9 = X9 rs q f ∧ BoxOk b' ∧ e'.x1 = some (true, b') ∧ e'.x0 = e.x0 ∧ e'.x15 = some (true, .ls (ms.map encO)) ∧ e'.x19 = X9 ms q f ∧ Ot rs ms := by
  obtain ⟨b', ms, y10, y16, y17, y18, r6, B', hl, hp⟩ := mixed_run h B h1 h15
  rw [seq_nx r6]
  have k7 : Kn rs q f { e with x1 := some (true, b'), x10 := y10, x15 := some (true, .ls (ms.map encO)), x16 := y16, x17 := y17, x18 := y18 } := h.to rfl rfl rfl
  have n7 : ({ e with x1 := some (true, b'), x10 := y10, x15 := some (true, .ls (ms.map encO)), x16 := y16, x17 := y17, x18 := y18 } : Env).x9 = X9 rs q f := h9
  have b7 : ({ e with x1 := some (true, b'), x10 := y10, x15 := some (true, .ls (ms.map encO)), x16 := y16, x17 := y17, x18 := y18 } : Env).x1 = some (true, b') := rfl
  have z7 : ({ e with x1 := some (true, b'), x10 := y10, x15 := some (true, .ls (ms.map encO)), x16 := y16, x17 := y17, x18 := y18 } : Env).x0 = e.x0 := rfl
  have s7 : ({ e with x1 := some (true, b'), x10 := y10, x15 := some (true, .ls (ms.map encO)), x16 := y16, x17 := y17, x18 := y18 } : Env).x15 = some (true, .ls (ms.map encO)) := rfl
  generalize ({ e with x1 := some (true, b'), x10 := y10, x15 := some (true, .ls (ms.map encO)), x16 := y16, x17 := y17, x18 := y18 } : Env) = e7 at k7 n7 b7 z7 s7 ⊢
  have skm : Sk ms := fun o ho x hx => by
    have hm : x ∈ rs.flatten := hp.mem_iff.mp (List.mem_flatten.mpr ⟨o, ho, hx⟩)
    obtain ⟨o', ho', hx'⟩ := List.mem_flatten.mp hm
    exact h.sk o' ho' x hx'
  have lenm : ms.length ≤ 5 := by
    have := congrArg List.length hl
    simp only [List.length_map] at this
    have := h.len
    omega
  have sixm : ∀ o ∈ ms, o.length ≤ 6 := fun o ho => by
    have : o.length ∈ ms.map List.length := List.mem_map.mpr ⟨o, ho, rfl⟩
    rw [hl] at this
    obtain ⟨o', ho', e⟩ := List.mem_map.mp this
    rw [← e]
    exact h.six o' ho'
  have r7 : sSet 19 (mN (fN 3 F_going_on) (mCons (mN (f1 tupleA) (mCons (mV 15) mNil)) (mCons (mV 7) (mCons (mV 8) mNil)))) e7.s = some (.nx, { e7 with x19 := X9 ms q f }.s) := by
    have t1 : mN (f1 tupleA) (mCons (mV 15) mNil) e7.s = some (.val false (.d (encR ms)), e7.s) := (arg1 (congrArg some s7)).trans rfl
    have g7 : e7.s[7]? = some (some (false, .d (.int q))) := congrArg some k7.h7
    have g8 : e7.s[8]? = some (some (false, .d (.int f))) := congrArg some k7.h8
    have e1 : mN (fN 3 F_going_on) (mCons (mN (f1 tupleA) (mCons (mV 15) mNil)) (mCons (mV 7) (mCons (mV 8) mNil))) e7.s = some (.val false (.d (encO (dueL ms q f))), e7.s) := by
      generalize mN (f1 tupleA) (mCons (mV 15) mNil) = mm at t1 ⊢
      have gk := going_ok (q := q) (f := f) skm (by omega) sixm
      generalize F_going_on = F at gk ⊢
      simp (implicitDefEqProofs := false) only [run_mN, run_mCons, t1, run_mV, g7, g8, peekO_some, obind_some, run_bnd, run_mNil, run_ret, run_appN, rvs_cons, rvs_nil, rv_val, rv_peek, rvO_some, ocons_some, Option.bind_some, fN3, gk, ofin_some, fin_d]
      rfl
    rw [set_d e1 (by simp [Env.s])]
    rfl
  rw [seq_nx r7]
  exact ⟨_, b', ms, rfl, k7.to rfl rfl rfl, n7, B', b7, z7, s7, rfl, hl, skm, lenm, sixm, hp.nodup_iff.mpr h.nd⟩
/-- the two answers stand alike -/
theorem turnD {T1 T2 : SM R} {vv : A} {w3 w13 : Slot} (r8 : T1 e.s = some (.val true vv, { e with x3 := w3, x13 := w13 }.s)) (r10 : ∃ w4 w14 : Slot, T2 { e with x3 := w3, x13 := w13, x20 := some (true, vv) }.s = some (.val true vv, { e with x3 := w4, x13 := w14, x20 := some (true, vv) }.s)) (nv : neA vv vv = some false) :
    ∃ e' : Env, sSeq (sSet 20 T1) (sIf (tCmpM neA T2 (mV 20)) (sRet (mC (.bl false))) sNop) e.s = some (.nx, e'.s) ∧ e'.x1 = e.x1 ∧ e'.x0 = e.x0 := by
  obtain ⟨w4, w14, r10⟩ := r10
  have r9 : sSet 20 T1 e.s = some (.nx, { e with x3 := w3, x13 := w13, x20 := some (true, vv) }.s) := by
    rw [set_own (j := 20) r8 (by simp [Env.s])]
    rfl
  have g20 : ({ e with x3 := w4, x13 := w14, x20 := some (true, vv) } : Env).s[20]? = some (some (true, vv)) := rfl
  refine ⟨{ e with x3 := w4, x13 := w14, x20 := some (true, vv) }, ?_, rfl, rfl⟩
  rw [seq_nx r9, run_sIf, run_tCmpM, r10, obind_some, run_bnd, run_mV, g20, peekO_some, obind_some, run_cmp2, rv_val, rv_peek, g20, rvO_some, bind2_some, nv, okB_some, obind_some, iteM_f, run_sNop]
theorem turnE {ms : List (List Str)} (h : Kn rs q f e) (h9 : e.x9 = X9 rs q f) (h15 : e.x15 = some (true, .ls (ms.map encO))) (h19 : e.x19 = X9 ms q f) (O : Ot rs ms) :
    ∃ e' : Env, sSeq (sSet 20 (mThrough 5 9)) (sIf (tCmpM neA (mThrough 15 19) (mV 20)) (sRet (mC (.bl false))) sNop) e.s = some (.nx, e'.s) ∧ e'.x1 = e.x1 ∧ e'.x0 = e.x0 := by
  have hj8 : ∀ (y3 y13 : Slot), ∃ fl, ({ e with x3 := y3, x13 := y13 } : Env).s[5]? = some (some (fl, .d (encR rs))) := fun y3 y13 => ⟨false, congrArg some h.h5⟩
  have hm8 : ∀ (y3 y13 : Slot), ({ e with x3 := y3, x13 := y13 } : Env).s[9]? = some (some (false, .d (encO (dueL rs q f)))) := fun y3 y13 => congrArg some h9
  obtain ⟨w3, r8⟩ := through_run hj8 (.inl rfl) hm8 h.sk h.len h.six h.nd (due_ok h)
  have km : Kn ms q f { e with x5 := some (false, .d (encR ms)) } := ⟨rfl, h.h7, h.h8, O.sk, O.len, O.six, O.nd⟩
  refine turnD r8 ?_ neA_valL
  generalize hv : valL (fun g => (wN rs q f g).map fun n => D.int (n : Nat)) rs.length = vv
  have hj9 : ∀ (y3 y13 : Slot), ∃ fl, ({ e with x3 := y3, x13 := y13, x20 := some (true, vv) } : Env).s[15]? = some (some (fl, .ls (ms.map encO))) := fun y3 y13 => ⟨true, congrArg some h15⟩
  have hm9 : ∀ (y3 y13 : Slot), ({ e with x3 := y3, x13 := y13, x20 := some (true, vv) } : Env).s[19]? = some (some (false, .d (encO (dueL ms q f)))) := fun y3 y13 => congrArg some h19
  obtain ⟨w4, r10⟩ := through_run (e := { e with x3 := w3, x13 := rs1 e.x13, x20 := some (true, vv) }) hj9 (.inr rfl) hm9 O.sk O.len O.six O.nd (due_ok km)
  have ew : (fun g => (wN ms q f g).map fun n => D.int (n : Nat)) = fun g => (wN rs q f g).map fun n => D.int (n : Nat) := by
    funext g
    unfold wN
    rw [O.hl]
  have el : ms.length = rs.length := by
    have := congrArg List.length O.hl
    simpa using this
  rw [ew, el, hv] at r10
  exact ⟨w4, _, r10⟩
end
def mTurn2 : SM Fl := (sSeq (sSet 9 (mN (fN 3 F__law_going) (mCons (mV 5) (mCons (mV 7) (mCons (mV 8) mNil)))))
    (sSeq (sIf (tNotM (mTru (mN (fN 2 (F__law_same 70)) (mCons (mN (fN 3 F_going_on) (mCons (mV 5) (mCons (mV 7) (mCons (mV 8) mNil)))) (mCons (mV 9) mNil))))) (sRet (mC (.bl false))) sNop)
    (sSeq (sSet 11 (mN (f1 sumA) (mCons (mComp [10] (mIter (mV 5)) (.nm 10) tYesM (mN (f2 min2A) (mCons (mV 7) (mCons (mN (f1 lenA) (mCons (mV 10) mNil)) mNil)))) mNil)))
    (sSeq (sIf (tCmpM neA (mN (f1 lenA) (mCons (mV 9) mNil)) (m2 addA (mV 11) (mN (f2 min2A) (mCons (mV 8) (mCons (m2 subA (mN (f1 sumA) (mCons (mComp [10] (mIter (mV 5)) (.nm 10) tYesM (mN (f1 lenA) (mCons (mV 10) mNil))) mNil)) (mV 11)) mNil))))) (sRet (mC (.bl false))) sNop)
    (sSeq (sSet 12 (mN (f1 tupleA) (mCons (mComp [10] (mIter (mV 5)) (.nm 10) tYesM (mN (f1 lenA) (mCons (mV 10) mNil))) mNil)))
    (sSeq mPlaces
    (sSeq (sSet 15 (mLst mNil))
    (sSeq mMixed
    (sSeq (sSet 19 (mN (fN 3 F_going_on) (mCons (mN (f1 tupleA) (mCons (mV 15) mNil)) (mCons (mV 7) (mCons (mV 8) mNil)))))
    (sSeq (sSet 20 (mThrough 5 9))
    (sIf (tCmpM neA (mThrough 15 19) (mV 20)) (sRet (mC (.bl false))) sNop)))))))))))
theorem turn2_run {rs : List (List Str)} {q f : Nat} {e : Env} {b : A} (h : Kn rs q f e) (B : BoxOk b) (h1 : e.x1 = some (true, b)) : ∃ (b' : A) (e' : Env), mTurn2 e.s = some (.nx, e'.s) ∧ BoxOk b' ∧ e'.x1 = some (true, b') ∧ e'.x0 = e.x0 := by
  unfold mTurn2
  obtain ⟨e1, r1, k1, n1, b1, z1⟩ := turnA h
  obtain ⟨e2, r2, k2, n2, b2, z2, s2⟩ := turnB k1 n1
  obtain ⟨e3, b', ms, r3, k3, n3, B3, b3, z3, s3, u3, O⟩ := turnC k2 n2 B (b2.trans (b1.trans h1)) s2
  obtain ⟨e4, r4, b4, z4⟩ := turnE k3 n3 s3 u3 O
  exact ⟨b', e4, r1.trans (r2.trans (r3.trans r4)), B3, b4.trans b3, z4.trans (z3.trans (z2.trans z1))⟩
end MM
namespace MM
open PySem PySem.Spec PyProof.Rows L2

def mTurn : SM Fl := sSeq (sPar [4, 5] (mCons (mUse mNames) (mCons (mUse (mLst mNil)) mNil)))
    (sSeq mGroups
    (sSeq (sSet 5 (mN (f1 tupleA) (mCons (mV 5) mNil)))
    (sSeq (sPar [7, 8] (mCons (mUse (mCallB 2 F__law_draw 1 (mCons (mC (.int 5)) mNil))) (mCons (mUse (mCallB 2 F__law_draw 1 (mCons (mC (.int 5)) mNil))) mNil))) mTurn2)))
theorem turn_run {e : Env} {b : A} (B : BoxOk b) (h1 : e.x1 = some (true, b)) : ∃ (b' : A) (e' : Env), mTurn e.s = some (.nx, e'.s) ∧ BoxOk b' ∧ e'.x1 = some (true, b') ∧ e'.x0 = e.x0 := by
  obtain ⟨a0, a1, a2, a3, a4, a5, a6, a7, a8, a9, a10, a11, a12, a13, a14, a15, a16, a17, a18, a19, a20⟩ := e
  simp only at h1
  subst h1
  show ∃ (b' : A) (e' : Env), mTurn (P1 a0 a2 [a9, a10, a11, a12, a13, a14, a15, a16, a17, a18, a19, a20] b a3 a4 a5 a6 a7 a8) = _ ∧ _ ∧ _ ∧ e'.x0 = a0
  generalize htl : [a9, a10, a11, a12, a13, a14, a15, a16, a17, a18, a19, a20] = tl
  have p1 : (mCons (mUse mNames) (mCons (mUse (mLst mNil)) mNil)) (P1 a0 a2 tl b a3 a4 a5 a6 a7 a8) = some ([.val true (.ls (names30.map .str)), .val true (.ls [])], P1 a0 a2 tl b (rs1 a3) a4 a5 a6 a7 a8) := by
    have e2 : ∀ s : List Slot, mLst mNil s = some (.val true (.ls []), s) := fun s => rfl
    generalize hn : mLst mNil = nn at e2 ⊢
    simp (implicitDefEqProofs := false) only [run_mCons, run_mUse, names_run, obind_some, run_bnd, use_val, run_ret, e2, run_mNil]
  have q1 : sPar [4, 5] (mCons (mUse mNames) (mCons (mUse (mLst mNil)) mNil)) (P1 a0 a2 tl b a3 a4 a5 a6 a7 a8) = some (.nx, P1 a0 a2 tl b (rs1 a3) (some (true, .ls (names30.map .str))) (some (true, .ls [])) a6 a7 a8) := by
    rw [run_sPar p1 rfl (setAll_two (by simp [P1]) (by simp [P1]))]
    rfl
  obtain ⟨b1, y3, lf, rs, y6, q2, B1, hl, h6, hp⟩ := groups_run (x0 := a0) (x2 := a2) (x3 := rs1 a3) (x6 := a6) (x7 := a7) (x8 := a8) (tl := tl) B
  have q3 : sSet 5 (mN (f1 tupleA) (mCons (mV 5) mNil)) (P1 a0 a2 tl b1 y3 (some (true, .ls (lf.map .str))) (some (true, .ls (rs.map encO))) y6 a7 a8) = some (.nx, P1 a0 a2 tl b1 y3 (some (true, .ls (lf.map .str))) (some (false, .d (encR rs))) y6 a7 a8) := by
    have e1 : mN (f1 tupleA) (mCons (mV 5) mNil) (P1 a0 a2 tl b1 y3 (some (true, .ls (lf.map .str))) (some (true, .ls (rs.map encO))) y6 a7 a8) = some (.val false (.d (encR rs)), P1 a0 a2 tl b1 y3 (some (true, .ls (lf.map .str))) (some (true, .ls (rs.map encO))) y6 a7 a8) := (arg1 (fi := true) (a := .ls (rs.map encO)) rfl).trans rfl
    rw [set_d e1 (by simp [P1])]
    rfl
  generalize hx4 : (some (true, A.ls (lf.map .str)) : Slot) = x4 at q2 q3
  generalize hx5 : (some (false, A.d (encR rs)) : Slot) = x5 at q3
  obtain ⟨q, b2, d1, i0, i1, B2⟩ := run_draw (s := P1 a0 a2 tl b1 y3 x4 x5 y6 a7 a8) (j := 1) (b := b1) (i := 5) rfl run_mC rfl rfl B1 (by omega) (by omega)
  have es1 : (P1 a0 a2 tl b1 y3 x4 x5 y6 a7 a8).set 1 (some (true, b2)) = P1 a0 a2 tl b2 y3 x4 x5 y6 a7 a8 := rfl
  rw [es1] at d1
  obtain ⟨f, b3, d2, j0, j1, B3⟩ := run_draw (s := P1 a0 a2 tl b2 y3 x4 x5 y6 a7 a8) (j := 1) (b := b2) (i := 5) rfl run_mC rfl rfl B2 (by omega) (by omega)
  have es2 : (P1 a0 a2 tl b2 y3 x4 x5 y6 a7 a8).set 1 (some (true, b3)) = P1 a0 a2 tl b3 y3 x4 x5 y6 a7 a8 := rfl
  rw [es2] at d2
  obtain ⟨q, rfl⟩ : ∃ n : Nat, q = n := ⟨q.toNat, by omega⟩
  obtain ⟨f, rfl⟩ : ∃ n : Nat, f = n := ⟨f.toNat, by omega⟩
  have q4 : sPar [7, 8] (mCons (mUse (mCallB 2 F__law_draw 1 (mCons (mC (.int 5)) mNil))) (mCons (mUse (mCallB 2 F__law_draw 1 (mCons (mC (.int 5)) mNil))) mNil)) (P1 a0 a2 tl b1 y3 x4 x5 y6 a7 a8) = some (.nx, P1 a0 a2 tl b3 y3 x4 x5 y6 (some (false, .d (.int q))) (some (false, .d (.int f)))) := by
    generalize mCallB 2 F__law_draw 1 (mCons (mC (.int 5)) mNil) = mm at d1 d2 ⊢
    have p : (mCons (mUse mm) (mCons (mUse mm) mNil)) (P1 a0 a2 tl b1 y3 x4 x5 y6 a7 a8) = some ([.val false (.d (.int q)), .val false (.d (.int f))], P1 a0 a2 tl b3 y3 x4 x5 y6 a7 a8) := by
      simp (implicitDefEqProofs := false) only [run_mCons, run_mUse, d1, d2, obind_some, run_bnd, use_val, run_ret, run_mNil]
    rw [run_sPar p rfl (setAll_two (by simp [P1]) (by simp [P1]))]
    rfl
  subst hx5
  have hnd := hp.nodup_iff.mpr names_nodup
  have hk : Kn rs q f ⟨a0, some (true, b3), a2, y3, x4, some (false, .d (encR rs)), y6, some (false, .d (.int q)), some (false, .d (.int f)), a9, a10, a11, a12, a13, a14, a15, a16, a17, a18, a19, a20⟩ :=
    ⟨rfl, rfl, rfl, fun o ho x hx => names_ok x (hp.mem_iff.mp (List.mem_append_left _ (List.mem_flatten.mpr ⟨o, ho, hx⟩))), hl, h6, (List.nodup_append.mp hnd).1⟩
  obtain ⟨b', e', r, B', hb, hz⟩ := turn2_run hk B3 rfl
  refine ⟨b', e', ?_, B', hb, hz⟩
  unfold mTurn
  rw [seq_nx q1, seq_nx q2, seq_nx q3, seq_nx q4]
  subst htl
  exact r
def mEnd : SM Fl := (sRet (mAndV (mN (fN 2 (F__law_same 70)) (mCons (mN (fN 3 F_going_on) (mCons (mTup (mCons (mTup (mCons (mC (.str "a")) (mCons (mC (.str "b")) (mCons (mC (.str "c")) mNil)))) (mCons (mTup (mCons (mC (.str "d")) (mCons (mC (.str "e")) mNil))) mNil))) (mCons (mC (.int 1)) (mCons (mC (.int 2)) mNil)))) (mCons (mTup (mCons (mC (.str "a")) (mCons (mC (.str "d")) (mCons (mC (.str "b")) (mCons (mC (.str "e")) mNil))))) mNil))) (asV (tCmpM isA (mN (fN 5 F_is_through) (mCons (mTup (mCons (mC (.int 3)) (mCons (mC (.int 2)) mNil))) (mCons (mC (.int 2)) (mCons (mC (.int 1)) (mCons (mC (.int 1)) (mCons (mC (.int 0)) mNil)))))) (mC (.bl true))))))
def rs0 : List (List Str) := [["a", "b", "c"], ["d", "e"]]
def l0 : List Str := ["a", "d", "b", "e"]
theorem due0 : dueL rs0 1 2 = l0 := by decide +kernel
theorem sk0 : Sk rs0 := by
  unfold Sk
  decide +kernel
theorem end_run (s : List Slot) : mEnd s = some (.rt false (.d (.bl true)), s) := by
  have g := going_ok (q := 1) (f := 2) sk0 (by decide) (by decide)
  rw [due0] at g
  have ok : okD 70 (encO l0) = true := okO (n := 68) (by decide +kernel) (by decide)
  have sm := same_run 70 _ _ ok ok
  rw [sameO] at sm
  have th := through_ok (ss := [3, 2]) (p := 2) (q := 1) (f := 1) (g := 0) (by decide) (by decide)
  have tv : thruV [3, 2] 2 1 1 0 = true := by decide
  rw [tv] at th
  have t1 : (mTup (mCons (mTup (mCons (mC (.str "a")) (mCons (mC (.str "b")) (mCons (mC (.str "c")) mNil)))) (mCons (mTup (mCons (mC (.str "d")) (mCons (mC (.str "e")) mNil))) mNil))) s = some (.val false (.d (encR rs0)), s) := rfl
  have t2 : (mTup (mCons (mC (.str "a")) (mCons (mC (.str "d")) (mCons (mC (.str "b")) (mCons (mC (.str "e")) mNil))))) s = some (.val false (.d (encO l0)), s) := rfl
  have t3 : (mTup (mCons (mC (.int 3)) (mCons (mC (.int 2)) mNil))) s = some (.val false (.d (encN [3, 2])), s) := rfl
  unfold mEnd
  generalize (mTup (mCons (mTup (mCons (mC (.str "a")) (mCons (mC (.str "b")) (mCons (mC (.str "c")) mNil)))) (mCons (mTup (mCons (mC (.str "d")) (mCons (mC (.str "e")) mNil))) mNil))) = m1 at t1 ⊢
  generalize (mTup (mCons (mC (.str "a")) (mCons (mC (.str "d")) (mCons (mC (.str "b")) (mCons (mC (.str "e")) mNil))))) = m2 at t2 ⊢
  generalize (mTup (mCons (mC (.int 3)) (mCons (mC (.int 2)) mNil))) = m3 at t3 ⊢
  generalize F_going_on = F at g ⊢
  generalize F__law_same 70 = F2 at sm ⊢
  have c1 : mN (fN 2 F2) (mCons (mN (fN 3 F) (mCons m1 (mCons (mC (.int 1)) (mCons (mC (.int 2)) mNil)))) (mCons m2 mNil)) s = some (.val false (.d (.bl true)), s) := by
    have g' : F [.d (encR rs0), .d (.int 1), .d (.int 2)] = some (.d (encO l0)) := g
    generalize encR rs0 = z0 at t1 g'
    generalize encO l0 = z1 at t2 g' sm
    simp (implicitDefEqProofs := false) only [run_mN, run_mCons, t1, t2, run_mC, obind_some, run_bnd, run_mNil, run_ret, run_appN, rvs_cons, rvs_nil, rv_val, ocons_some, Option.bind_some, fN2, fN3, g', ofin_some, fin_d, sm]
  have c2 : mN (fN 5 F_is_through) (mCons m3 (mCons (mC (.int 2)) (mCons (mC (.int 1)) (mCons (mC (.int 1)) (mCons (mC (.int 0)) mNil))))) s = some (.val false (.d (.bl true)), s) := by
    rw [five t3 run_mC run_mC run_mC run_mC rv_val rv_val rv_val rv_val rv_val]
    exact congrArg (fun x => ofin x s) th
  generalize mN (fN 2 F2) (mCons (mN (fN 3 F) (mCons m1 (mCons (mC (.int 1)) (mCons (mC (.int 2)) mNil)))) (mCons m2 mNil)) = n1 at c1 ⊢
  generalize mN (fN 5 F_is_through) (mCons m3 (mCons (mC (.int 2)) (mCons (mC (.int 1)) (mCons (mC (.int 1)) (mCons (mC (.int 0)) mNil))))) = n2 at c2 ⊢
  have hi : isA (.d (.bl true)) (.d (.bl true)) = some true := rfl
  simp (implicitDefEqProofs := false) only [run_sRet, run_mAndV, c1, obind_some, boolOf_val, andO_t, run_asV, run_tCmpM, c2, run_bnd, run_mC, run_cmp2, rv_val, bind2_some, hi, okB_some, run_ret, useM_val]
theorem law_true (ns : List Int) (hl : ns.length ≤ 63) : F_law [.d (.scr ns)] = some (.d (.bl true)) := by
  have em : m_law = sSeq (sSet 1 (mN (fN 1 F__law_box) (mCons (mV 0) mNil))) (sSeq (sFor (.nm 2) (mRange1 (mCons (mC (.int 6)) mNil)) mTurn) mEnd) := rfl
  unfold F_law runF
  rw [em]
  have es : initS 21 [.d (.scr ns)] = Env.s ⟨some (false, .d (.scr ns)), none, none, none, none, none, none, none, none, none, none, none, none, none, none, none, none, none, none, none, none⟩ := rfl
  rw [es]
  obtain ⟨b, eb, B, fb⟩ := box_ok hl
  have t1 : sSet 1 (mN (fN 1 F__law_box) (mCons (mV 0) mNil)) (Env.s ⟨some (false, .d (.scr ns)), none, none, none, none, none, none, none, none, none, none, none, none, none, none, none, none, none, none, none, none⟩) =
      some (.nx, Env.s ⟨some (false, .d (.scr ns)), some (true, b), none, none, none, none, none, none, none, none, none, none, none, none, none, none, none, none, none, none, none⟩) := by
    have e1 : mN (fN 1 F__law_box) (mCons (mV 0) mNil) (Env.s ⟨some (false, .d (.scr ns)), none, none, none, none, none, none, none, none, none, none, none, none, none, none, none, none, none, none, none, none⟩) = some (.val true b, Env.s ⟨some (false, .d (.scr ns)), none, none, none, none, none, none, none, none, none, none, none, none, none, none, none, none, none, none, none, none⟩) := by
      rw [arg1 (fi := false) (a := .d (.scr ns)) rfl, fN1, eb, ofin_some, fb]
    rw [set_own e1 (by simp [Env.s])]
    rfl
  rw [seq_nx t1]
  generalize he : (⟨some (false, .d (.scr ns)), some (true, b), none, none, none, none, none, none, none, none, none, none, none, none, none, none, none, none, none, none, none⟩ : Env) = e
  have h1 : e.x1 = some (true, b) := by subst he; rfl
  have i1 : mRange1 (mCons (mC (.int 6)) mNil) e.s = some (rangeL 0 6, e.s) := run_range1 run_mC rfl (by decide)
  obtain ⟨s', r, b', e', es', B', hb'⟩ := forL_ok (t := .nm 2) (b := mTurn) (its := rangeL 0 6) (s := e.s) (fun i s => ∃ (b' : A) (e' : Env), s = e'.s ∧ BoxOk b' ∧ e'.x1 = some (true, b')) ⟨b, e, rfl, B, h1⟩ (fun i a s ea ⟨b', e', es, B', hb'⟩ => by
    subst es
    obtain ⟨b2, e2, r2, B2, hb2, _⟩ := turn_run (e := { e' with x2 := some (false, a) }) B' hb'
    exact ⟨_, _, putI_nm (by simp [Env.s]), r2, b2, e2, rfl, B2, hb2⟩)
  have t2 : sFor (.nm 2) (mRange1 (mCons (mC (.int 6)) mNil)) mTurn e.s = some (.nx, s') := by rw [run_sFor, i1, obind_some, r]
  rw [seq_nx t2, end_run]
  rfl
end MM
namespace MM
open PySem PySem.Spec PyProof.Rows L2
theorem all_mk {l : PySem.W.OpenLaw} {w : World} {K : PySem.W.Frag} {h : Heap} {mg : Str → Option Value} {fa : Addr} (X : K.In h) (G : h.Ns mainGlobals mg) (hfa : mg "law" = some (.ref fa))
    {f0 : Addr} {od0 an0 : Option Addr} {sl0 : Array (Option Value)} {oc0 kV0 dc0 pm0 cd0 ct0 : Value}
    {f1 : Addr} {od1 an1 : Option Addr} {sl1 : Array (Option Value)} {oc1 kV1 dc1 pm1 cd1 ct1 : Value}
    {f2 : Addr} {od2 an2 : Option Addr} {sl2 : Array (Option Value)} {oc2 kV2 dc2 pm2 cd2 ct2 : Value}
    {f3 : Addr} {od3 an3 : Option Addr} {sl3 : Array (Option Value)} {oc3 kV3 dc3 pm3 cd3 ct3 : Value}
    {f4 : Addr} {od4 an4 : Option Addr} {sl4 : Array (Option Value)} {oc4 kV4 dc4 pm4 cd4 ct4 : Value}
    {f5 : Addr} {od5 an5 : Option Addr} {sl5 : Array (Option Value)} {oc5 kV5 dc5 pm5 cd5 ct5 : Value}
    {f6 : Addr} {od6 an6 : Option Addr} {sl6 : Array (Option Value)} {oc6 kV6 dc6 pm6 cd6 ct6 : Value}
    {f7 : Addr} {od7 an7 : Option Addr} {sl7 : Array (Option Value)} {oc7 kV7 dc7 pm7 cd7 ct7 : Value}
    (a0 : PySem.W.nsIn K mainGlobals "going_on" = some (some (.ref f0))) (l0 : K.lookup f0 = some ⟨oc0, od0, .func (PySem.W.fnOf "going_on" "going_on" (defArgs st_going_on) (defBody st_going_on) (defScope st_going_on) .none kV0 dc0 pm0 an0 cd0 ct0), sl0⟩) (c0 : PySem.W.codeIn K cd0 "going_on" = true) (k0 : PySem.W.keepIn K (.ref f0) = true)
    (a1 : PySem.W.nsIn K mainGlobals "is_through" = some (some (.ref f1))) (l1 : K.lookup f1 = some ⟨oc1, od1, .func (PySem.W.fnOf "is_through" "is_through" (defArgs st_is_through) (defBody st_is_through) (defScope st_is_through) .none kV1 dc1 pm1 an1 cd1 ct1), sl1⟩) (c1 : PySem.W.codeIn K cd1 "is_through" = true) (k1 : PySem.W.keepIn K (.ref f1) = true)
    (a2 : PySem.W.nsIn K mainGlobals "_law_box" = some (some (.ref f2))) (l2 : K.lookup f2 = some ⟨oc2, od2, .func (PySem.W.fnOf "_law_box" "_law_box" (defArgs st__law_box) (defBody st__law_box) (defScope st__law_box) .none kV2 dc2 pm2 an2 cd2 ct2), sl2⟩) (c2 : PySem.W.codeIn K cd2 "_law_box" = true) (k2 : PySem.W.keepIn K (.ref f2) = true)
    (a3 : PySem.W.nsIn K mainGlobals "_law_load" = some (some (.ref f3))) (l3 : K.lookup f3 = some ⟨oc3, od3, .func (PySem.W.fnOf "_law_load" "_law_load" (defArgs st__law_load) (defBody st__law_load) (defScope st__law_load) .none kV3 dc3 pm3 an3 cd3 ct3), sl3⟩) (c3 : PySem.W.codeIn K cd3 "_law_load" = true) (k3 : PySem.W.keepIn K (.ref f3) = true)
    (a4 : PySem.W.nsIn K mainGlobals "_law_draw" = some (some (.ref f4))) (l4 : K.lookup f4 = some ⟨oc4, od4, .func (PySem.W.fnOf "_law_draw" "_law_draw" (defArgs st__law_draw) (defBody st__law_draw) (defScope st__law_draw) .none kV4 dc4 pm4 an4 cd4 ct4), sl4⟩) (c4 : PySem.W.codeIn K cd4 "_law_draw" = true) (k4 : PySem.W.keepIn K (.ref f4) = true)
    (a5 : PySem.W.nsIn K mainGlobals "_law_same" = some (some (.ref f5))) (l5 : K.lookup f5 = some ⟨oc5, od5, .func (PySem.W.fnOf "_law_same" "_law_same" (defArgs st__law_same) (defBody st__law_same) (defScope st__law_same) .none kV5 dc5 pm5 an5 cd5 ct5), sl5⟩) (c5 : PySem.W.codeIn K cd5 "_law_same" = true) (k5 : PySem.W.keepIn K (.ref f5) = true)
    (a6 : PySem.W.nsIn K mainGlobals "_law_going" = some (some (.ref f6))) (l6 : K.lookup f6 = some ⟨oc6, od6, .func (PySem.W.fnOf "_law_going" "_law_going" (defArgs st__law_going) (defBody st__law_going) (defScope st__law_going) .none kV6 dc6 pm6 an6 cd6 ct6), sl6⟩) (c6 : PySem.W.codeIn K cd6 "_law_going" = true) (k6 : PySem.W.keepIn K (.ref f6) = true)
    (a7 : PySem.W.nsIn K mainGlobals "law" = some (some (.ref f7))) (l7 : K.lookup f7 = some ⟨oc7, od7, .func (PySem.W.fnOf "law" "law" (defArgs st_law) (defBody st_law) (defScope st_law) .none kV7 dc7 pm7 an7 cd7 ct7), sl7⟩) (c7 : PySem.W.codeIn K cd7 "law" = true) (k7 : PySem.W.keepIn K (.ref f7) = true)
    (z0 : PySem.W.nsIn K mainGlobals "all" = some none)
    (z1 : PySem.W.nsIn K mainGlobals "bool" = some none)
    (z2 : PySem.W.nsIn K mainGlobals "enumerate" = some none)
    (z3 : PySem.W.nsIn K mainGlobals "int" = some none)
    (z4 : PySem.W.nsIn K mainGlobals "isinstance" = some none)
    (z5 : PySem.W.nsIn K mainGlobals "len" = some none)
    (z6 : PySem.W.nsIn K mainGlobals "list" = some none)
    (z7 : PySem.W.nsIn K mainGlobals "max" = some none)
    (z8 : PySem.W.nsIn K mainGlobals "min" = some none)
    (z9 : PySem.W.nsIn K mainGlobals "range" = some none)
    (z10 : PySem.W.nsIn K mainGlobals "sorted" = some none)
    (z11 : PySem.W.nsIn K mainGlobals "str" = some none)
    (z12 : PySem.W.nsIn K mainGlobals "sum" = some none)
    (z13 : PySem.W.nsIn K mainGlobals "tuple" = some none) :
    ∃ fd : FuncData, (∀ (s : Shared) (v : Value), BindsTo s fd ⟨[v], []⟩ [("script", v)]) ∧ ∀ base : Heap, K.In base → base.Ns mainGlobals mg → FnOk l.prog w K mg base CX0 72 fa fd ["script"] (spF K 1 F_law) := by
  have e := hfa.symm.trans (PySem.W.mg_of X G a7)
  cases e
  have F0 := fun_mk (st := st_going_on) l0 c0 k0
  have b0 := F0.binds (ps := ["results", "quota", "further"]) fun _ _ _ _ _ _ us hl => match us, hl with | [_, _, _], _ => rfl
  have F1 := fun_mk (st := st_is_through) l1 c1 k1
  have b1 := F1.binds (ps := ["sizes", "place", "quota", "further", "group"]) fun _ _ _ _ _ _ us hl => match us, hl with | [_, _, _, _, _], _ => rfl
  have F2 := fun_mk (st := st__law_box) l2 c2 k2
  have b2 := F2.binds (ps := ["script"]) fun _ _ _ _ _ _ us hl => match us, hl with | [_], _ => rfl
  have F3 := fun_mk (st := st__law_load) l3 c3 k3
  have b3 := F3.binds (ps := ["box"]) fun _ _ _ _ _ _ us hl => match us, hl with | [_], _ => rfl
  have F4 := fun_mk (st := st__law_draw) l4 c4 k4
  have b4 := F4.binds (ps := ["box", "many"]) fun _ _ _ _ _ _ us hl => match us, hl with | [_, _], _ => rfl
  have F5 := fun_mk (st := st__law_same) l5 c5 k5
  have b5 := F5.binds (ps := ["a", "b"]) fun _ _ _ _ _ _ us hl => match us, hl with | [_, _], _ => rfl
  have F6 := fun_mk (st := st__law_going) l6 c6 k6
  have b6 := F6.binds (ps := ["results", "quota", "further"]) fun _ _ _ _ _ _ us hl => match us, hl with | [_, _, _], _ => rfl
  have F7 := fun_mk (st := st_law) l7 c7 k7
  have b7 := F7.binds (ps := ["script"]) fun _ _ _ _ _ _ us hl => match us, hl with | [_], _ => rfl
  exact ⟨_, fun s v => .of_eq rfl, fun base _ _ => ok_law (⟨PySem.W.mg_none_of X G z0, PySem.W.mg_none_of X G z1, PySem.W.mg_none_of X G z2, PySem.W.mg_none_of X G z3, PySem.W.mg_none_of X G z4, PySem.W.mg_none_of X G z5, PySem.W.mg_none_of X G z6, PySem.W.mg_none_of X G z7, PySem.W.mg_none_of X G z8, PySem.W.mg_none_of X G z9, PySem.W.mg_none_of X G z10, PySem.W.mg_none_of X G z11, PySem.W.mg_none_of X G z12, PySem.W.mg_none_of X G z13, _, _, F0, PySem.W.mg_of X G a0, b0, _, _, F1, PySem.W.mg_of X G a1, b1, _, _, F2, PySem.W.mg_of X G a2, b2, _, _, F3, PySem.W.mg_of X G a3, b3, _, _, F4, PySem.W.mg_of X G a4, b4, _, _, F5, PySem.W.mg_of X G a5, b5, _, _, F6, PySem.W.mg_of X G a6, b6, _, _, F7, PySem.W.mg_of X G a7, b7⟩ : Tx K mg) base⟩
theorem sp_law {K : PySem.W.Frag} {H : Hp} {a : Addr} {ns : List Int} (hl : ns.length ≤ 63) (hO : Only H) (hS : SqL K H a (ns.map V.int)) : spF K 1 F_law [.ref a] H (fun v _ => v = .bl true) fun _ _ _ => False := by
  have hs : ScrAt K H a ns := by
    rcases hS with (h | h) | h
    · rcases hO a with z | ⟨o, xs, z⟩
      · rw [h] at z; cases z
      · rw [h] at z; cases z
    · exact .inl h
    · exact .inr (.inr h)
  refine ⟨[.d (.scr ns)], [], .d (.bl true), rfl, Reps.one (rep_d ?_), law_true ns hl, fun v H' o' _ r => ?_⟩
  · unfold RepD
    exact ⟨a, rfl, hs⟩
  · have := repD_d r
    unfold RepD at this
    exact this
end MM
open PySem PySem.W PyProof.Rows
set_option maxHeartbeats 0 in
theorem PySem.Challenge.cw_marksrounded_k49_whole_who_goes_on_holds : PySem.Challenge.rw_marksrounded_k49_whole_who_goes_on.Holds := by
  w_on; o_law; k_head; (case hw => w_witness2)
  k_fill
  refine L2.walk_of (l := PySem.Challenge.rw_marksrounded_k49_whole_who_goes_on) (n := 63) (k := 72) (x := "script") (CX := fun _ => L2.CX0) (sp := fun w => MM.spF _ 1 MM.F_law) rfl (by decide) rfl ⟨rfl, by decide, by decide⟩ (fun w h Y => PySem.W.kIn_of Y) ?F (fun _ _ a ns hl hO hS => MM.sp_law hl hO hS) (fun _ _ _ _ _ h => h)
  case F =>
    intro w mg fa h KX G hmg
    refine' MM.all_mk KX G hmg ?a0 ?l0 ?c0 ?k0 ?a1 ?l1 ?c1 ?k1 ?a2 ?l2 ?c2 ?k2 ?a3 ?l3 ?c3 ?k3 ?a4 ?l4 ?c4 ?k4 ?a5 ?l5 ?c5 ?k5 ?a6 ?l6 ?c6 ?k6 ?a7 ?l7 ?c7 ?k7 ?z0 ?z1 ?z2 ?z3 ?z4 ?z5 ?z6 ?z7 ?z8 ?z9 ?z10 ?z11 ?z12 ?z13
    (case a0 => k_is); (case l0 => k_is); (case c0 => k_is); (case k0 => k_is); (case a1 => k_is); (case l1 => k_is); (case c1 => k_is); (case k1 => k_is); (case a2 => k_is); (case l2 => k_is); (case c2 => k_is); (case k2 => k_is); (case a3 => k_is); (case l3 => k_is); (case c3 => k_is); (case k3 => k_is); (case a4 => k_is); (case l4 => k_is); (case c4 => k_is); (case k4 => k_is); (case a5 => k_is); (case l5 => k_is); (case c5 => k_is); (case k5 => k_is); (case a6 => k_is); (case l6 => k_is); (case c6 => k_is); (case k6 => k_is); (case a7 => k_is); (case l7 => k_is); (case c7 => k_is); (case k7 => k_is); (case z0 => k_is); (case z1 => k_is); (case z2 => k_is); (case z3 => k_is); (case z4 => k_is); (case z5 => k_is); (case z6 => k_is); (case z7 => k_is); (case z8 => k_is); (case z9 => k_is); (case z10 => k_is); (case z11 => k_is); (case z12 => k_is); (case z13 => k_is)
